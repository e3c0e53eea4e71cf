import PyProof.Rows.All
import Wide.All
import OpenK.AllK
import Wide.FinOn
import HandS.ForMost
import HandS.ForExc
import HandS.More
import HandS.Defaults
import HandS.ExcInit
import HandS.MakeKwOnly
import HandS.ClsMeth
import HandS.ExcInitHot
import HandS.HeadHook4
import HandS.HeadEnd
import HandS.Head2
import PySem.Challenge.RW_wordhoard_k13_loops
import HandS.StrMore
import HandS.Conv
import HandS.Text
import HandS.Steps
import HandS.Style
import HandS.ExcField
import KE.KIsAll
import KE.KStateDown
import HandS.Head0
import HandS.Head1
import KE.IntTextLaws
import HandS.TryOnly
import HandS.Rev
import HandS.Comp
import HandS.Finally
import HandS.SuiteRaise
import HandS.HotCalls
import KE.KExcRaise
import HandS.CallSlots
import HandS.HeadHook1
import KE.KExcIs
import HandS.IsInst
import HandS.RaiseMore
import HandS.Iter
set_option Elab.async false
set_option linter.all false
set_option maxRecDepth 100000
set_option maxHeartbeats 1000000
namespace WH
open PySem PySem.Spec PyProof.Rows L2
/-! ### sub-heaps -/
def Disj (h1 h2 : Hp) : Prop := ∀ a, h1 a = none ∨ h2 a = none
def uni (h1 h2 : Hp) : Hp := fun a => match h1 a with
  | some o => some o
  | none => h2 a
/-- beside the frame H0 a part hs of the heap H is owned -/
structure Sep (H0 hs H : Hp) : Prop where
  dj : Disj H0 hs
  fr : Same H0 H
  own : Same hs H
theorem Sep.not {H0 hs H : Hp} (s : Sep H0 hs H) {a : Addr} {o : HO} (h : hs a = some o) : H0 a = none := by
  rcases s.dj a with e | e
  · exact e
  · rw [h] at e
    cases e
theorem Sep.not' {H0 hs H : Hp} (s : Sep H0 hs H) {a : Addr} {o : HO} (h : H0 a = some o) : hs a = none := by
  rcases s.dj a with e | e
  · rw [h] at e
    cases e
  · exact e
theorem Sep.fresh0 {H0 hs H : Hp} (s : Sep H0 hs H) {a : Addr} (h : H a = none) : H0 a = none := s.fr.free h
theorem Sep.freshs {H0 hs H : Hp} (s : Sep H0 hs H) {a : Addr} (h : H a = none) : hs a = none := s.own.free h
/-- an owned object is changed -/
theorem Sep.put {H0 hs H : Hp} (s : Sep H0 hs H) {a : Addr} {o u : HO} (h : hs a = some o) : Sep H0 (upd hs a u) (upd H a u) := by
  have n := s.not h
  refine ⟨fun b => ?_, fun b v q => ?_, fun b v q => ?_⟩
  · by_cases e : b = a
    · rw [e]
      exact .inl n
    · rw [upd_ne e]
      exact s.dj b
  · rw [upd_ne (ne_of_none q n)]
    exact s.fr b v q
  · by_cases e : b = a
    · rw [e, upd_same] at q
      rw [e, upd_same]
      exact q
    · rw [upd_ne e] at q
      rw [upd_ne e]
      exact s.own b v q
/-- a new object becomes owned -/
theorem Sep.new {H0 hs H : Hp} (s : Sep H0 hs H) {a : Addr} {u : HO} (h : H a = none) : Sep H0 (upd hs a u) (upd H a u) := by
  have n := s.fresh0 h
  refine ⟨fun b => ?_, fun b v q => ?_, fun b v q => ?_⟩
  · by_cases e : b = a
    · rw [e]
      exact .inl n
    · rw [upd_ne e]
      exact s.dj b
  · rw [upd_ne (ne_of_none q n)]
    exact s.fr b v q
  · by_cases e : b = a
    · rw [e, upd_same] at q
      rw [e, upd_same]
      exact q
    · rw [upd_ne e] at q
      rw [upd_ne e]
      exact s.own b v q
/-- a new object goes to the frame -/
theorem Sep.newF {H0 hs H : Hp} (s : Sep H0 hs H) {a : Addr} {u : HO} (h : H a = none) : Sep (upd H0 a u) hs (upd H a u) := by
  have n := s.freshs h
  refine ⟨fun b => ?_, fun b v q => ?_, fun b v q => ?_⟩
  · by_cases e : b = a
    · rw [e]
      exact .inr n
    · rw [upd_ne e]
      exact s.dj b
  · by_cases e : b = a
    · rw [e, upd_same] at q
      rw [e, upd_same]
      exact q
    · rw [upd_ne e] at q
      rw [upd_ne e]
      exact s.fr b v q
  · rw [upd_ne (ne_of_none q n)]
    exact s.own b v q
/-- a new object is let go -/
theorem Sep.skip {H0 hs H : Hp} (s : Sep H0 hs H) {a : Addr} {u : HO} (h : H a = none) : Sep H0 hs (upd H a u) := by
  refine ⟨s.dj, fun b v q => ?_, fun b v q => ?_⟩
  · rw [upd_ne (ne_of_none q (s.fresh0 h))]
    exact s.fr b v q
  · rw [upd_ne (ne_of_none q (s.freshs h))]
    exact s.own b v q
/-- what is owned may be told apart: h2 goes to the frame -/
theorem uni_l {h1 h2 : Hp} {a : Addr} {o : HO} (h : h1 a = some o) : uni h1 h2 a = some o := by
  unfold uni
  rw [h]
theorem uni_r {h1 h2 : Hp} {a : Addr} (h : h1 a = none) : uni h1 h2 a = h2 a := by
  unfold uni
  rw [h]
theorem uni_none {h1 h2 : Hp} {a : Addr} (h : h1 a = none) (h' : h2 a = none) : uni h1 h2 a = none := by
  rw [uni_r h, h']
theorem Sep.split {H0 h1 h2 H : Hp} (s : Sep H0 (uni h1 h2) H) (d : Disj h1 h2) : Sep (uni H0 h2) h1 H := by
  refine ⟨fun a => ?_, fun a o q => ?_, fun a o q => s.own a o (uni_l q)⟩
  · cases e1 : h1 a with
    | none => exact .inr rfl
    | some o =>
      refine .inl (uni_none (s.not (uni_l e1)) ?_)
      rcases d a with z | z
      · rw [e1] at z
        cases z
      · exact z
  · cases e0 : H0 a with
    | some u =>
      rw [uni_l e0] at q
      rw [← q]
      exact s.fr a u e0
    | none =>
      rw [uni_r e0] at q
      refine s.own a o ?_
      cases e1 : h1 a with
      | none => rw [uni_r e1, q]
      | some u =>
        rcases d a with z | z
        · rw [e1] at z
          cases z
        · rw [q] at z
          cases z
theorem Sep.join {H0 h1 h2 H : Hp} (s : Sep (uni H0 h2) h1 H) (d : Disj H0 h2) : Sep H0 (uni h1 h2) H ∧ Disj h1 h2 := by
  have key : ∀ {a : Addr} {o : HO}, h2 a = some o → uni H0 h2 a = some o := fun {a o} e => by
    have n : H0 a = none := by
      rcases d a with z | z
      · exact z
      · rw [e] at z
        cases z
    rw [uni_r n, e]
  refine ⟨⟨fun a => ?_, fun a o q => s.fr a o (uni_l q), fun a o q => ?_⟩, fun a => ?_⟩
  · cases e0 : H0 a with
    | none => exact .inl rfl
    | some u =>
      refine .inr (uni_none (s.not' (uni_l e0)) ?_)
      rcases d a with z | z
      · rw [e0] at z
        cases z
      · exact z
  · cases e1 : h1 a with
    | some u =>
      rw [uni_l e1] at q
      rw [← q]
      exact s.own a u e1
    | none =>
      rw [uni_r e1] at q
      exact s.fr a o (key q)
  · cases e2 : h2 a with
    | none => exact .inr rfl
    | some u => exact .inl (s.not' (key e2))
/-- item by item -/
inductive All2 {α β : Type} (R : α → β → Prop) : List α → List β → Prop
  | nil : All2 R [] []
  | cons {a b as bs} : R a b → All2 R as bs → All2 R (a :: as) (b :: bs)
theorem All2.len {α β : Type} {R : α → β → Prop} : ∀ {as : List α} {bs : List β}, All2 R as bs → as.length = bs.length
  | _, _, .nil => rfl
  | _, _, .cons _ t => by rw [List.length_cons, List.length_cons, t.len]
theorem All2.imp {α β : Type} {R R' : α → β → Prop} : ∀ {as : List α} {bs : List β}, All2 R as bs → (∀ a b, a ∈ as → b ∈ bs → R a b → R' a b) → All2 R' as bs
  | _, _, .nil, _ => .nil
  | _, _, .cons r t, f => .cons (f _ _ List.mem_cons_self List.mem_cons_self r) (t.imp fun a b ha hb => f a b (List.mem_cons_of_mem _ ha) (List.mem_cons_of_mem _ hb))
theorem All2.app {α β : Type} {R : α → β → Prop} : ∀ {as as' : List α} {bs bs' : List β}, All2 R as bs → All2 R as' bs' → All2 R (as ++ as') (bs ++ bs')
  | _, _, _, _, .nil, s => s
  | _, _, _, _, .cons r t, s => .cons r (t.app s)
theorem All2.get {α β : Type} {R : α → β → Prop} : ∀ {as : List α} {bs : List β} {i : Nat} {b : β}, All2 R as bs → bs[i]? = some b → ∃ a, as[i]? = some a ∧ R a b
  | _, _, _, _, .nil, e => by simp at e
  | _, _, 0, _, .cons r _, e => by
    simp at e
    subst e
    exact ⟨_, rfl, r⟩
  | _, _, i + 1, b, .cons _ t, e => by
    obtain ⟨a, h1, h2⟩ := t.get (i := i) (b := b) (by simpa using e)
    exact ⟨a, by simpa using h1, h2⟩
theorem All2.getL {α β : Type} {R : α → β → Prop} : ∀ {as : List α} {bs : List β} {i : Nat} {a : α}, All2 R as bs → as[i]? = some a → ∃ b, bs[i]? = some b ∧ R a b
  | _, _, _, _, .nil, e => by simp at e
  | _, _, 0, _, .cons r _, e => by
    simp at e
    subst e
    exact ⟨_, rfl, r⟩
  | _, _, i + 1, a, .cons _ t, e => by
    obtain ⟨b, h1, h2⟩ := t.getL (i := i) (a := a) (by simpa using e)
    exact ⟨b, by simpa using h1, h2⟩
theorem All2.take {α β : Type} {R : α → β → Prop} : ∀ {as : List α} {bs : List β} (n : Nat), All2 R as bs → All2 R (as.take n) (bs.take n)
  | _, _, 0, _ => .nil
  | _, _, _ + 1, .nil => .nil
  | _, _, n + 1, .cons r t => .cons r (t.take n)
theorem All2.drop {α β : Type} {R : α → β → Prop} : ∀ {as : List α} {bs : List β} (n : Nat), All2 R as bs → All2 R (as.drop n) (bs.drop n)
  | _, _, 0, r => r
  | _, _, _ + 1, .nil => .nil
  | _, _, n + 1, .cons _ t => t.drop n
end WH
set_option Elab.async false
set_option linter.all false
set_option maxRecDepth 100000
set_option maxHeartbeats 1000000
namespace WH
open PySem (Str)
/-! ### the mirror: numbers -/
def rounded (n : Int) : Int := (n - (-32768)) % 65536 + (-32768)
def truthI (b : Bool) : Int := if b then -1 else 0
def isDig (c : Nat) : Bool := decide (48 ≤ c) && decide (c ≤ 57)
def valOf (l : List Nat) : Int := l.foldl (fun (a : Int) (c : Nat) => 10 * a + ((c : Int) - 48)) 0
def numRange (n : Int) : Option Int := if -32768 ≤ n ∧ n ≤ 32767 then some n else none
def numOf (l : List Nat) : Option Int :=
  let neg := decide (l.head? = some 45)
  let fig := if neg then l.tail else l
  if decide (1 ≤ fig.length) && decide (fig.length ≤ 5) && fig.all isDig then
    if decide (fig.head? = some 48) && decide (l ≠ [48]) then none
    else numRange (if neg then - valOf fig else valOf fig)
  else none
def numberOf (w : Str) : Option Int := numOf w.cps.toList
/-! ### deeds on the pile alone -/
def faces : List (Str × Int × Int) := ([("dup", 1, 2), ("drop", 1, 0), ("swap", 2, 2), ("over", 2, 3), ("rot", 3, 3), ("nip", 2, 1), ("2dup", 2, 4)] : List (Str × Int × Int)) ++
  ([("2drop", 2, 0), ("+", 2, 1), ("-", 2, 1), ("*", 2, 1), ("/", 2, 1), ("mod", 2, 1), ("and", 2, 1), ("or", 2, 1)] : List (Str × Int × Int)) ++
  ([("xor", 2, 1), ("=", 2, 1), ("<", 2, 1), (">", 2, 1), ("negate", 1, 1), ("invert", 1, 1), ("0=", 1, 1)] : List (Str × Int × Int))
def moved (w : Str) (xs : List Int) : Option (List Int) :=
  if w = "dup" then some (xs ++ xs)
  else if w = "drop" ∨ w = "2drop" then some []
  else if w = "swap" then some xs.reverse
  else if w = "over" then some (xs ++ xs.take 1)
  else if w = "rot" then some (xs.drop 1 ++ xs.take 1)
  else if w = "nip" then some (xs.drop 1)
  else if w = "2dup" then some (xs ++ xs)
  else none
def compared (w : Str) (a b : Int) : Option Bool :=
  if w = "=" then some (decide (a = b))
  else if w = "<" then some (decide (a < b))
  else if w = ">" then some (decide (b < a))
  else none
def reckoned (w : Str) (a b : Int) : Int :=
  if w = "+" ∨ w = "-" then (if w = "+" then a + b else a - b)
  else if w = "*" then a * b
  else if w = "/" ∨ w = "mod" then (if w = "/" then a.fdiv b else a.fmod b)
  else if w = "and" then PySem.Builtin.bitAnd a b
  else if w = "or" then PySem.Builtin.bitOr a b
  else PySem.Builtin.bitXor a b
/-- what a deed leaves of one number -/
def leftOne (w : Str) (a : Int) : Int := if w = "negate" then 0 - a else if w = "invert" then -1 - a else truthI (decide (a = 0))
def leftBy (w : Str) (xs : List Int) : Option (List Int) :=
  match moved w xs with
  | some ys => some ys
  | none => match xs with
    | [a] => some [rounded (leftOne w a)]
    | [a, b] => match compared w a b with
      | some t => some [truthI t]
      | none => if (w = "/" ∨ w = "mod") ∧ b = 0 then none else some [rounded (reckoned w a b)]
    | _ => none
/-! ### the machine -/
inductive Err where
  | noWord (w : Str) | noName | short | deep | sideShort | sideDeep | byNought | badCell | full | tooLong | unfit | onlyWithin | noForget
  deriving DecidableEq
inductive Kind where
  | deed | row | fixed | cell | mark
  deriving DecidableEq
def Kind.str : Kind → Str
  | .deed => "deed" | .row => "row" | .fixed => "fixed" | .cell => "cell" | .mark => "mark"
structure Ent where
  num : Int
  name : Str
  kind : Kind
  start : Int
  fin : Int
  worth : Int
  beyond : Option Int
  now : Bool
  deriving DecidableEq
structure MS where
  cells : List Int
  mc : Int
  stack : List Int
  ms : Int
  back : List Int
  book : List Ent
  spot : Int
  left : Int
  at_ : Int
  told : List Int
  opened : Option (Str × Int)
  words : List Str
  mode : Bool
  ties : List (Str × Int)
  many : Int
inductive Out (α : Type) where
  | ok (a : α) (s : MS)
  | err (e : Err) (s : MS)
  /-- beyond what is looked at -/
  | stuck
abbrev M (α : Type) : Type := MS → Out α
def M.bind {α β : Type} (m : M α) (f : α → M β) : M β := fun s => match m s with
  | .ok a s' => f a s'
  | .err e s' => .err e s'
  | .stuck => .stuck
instance : Monad M where
  pure a := fun s => .ok a s
  bind := M.bind
def fail {α : Type} (e : Err) : M α := fun s => .err e s
def stuck {α : Type} : M α := fun _ => .stuck
/-- what must be so -/
def must (c : MS → Bool) : M Unit := fun s => if c s = true then .ok () s else .stuck
def LIM : Nat := 1000000
def get' : M MS := fun s => .ok s s
def modify' (f : MS → MS) : M Unit := fun s => .ok () (f s)
def need (many more : Int) : M Unit := fun s =>
  if (s.stack.length : Int) < many then .err .short s else if s.ms < (s.stack.length : Int) + more then .err .deep s else .ok () s
def needSide (many more : Int) : M Unit := fun s =>
  if (s.back.length : Int) < many then .err .sideShort s else if 32 < (s.back.length : Int) + more then .err .sideDeep s else .ok () s
def needCell (a : Int) : M Unit := fun s => if 0 ≤ a ∧ a < (s.cells.length : Int) then .ok () s else .err .badCell s
def needRoom (many : Int) : M Unit := fun s => if many < 0 ∨ s.mc < (s.cells.length : Int) + many then .err .full s else .ok () s
def entryAt (n : Int) : M Ent := fun s => if 0 ≤ n ∧ n < (s.book.length : Int) then
  (match s.book[n.toNat]? with
    | some e => .ok e s
    | none => .stuck) else .err .badCell s
def push (x : Int) : M Unit := fun s => if s.stack.length < LIM then .ok () { s with stack := s.stack ++ [x] } else .stuck
def pop : M Int := fun s => match s.stack.getLast? with
  | some x => .ok x { s with stack := s.stack.dropLast }
  | none => .stuck
def top' (s : MS) : Int := s.stack.getLastD 0
def setSpot (x : Int) : M Unit := modify' fun s => { s with spot := x }
def cellAt (s : MS) (a : Int) : Int := s.cells.getD a.toNat 0
/-- factors and divisors that are small -/
def fitsBy (w : Str) (s : MS) : Bool := decide (s.stack.length < LIM) && ((s.stack.drop (s.stack.length - 2)).all fun x => decide (-(2 ^ 29) < x) && decide (x < 2 ^ 29))
def doPlain (w : Str) : M Unit := match faces.lookup w with
  | none => stuck
  | some (n, l) => do
    need n (l - n)
    must (fitsBy w)
    let s ← get'
    match leftBy w (s.stack.drop (s.stack.length - n.toNat)) with
    | none => fail .byNought
    | some ys => modify' fun s => { s with stack := s.stack.take (s.stack.length - n.toNat) ++ ys }
def doLoop (n : Int) : M Unit := do
  needSide 2 0
  let s ← get'
  let top := s.back.getLastD 0
  let low := s.back.dropLast.getLastD 0
  if top + 1 < low then modify' fun s => { s with back := s.back.dropLast ++ [top + 1], spot := n }
  else modify' fun s => { s with back := s.back.dropLast.dropLast, spot := s.spot + 1 }
def doPaired (w : Str) : M Unit := do
  let s ← get'
  needCell s.spot
  let n := cellAt s s.spot
  if w = "(lit)" then do
    need 0 1
    push n
    modify' fun s => { s with spot := s.spot + 1 }
  else if w = "(jump)" then setSpot n
  else if w = "(bare)" then do
    need 1 0
    let x ← pop
    if x = 0 then setSpot n else modify' fun s => { s with spot := s.spot + 1 }
  else doLoop n
def doSide (w : Str) : M Unit :=
  if w = ">r" then do
    need 1 0
    needSide 0 1
    let x ← pop
    modify' fun s => { s with back := s.back ++ [x] }
  else do
    need 0 1
    needSide 1 0
    let s ← get'
    push (s.back.getLastD 0)
    if w = "r>" then modify' fun s => { s with back := s.back.dropLast } else pure ()
def doCells (w : Str) : M Unit :=
  if w = "here" then do
    need 0 1
    push ((← get').cells.length : Int)
  else if w = "@" ∨ w = "!" ∨ w = "+!" then do
    need (if w = "@" then 1 else 2) 0
    needCell (top' (← get'))
    let a ← pop
    if w = "@" then push (cellAt (← get') a)
    else do
      let x ← pop
      let s ← get'
      let worth := x + (if w = "+!" then cellAt s a else 0)
      modify' fun s => { s with cells := s.cells.set a.toNat (rounded worth) }
  else do
    need 1 0
    let s ← get'
    needRoom (if w = "allot" then top' s else 1)
    let x ← pop
    must fun s => decide (0 ≤ x ∨ w ≠ "allot") && (decide (x < 1000000 ∨ w ≠ "allot") && decide (s.cells.length < LIM))
    modify' fun s => { s with cells := s.cells ++ (if w = "allot" then List.replicate x.toNat 0 else [x]) }
def giveDeeds : M Unit := do
  needSide 1 0
  let s ← get'
  match s.book.getLast? with
  | none => fail .unfit
  | some e =>
    if e.kind = .cell then
      modify' fun s => { s with book := s.book.dropLast ++ [{ e with beyond := some s.spot }], spot := s.back.getLastD 0, back := s.back.dropLast }
    else fail .unfit
def forgetFrom (n : Int) : M Unit := fun s => match s.book[n.toNat]? with
  | some e => if 0 ≤ n ∧ 0 ≤ e.start ∧ s.book.length ≤ LIM ∧ s.cells.length ≤ LIM then .ok () { s with cells := s.cells.take e.start.toNat, book := s.book.take n.toNat } else .stuck
  | none => .stuck
/-! ### those that tell -/
def within : List Str := ["(lit)", "(jump)", "(bare)", "(loop)", "(do)", "(does)", "exit"]
def paired : List Str := ["(lit)", "(jump)", "(bare)", "(loop)"]
def sidewise : List Str := [">r", "r>", "r@", "i"]
def storing : List Str := ["@", "!", "+!", "here", ",", "allot", "compile,"]
def making : List Str := ["create", "variable", "constant", "marker", "forget", ":"]
def naming : List Str := ["'", "]", "immediate", "state"]
def nowWords : List Str := ([";", "[", "if", "else", "then", "begin", "until", "again", "while", "repeat"] : List Str) ++ (["do", "loop", "recurse", "literal", "postpone", "does>", "("] : List Str)
def others : List Str := [".", "execute", "(do)", "(does)", "exit"]
def deedNames : List Str := faces.map (·.1) ++ sidewise ++ storing ++ paired ++ others ++ making ++ naming
/-- the deeds, in the order of their numbers -/
def entsFrom (now : Bool) : Nat → List Str → List Ent
  | _, [] => []
  | i, w :: r => { num := i, name := w, kind := .deed, start := 0, fin := 0, worth := 0, beyond := none, now := now } :: entsFrom now (i + 1) r
def deedEnts : List Ent := entsFrom false 0 deedNames ++ entsFrom true deedNames.length nowWords
/-- the deeds stand as they were laid -/
def deedsOk (s : MS) : Bool := decide (s.book.take 69 = deedEnts) && decide (s.many = 69)
def numForM (w : Str) : M Int := fun s => if deedsOk s = true then (match deedEnts.find? (fun e => decide (e.name = w)) with
  | some e => .ok e.num s
  | none => .stuck) else .stuck
def lay (xs : List Int) : M Unit := do
  needRoom xs.length
  must fun s => decide (s.cells.length < LIM)
  modify' fun s => { s with cells := s.cells ++ xs }
def known (s : MS) (w : Str) : Option Ent := s.book.reverse.find? fun e => decide (e.name = w)
def nextName : M Str := fun s =>
  if (s.words.length : Int) ≤ s.at_ + 1 then .err .noName s else if 0 ≤ s.at_ then .ok (s.words.getD (s.at_ + 1).toNat Str.empty) { s with at_ := s.at_ + 1 } else .stuck
def nextKnown : M Ent := do
  let n ← nextName
  let s ← get'
  match known s n with
  | none => fail (.noWord n)
  | some e => pure e
def addEntry (name : Str) (k : Kind) (worth : Int) : M Unit := fun s => if s.book.length < LIM then .ok ()
  { s with book := s.book ++ [{ num := s.book.length, name := name, kind := k, start := s.cells.length, fin := 0, worth := worth, beyond := none, now := false }] } else .stuck
def doMarking (w : Str) : M Unit := fun s =>
  if w = "]" then (if s.opened = none then .err .unfit s else .ok () { s with mode := true })
  else if (s.book.length : Int) = s.many then .err .unfit s
  else match s.book.getLast? with
    | none => .stuck
    | some e => .ok () { s with book := s.book.dropLast ++ [{ e with now := true }] }
def doMaking (w : Str) : M Unit := do
  let s ← get'
  if s.opened ≠ none then fail .unfit
  else if w = "forget" then do
    let e ← nextKnown
    if e.kind = .deed then fail .noForget else forgetFrom e.num
  else if w = ":" then do
    let n ← nextName
    modify' fun s => { s with opened := some (n, s.cells.length), mode := true }
  else if w = "constant" then do
    need 1 0
    let n ← nextName
    let x ← pop
    addEntry n .fixed x
  else if w = "marker" then do
    let n ← nextName
    addEntry n .mark 0
  else do
    needRoom (if w = "variable" then 1 else 0)
    let n ← nextName
    addEntry n .cell 0
    must fun s => decide (s.cells.length < LIM)
    modify' fun s => { s with cells := s.cells ++ (if w = "variable" then [0] else []) }
def endWord : M Unit := do
  let s ← get'
  if s.ties ≠ [] then fail .unfit
  else do
    let x ← numForM "exit"
    lay [x]
    let s ← get'
    must fun s => decide (s.book.length < LIM)
    match s.opened with
    | none => stuck
    | some (n, b) => modify' fun s => { s with book := s.book ++ [{ num := s.book.length, name := n, kind := .row, start := b, fin := s.cells.length, worth := 0, beyond := none, now := false }], opened := none, mode := false }
def layPostponed (e : Ent) : M Unit := if e.now then lay [e.num] else do
  let x ← numForM "(lit)"
  let y ← numForM "compile,"
  lay [x, e.num, y]
def needTie (w : Str) : M Unit := fun s => match s.ties.getLast? with
  | some (v, _) => if v = w then .ok () s else .err .unfit s
  | none => .err .unfit s
def layJump (w : Str) (g : Int) : M Int := do
  let x ← numForM w
  lay [x, g]
  return ((← get').cells.length : Int) - 1
def addTie (w : Str) (c : Int) : M Unit := fun s => if s.ties.length < LIM then .ok () { s with ties := s.ties ++ [(w, c)] } else .stuck
/-- the innermost one's cell, which is open no more -/
def popTie : M Int := fun s => match s.ties.getLast? with
  | some (_, c) => .ok c { s with ties := s.ties.dropLast }
  | none => .stuck
/-- the cell gets the number of the next one -/
def close (c : Int) : M Unit := fun s => if 0 ≤ c ∧ c < (s.cells.length : Int) then .ok () { s with cells := s.cells.set c.toNat s.cells.length } else .stuck
def tieCell (back : Nat) : M Int := fun s => match s.ties[s.ties.length - back]? with
  | some (_, c) => if back ≤ s.ties.length then .ok c s else .stuck
  | none => .stuck
def layTied (w : Str) : M Unit :=
  if w = "if" then do
    let c ← layJump "(bare)" 0
    addTie "if" c
  else if w = "else" then do
    needTie "if"
    let c ← layJump "(jump)" 0
    let t ← popTie
    close t
    addTie "if" c
  else if w = "then" then do
    needTie "if"
    let t ← popTie
    close t
  else if w = "begin" then do
    addTie "begin" ((← get').cells.length : Int)
  else if w = "do" then do
    let x ← numForM "(do)"
    lay [x]
    addTie "do" ((← get').cells.length : Int)
  else if w = "while" then do
    needTie "begin"
    let c ← layJump "(bare)" 0
    addTie "while" c
  else if w = "repeat" then do
    needTie "while"
    let g ← tieCell 2
    let _ ← layJump "(jump)" g
    let t ← popTie
    close t
    let _ ← popTie
    pure ()
  else do
    must fun _ => decide (w = "until" ∨ w = "again" ∨ w = "loop")
    needTie (if w = "loop" then "do" else "begin")
    let g ← tieCell 1
    let _ ← layJump (if w = "until" then "(bare)" else if w = "again" then "(jump)" else "(loop)") g
    let _ ← popTie
    pure ()
def doLaying (w : Str) : M Unit := do
  let s ← get'
  if s.mode = false then fail .onlyWithin
  else if w = ";" then endWord
  else if w = "[" then modify' fun s => { s with mode := false }
  else if w = "recurse" then lay [(s.book.length : Int)]
  else if w = "literal" then do
    need 1 0
    let y ← numForM "(lit)"
    let s ← get'
    lay [y, top' s]
    let _ ← pop
    pure ()
  else if w = "postpone" then do
    let e ← nextKnown
    layPostponed e
  else if w = "does>" then do
    let x ← numForM "(does)"
    lay [x]
  else layTied w
/-- words are passed by, up to one that is a closing bracket -/
def passBy : Nat → M Unit
  | 0 => stuck
  | n + 1 => do
    let w ← nextName
    if w = ")" then pure () else passBy n
def doTelling (w : Str) : M Unit :=
  if w ∈ making then doMaking w
  else if w = "'" then do
    need 0 1
    let e ← nextKnown
    push e.num
  else if w = "state" then do
    need 0 1
    push (truthI (← get').mode)
  else if w = "]" ∨ w = "immediate" then doMarking w
  else if w = "(" then do
    passBy ((← get').words.length + 1)
  else doLaying w
def doOther (go : Ent → M Unit) (w : Str) : M Unit :=
  if w = "." then do
    need 1 0
    let x ← pop
    must fun s => decide (s.told.length < LIM)
    modify' fun s => { s with told := s.told ++ [x] }
  else if w = "exit" then do
    needSide 1 0
    modify' fun s => { s with spot := s.back.getLastD 0, back := s.back.dropLast }
  else if w = "execute" then do
    need 1 0
    let e ← entryAt (top' (← get'))
    let _ ← pop
    go e
  else if w = "(do)" then do
    need 2 0
    needSide 0 2
    must fun s => decide (s.stack.length < LIM)
    modify' fun s => { s with back := s.back ++ s.stack.drop (s.stack.length - 2), stack := s.stack.take (s.stack.length - 2) }
  else if w = "(does)" then giveDeeds
  else doTelling w
def doDeed (go : Ent → M Unit) (w : Str) : M Unit := do
  let s ← get'
  if w ∈ within ∧ s.spot = -1 then fail .onlyWithin
  else if w ∈ faces.map (·.1) then doPlain w
  else if w ∈ paired then doPaired w
  else if w ∈ sidewise then doSide w
  else if w ∈ storing then doCells w
  else doOther go w
def goBegins (e : Ent) : Option Int := if e.kind = .row then some e.start else e.beyond
def goIn : Option Int → M Unit
  | some b => needSide 0 1 >>= fun _ => modify' fun s => { s with back := s.back ++ [s.spot], spot := b }
  | none => pure ()
def goTo (e : Ent) : M Unit :=
  if e.kind = .cell then need 0 1 >>= fun _ => goIn e.beyond >>= fun _ => push e.start
  else goIn (goBegins e)
def goWith (go : Ent → M Unit) (e : Ent) : M Unit := match e.kind with
  | .deed => doDeed go e.name
  | .fixed => do
    need 0 1
    push e.worth
  | .mark => do
    let s ← get'
    if s.opened ≠ none then fail .unfit else forgetFrom e.num
  | _ => goTo e
/-- n: how many words are done by execute, one in another, at the most -/
def goInto : Nat → Ent → M Unit
  | 0 => goWith fun _ => stuck
  | n + 1 => goWith (goInto n)
def enter (n : Nat) (e : Ent) : M Unit := fun s =>
  let s1 := { s with left := s.left - 1 }
  if s1.left < 0 then .err .tooLong s1 else goInto n e s1
/-- the cells are done, one by one; f: more than may be done yet -/
def runFrom (n : Nat) : Nat → M Unit
  | 0 => stuck
  | f + 1 => fun s => if s.spot = -1 then .ok () s else (do
    needCell s.spot
    let e ← entryAt (cellAt s s.spot)
    modify' fun s => { s with spot := s.spot + 1 }
    enter n e
    runFrom n f : M Unit) s
def perform (n : Nat) (e : Ent) : M Unit := do
  setSpot (-1)
  enter n e
  runFrom n ((← get').left.toNat + 1)
def oneWord (n : Nat) (w : Str) : M Unit := fun s => match known s w with
  | some e => if s.mode = true ∧ e.now = false then lay [e.num] s else perform n e s
  | none => if w.length ≤ LIM then (match numberOf w with
    | none => .err (.noWord w) s
    | some x => if s.mode = true then (do
      let y ← numForM "(lit)"
      lay [y, x] : M Unit) s else (do
      need 0 1
      push x : M Unit) s) else .stuck
/-- the text's words, from the one at at_ on; f: more than there are yet -/
def wordsFrom (n : Nat) : Nat → M Unit
  | 0 => stuck
  | f + 1 => fun s => if s.at_ < (s.words.length : Int) then (do
    must fun s => decide (0 ≤ s.at_)
    oneWord n (s.words.getD s.at_.toNat Str.empty)
    modify' fun s => { s with at_ := s.at_ + 1, back := [] }
    wordsFrom n f : M Unit) s else .ok () s
def cutOpen (s : MS) : List Int := match s.opened with
  | some (_, b) => s.cells.take b.toNat
  | none => s.cells
def strike (s : MS) : MS := { s with cells := cutOpen s, opened := none, mode := false, ties := [] }
def putBack (k s : MS) : MS := { s with cells := k.cells, stack := k.stack, book := k.book, told := k.told, mode := k.mode, opened := k.opened, ties := k.ties }
def quiet (s : MS) : MS := { s with back := [], words := [], spot := -1 }
/-- ws: the text's words -/
def tellM (n : Nat) (ws : List Str) (most : Int) (whole : Bool) : M (List Int) := fun s =>
  match wordsFrom n (ws.length + 1) { s with words := ws, at_ := 0, left := most } with
  | .ok _ s' => .ok (s'.told.drop s.told.length) (quiet s')
  | .err e s' => .err e (quiet (if whole then putBack s s' else strike s'))
  | .stuck => .stuck
def newHouse (cells pile : Int) : MS := { cells := [], mc := cells, stack := [], ms := pile, back := [], book := deedEnts, spot := -1, left := 0, at_ := 0, told := [], opened := none, words := [], mode := false, ties := [], many := deedEnts.length }
theorem deedEnts_len : deedEnts.length = 69 := by decide +kernel
end WH
set_option Elab.async false
set_option linter.all false
set_option maxRecDepth 100000
set_option maxHeartbeats 1000000
namespace WH
open PySem PySem.Spec PyProof.Rows L2
/-! ### what a house looks like -/
def optV : Option Int → V
  | none => .non
  | some i => .int i
/-- where the classes stand -/
structure Cn where
  CH : Addr
  CE : Addr
  ne : CH ≠ CE
/-- where a house's things stand -/
structure Ls where
  lc : Addr
  ls : Addr
  lb : Addr
  lk : Addr
  lt : Addr
  lw : Addr
  li : Addr
structure Gh where
  L : Ls
  dx : Addr
  ov : V
  es : List (Addr × Addr)
def hF (S : MS) (G : Gh) : List (Str × V) :=
  ([("cells", .ref G.L.lc), ("most_cells", .int S.mc), ("stack", .ref G.L.ls), ("most_stack", .int S.ms), ("back", .ref G.L.lb), ("book", .ref G.L.lk), ("spot", .int S.spot), ("left", .int S.left)] : List (Str × V)) ++
  ([("at", .int S.at_), ("told", .ref G.L.lt), ("opened", G.ov), ("steps", .non), ("words", .ref G.L.lw), ("mode", .bl S.mode), ("ties", .ref G.L.li), ("many_deeds", .int S.many)] : List (Str × V))
def eF (e : Ent) : List (Str × V) :=
  [("number", .int e.num), ("name", .str e.name), ("kind", .str e.kind.str), ("start", .int e.start), ("end", .int e.fin), ("was", .int e.start), ("worth", .int e.worth), ("beyond", optV e.beyond), ("is_now", .bl e.now)]
section
variable {S : MS} {G : Gh} {e : Ent}
theorem hF_cells : (hF S G).lookup ("cells" : Str) = some (.ref G.L.lc) := by kernel_rfl
theorem hF_mc : (hF S G).lookup ("most_cells" : Str) = some (.int S.mc) := by kernel_rfl
theorem hF_stack : (hF S G).lookup ("stack" : Str) = some (.ref G.L.ls) := by kernel_rfl
theorem hF_ms : (hF S G).lookup ("most_stack" : Str) = some (.int S.ms) := by kernel_rfl
theorem hF_back : (hF S G).lookup ("back" : Str) = some (.ref G.L.lb) := by kernel_rfl
theorem hF_book : (hF S G).lookup ("book" : Str) = some (.ref G.L.lk) := by kernel_rfl
theorem hF_spot : (hF S G).lookup ("spot" : Str) = some (.int S.spot) := by kernel_rfl
theorem hF_left : (hF S G).lookup ("left" : Str) = some (.int S.left) := by kernel_rfl
theorem hF_at : (hF S G).lookup ("at" : Str) = some (.int S.at_) := by kernel_rfl
theorem hF_told : (hF S G).lookup ("told" : Str) = some (.ref G.L.lt) := by kernel_rfl
theorem hF_opened : (hF S G).lookup ("opened" : Str) = some G.ov := by kernel_rfl
theorem hF_steps : (hF S G).lookup ("steps" : Str) = some .non := by kernel_rfl
theorem hF_words : (hF S G).lookup ("words" : Str) = some (.ref G.L.lw) := by kernel_rfl
theorem hF_mode : (hF S G).lookup ("mode" : Str) = some (.bl S.mode) := by kernel_rfl
theorem hF_ties : (hF S G).lookup ("ties" : Str) = some (.ref G.L.li) := by kernel_rfl
theorem hF_many : (hF S G).lookup ("many_deeds" : Str) = some (.int S.many) := by kernel_rfl
theorem eF_num : (eF e).lookup ("number" : Str) = some (.int e.num) := by kernel_rfl
theorem eF_name : (eF e).lookup ("name" : Str) = some (.str e.name) := by kernel_rfl
theorem eF_kind : (eF e).lookup ("kind" : Str) = some (.str e.kind.str) := by kernel_rfl
theorem eF_start : (eF e).lookup ("start" : Str) = some (.int e.start) := by kernel_rfl
theorem eF_end : (eF e).lookup ("end" : Str) = some (.int e.fin) := by kernel_rfl
theorem eF_was : (eF e).lookup ("was" : Str) = some (.int e.start) := by kernel_rfl
theorem eF_worth : (eF e).lookup ("worth" : Str) = some (.int e.worth) := by kernel_rfl
theorem eF_beyond : (eF e).lookup ("beyond" : Str) = some (optV e.beyond) := by kernel_rfl
theorem eF_now : (eF e).lookup ("is_now" : Str) = some (.bl e.now) := by kernel_rfl
/-! a field is stored -/
theorem hP_cells {a : Addr} : putF "cells" (.ref a) (hF S G) = hF S { G with L := { G.L with lc := a } } := by kernel_rfl
theorem hP_stack {a : Addr} : putF "stack" (.ref a) (hF S G) = hF S { G with L := { G.L with ls := a } } := by kernel_rfl
theorem hP_told {a : Addr} : putF "told" (.ref a) (hF S G) = hF S { G with L := { G.L with lt := a } } := by kernel_rfl
theorem hP_book {a : Addr} : putF "book" (.ref a) (hF S G) = hF S { G with L := { G.L with lk := a } } := by kernel_rfl
theorem hP_words {a : Addr} : putF "words" (.ref a) (hF S G) = hF S { G with L := { G.L with lw := a } } := by kernel_rfl
theorem hP_ties {a : Addr} : putF "ties" (.ref a) (hF S G) = hF S { G with L := { G.L with li := a } } := by kernel_rfl
theorem hP_opened {v : V} : putF "opened" v (hF S G) = hF S { G with ov := v } := by kernel_rfl
theorem hP_spot {x : Int} : putF "spot" (.int x) (hF S G) = hF { S with spot := x } G := by kernel_rfl
theorem hP_left {x : Int} : putF "left" (.int x) (hF S G) = hF { S with left := x } G := by kernel_rfl
theorem hP_at {x : Int} : putF "at" (.int x) (hF S G) = hF { S with at_ := x } G := by kernel_rfl
theorem hP_mode {x : Bool} : putF "mode" (.bl x) (hF S G) = hF { S with mode := x } G := by kernel_rfl
theorem eP_beyond {x : Option Int} : putF "beyond" (optV x) (eF e) = eF { e with beyond := x } := by kernel_rfl
theorem eP_now {x : Bool} : putF "is_now" (.bl x) (eF e) = eF { e with now := x } := by kernel_rfl
theorem eP_end {x : Int} : putF "end" (.int x) (eF e) = eF { e with fin := x } := by kernel_rfl
theorem eP_worth {x : Int} : putF "worth" (.int x) (eF e) = eF { e with worth := x } := by kernel_rfl
end
theorem lookup_no {m : Str} : ∀ {l : List (Str × V)}, (l.map (·.1)).contains m = false → l.lookup m = none
  | [], _ => rfl
  | (k, v) :: r, h => by
    have h1 : (m == k || (r.map (·.1)).contains m) = false := by
      have h2 : ((k :: r.map (·.1)).contains m) = false := h
      rw [List.contains_cons] at h2
      exact h2
    obtain ⟨a, b⟩ := Bool.or_eq_false_iff.mp h1
    show (match m == k with | true => some v | false => r.lookup m) = none
    rw [a]
    exact lookup_no b
def hKeys : List Str := (["cells", "most_cells", "stack", "most_stack", "back", "book", "spot", "left"] : List Str) ++ (["at", "told", "opened", "steps", "words", "mode", "ties", "many_deeds"] : List Str)
theorem hF_no {S : MS} {G : Gh} {m : Str} (h : hKeys.contains m = false := by decide +kernel) : (hF S G).lookup m = none := lookup_no h
theorem hF_len {S : MS} {G : Gh} : (hF S G).length < 1000 := by
  show 16 < 1000
  decide
theorem eF_len {e : Ent} : (eF e).length < 1000 := by
  show 9 < 1000
  decide
/-! ### a house in a heap -/
def iv (xs : List Int) : List V := xs.map V.int
def tieV (h : Hp) (t : Addr) (x : Str × Int) : Prop := h t = some (.tup [.str x.1, .int x.2])
def opV (h : Hp) (v : V) : Option (Str × Int) → Prop
  | none => v = .non
  | some x => ∃ t, v = .ref t ∧ tieV h t x
def entV (c : Cn) (h : Hp) (a : Addr × Addr) (e : Ent) : Prop := h a.1 = some (.ins c.CE a.2 (eF e))
/-- what is kept in sight: words, pairs of a name and a cell -/
abbrev Seen : Type := ((Addr × Addr) × Ent) ⊕ (Addr × (Str × Int))
abbrev sE (b : Addr × Addr) (e : Ent) : Seen := .inl (b, e)
abbrev sT (t : Addr) (x : Str × Int) : Seen := .inr (t, x)
/-- a word stands, but for beyond and now -/
def seenV (c : Cn) (h : Hp) : Seen → Prop
  | .inl u => ∃ b n, entV c h u.1 { u.2 with beyond := b, now := n }
  | .inr u => tieV h u.1 u.2
def refs (l : List (Addr × Addr)) : List V := l.map fun a => V.ref a.1
/-- U: words that there were once: their objects stand, but for beyond and now -/
structure HouseP (c : Cn) (p : Addr) (S : MS) (U : List Seen) (G : Gh) (h : Hp) : Prop where
  ob : h p = some (.ins c.CH G.dx (hF S G))
  cells : h G.L.lc = some (.lst (iv S.cells))
  stack : h G.L.ls = some (.lst (iv S.stack))
  back : h G.L.lb = some (.lst (iv S.back))
  told : h G.L.lt = some (.lst (iv S.told))
  words : h G.L.lw = some (.lst (S.words.map V.str))
  ties : ∃ ts, h G.L.li = some (.lst (ts.map V.ref)) ∧ All2 (tieV h) ts S.ties
  op : opV h G.ov S.opened
  book : h G.L.lk = some (.lst (refs G.es))
  ents : All2 (entV c h) G.es S.book
  nd : (G.es.map (·.1)).Nodup
  ne : [G.L.lc, G.L.ls, G.L.lb, G.L.lt, G.L.lw, G.L.li, G.L.lk].Nodup
  un : ∀ u ∈ U, seenV c h u
/-- the house S is owned, beside the frame H0 -/
def HOwn (c : Cn) (p : Addr) (S : MS) (U : List Seen) (L : Ls) (H0 H : Hp) : Prop := ∃ hs G, Sep H0 hs H ∧ HouseP c p S U G hs ∧ G.L = L
def errV (s : MS) : Err → List (Str × V)
  | .noWord w => [("word", .str w), ("place", .int s.at_)]
  | _ => [("place", .int s.at_)]
/-- how a call ends -/
def Ends' (c : Cn) (cls : Err → Addr) (p : Addr) (U : List Seen) (L : Ls) (H0 : Hp) (Q : V → Hp → Prop) (E : Value → Option Addr → Hp → Prop) : Out V → Prop
  | .ok v S => ∀ H, HOwn c p S U L H0 H → Q v H
  | .err e S => ∀ H d, H0 d = none → HOwn c p S U L (upd H0 d (.xd (errV S e))) H → E (.ref (cls e)) (some d) H
  | .stuck => False
/-- the lists stand apart -/
structure Ne7 (G : Gh) : Prop where
  lc_ls : G.L.lc ≠ G.L.ls
  lc_lb : G.L.lc ≠ G.L.lb
  lc_lt : G.L.lc ≠ G.L.lt
  lc_lw : G.L.lc ≠ G.L.lw
  lc_li : G.L.lc ≠ G.L.li
  lc_lk : G.L.lc ≠ G.L.lk
  ls_lc : G.L.ls ≠ G.L.lc
  ls_lb : G.L.ls ≠ G.L.lb
  ls_lt : G.L.ls ≠ G.L.lt
  ls_lw : G.L.ls ≠ G.L.lw
  ls_li : G.L.ls ≠ G.L.li
  ls_lk : G.L.ls ≠ G.L.lk
  lb_lc : G.L.lb ≠ G.L.lc
  lb_ls : G.L.lb ≠ G.L.ls
  lb_lt : G.L.lb ≠ G.L.lt
  lb_lw : G.L.lb ≠ G.L.lw
  lb_li : G.L.lb ≠ G.L.li
  lb_lk : G.L.lb ≠ G.L.lk
  lt_lc : G.L.lt ≠ G.L.lc
  lt_ls : G.L.lt ≠ G.L.ls
  lt_lb : G.L.lt ≠ G.L.lb
  lt_lw : G.L.lt ≠ G.L.lw
  lt_li : G.L.lt ≠ G.L.li
  lt_lk : G.L.lt ≠ G.L.lk
  lw_lc : G.L.lw ≠ G.L.lc
  lw_ls : G.L.lw ≠ G.L.ls
  lw_lb : G.L.lw ≠ G.L.lb
  lw_lt : G.L.lw ≠ G.L.lt
  lw_li : G.L.lw ≠ G.L.li
  lw_lk : G.L.lw ≠ G.L.lk
  li_lc : G.L.li ≠ G.L.lc
  li_ls : G.L.li ≠ G.L.ls
  li_lb : G.L.li ≠ G.L.lb
  li_lt : G.L.li ≠ G.L.lt
  li_lw : G.L.li ≠ G.L.lw
  li_lk : G.L.li ≠ G.L.lk
  lk_lc : G.L.lk ≠ G.L.lc
  lk_ls : G.L.lk ≠ G.L.ls
  lk_lb : G.L.lk ≠ G.L.lb
  lk_lt : G.L.lk ≠ G.L.lt
  lk_lw : G.L.lk ≠ G.L.lw
  lk_li : G.L.lk ≠ G.L.li
theorem ne7 {G : Gh} (h : [G.L.lc, G.L.ls, G.L.lb, G.L.lt, G.L.lw, G.L.li, G.L.lk].Nodup) : Ne7 G := by
  simp only [List.nodup_cons, List.mem_cons, not_or, List.not_mem_nil, not_false_eq_true, and_true, List.nodup_nil] at h
  obtain ⟨⟨lc_ls, lc_lb, lc_lt, lc_lw, lc_li, lc_lk⟩, ⟨ls_lb, ls_lt, ls_lw, ls_li, ls_lk⟩, ⟨lb_lt, lb_lw, lb_li, lb_lk⟩, ⟨lt_lw, lt_li, lt_lk⟩, ⟨lw_li, lw_lk⟩, li_lk⟩ := h
  exact {
    lc_ls := lc_ls
    lc_lb := lc_lb
    lc_lt := lc_lt
    lc_lw := lc_lw
    lc_li := lc_li
    lc_lk := lc_lk
    ls_lc := fun e => lc_ls e.symm
    ls_lb := ls_lb
    ls_lt := ls_lt
    ls_lw := ls_lw
    ls_li := ls_li
    ls_lk := ls_lk
    lb_lc := fun e => lc_lb e.symm
    lb_ls := fun e => ls_lb e.symm
    lb_lt := lb_lt
    lb_lw := lb_lw
    lb_li := lb_li
    lb_lk := lb_lk
    lt_lc := fun e => lc_lt e.symm
    lt_ls := fun e => ls_lt e.symm
    lt_lb := fun e => lb_lt e.symm
    lt_lw := lt_lw
    lt_li := lt_li
    lt_lk := lt_lk
    lw_lc := fun e => lc_lw e.symm
    lw_ls := fun e => ls_lw e.symm
    lw_lb := fun e => lb_lw e.symm
    lw_lt := fun e => lt_lw e.symm
    lw_li := lw_li
    lw_lk := lw_lk
    li_lc := fun e => lc_li e.symm
    li_ls := fun e => ls_li e.symm
    li_lb := fun e => lb_li e.symm
    li_lt := fun e => lt_li e.symm
    li_lw := fun e => lw_li e.symm
    li_lk := li_lk
    lk_lc := fun e => lc_lk e.symm
    lk_ls := fun e => ls_lk e.symm
    lk_lb := fun e => lb_lk e.symm
    lk_lt := fun e => lt_lk e.symm
    lk_lw := fun e => lw_lk e.symm
    lk_li := fun e => li_lk e.symm
  }
section
variable {c : Cn} {p a : Addr} {S : MS} {U : List Seen} {G : Gh} {h : Hp} {xs : List Int} {ys : List V} {u : HO} {t : Addr} {x : Str × Int} {q : Addr × Addr} {e : Ent} {v : V} {o : Option (Str × Int)}
/-- what a store to a, which was no tuple, leaves -/
theorem tieV_put {w : HO} (ha : h a = some w) (hw : ∀ z, w ≠ .tup z) (ht : tieV h t x) : tieV (upd h a u) t x := by
  unfold tieV at *
  rw [upd_ne (ne_of ht ha fun z => hw _ z.symm)]
  exact ht
theorem ties_put {w : HO} {ts : List Addr} {l : List (Str × Int)} (ha : h a = some w) (hw : ∀ z, w ≠ .tup z) (ht : All2 (tieV h) ts l) : All2 (tieV (upd h a u)) ts l := ht.imp fun _ _ _ _ r => tieV_put ha hw r
theorem opV_put {w : HO} (ha : h a = some w) (hw : ∀ z, w ≠ .tup z) (ho : opV h v o) : opV (upd h a u) v o := by
  cases o with
  | none => exact ho
  | some x =>
    obtain ⟨t, e, r⟩ := ho
    exact ⟨t, e, tieV_put ha hw r⟩
theorem entV_put {w : HO} (ha : h a = some w) (hw : ∀ d f, w ≠ .ins c.CE d f) (he : entV c h q e) : entV c (upd h a u) q e := by
  unfold entV at *
  rw [upd_ne (ne_of he ha fun z => hw _ _ z.symm)]
  exact he
theorem ents_put {w : HO} {es : List (Addr × Addr)} {l : List Ent} (ha : h a = some w) (hw : ∀ d f, w ≠ .ins c.CE d f) (ht : All2 (entV c h) es l) : All2 (entV c (upd h a u)) es l := ht.imp fun _ _ _ _ r => entV_put ha hw r
theorem seenV_put {w : HO} {z : Seen} (ha : h a = some w) (hw : ∀ d f, w ≠ .ins c.CE d f) (hw2 : ∀ z, w ≠ .tup z) (r : seenV c h z) : seenV c (upd h a u) z := by
  cases z with
  | inl v =>
    obtain ⟨b, n, r⟩ := r
    exact ⟨b, n, entV_put ha hw r⟩
  | inr v => exact tieV_put ha hw2 r
theorem seenV_same {h' : Hp} {z : Seen} (sm : Same h h') (r : seenV c h z) : seenV c h' z := by
  cases z with
  | inl v =>
    obtain ⟨b, n, r⟩ := r
    exact ⟨b, n, sm _ _ r⟩
  | inr v => exact sm _ _ r
theorem un_put {w : HO} (ha : h a = some w) (hw : ∀ d f, w ≠ .ins c.CE d f) (hw2 : ∀ z, w ≠ .tup z) (hu : ∀ u ∈ U, seenV c h u) : ∀ z ∈ U, seenV c (upd h a u) z := fun z hz => seenV_put ha hw hw2 (hu z hz)
theorem lst_tup {ys : List V} : ∀ z, HO.lst ys ≠ .tup z := fun _ e => by cases e
theorem lst_ins {ys : List V} {C : Addr} : ∀ d f, HO.lst ys ≠ .ins C d f := fun _ _ e => by cases e
theorem ins_tup {C d : Addr} {f : List (Str × V)} : ∀ z, HO.ins C d f ≠ .tup z := fun _ e => by cases e
theorem ins_lst {C d : Addr} {f : List (Str × V)} {z : List V} : HO.ins C d f ≠ .lst z := fun e => by cases e
theorem insH_insE (c : Cn) {d : Addr} {f : List (Str × V)} : ∀ d' f', HO.ins c.CH d f ≠ .ins c.CE d' f' := fun _ _ e => by
  injection e with e1
  exact c.ne e1
theorem HouseP.cells_set (H : HouseP c p S U G h) : HouseP c p { S with cells := xs } U G (upd h G.L.lc (.lst (iv xs))) where
  ob := by rw [upd_ne (ne_of H.ob H.cells ins_lst)]; exact H.ob
  cells := upd_same
  stack := by rw [upd_ne (ne7 H.ne).ls_lc]; exact H.stack
  back := by rw [upd_ne (ne7 H.ne).lb_lc]; exact H.back
  told := by rw [upd_ne (ne7 H.ne).lt_lc]; exact H.told
  words := by rw [upd_ne (ne7 H.ne).lw_lc]; exact H.words
  ties := by
    obtain ⟨ts, h1, h2⟩ := H.ties
    exact ⟨ts, by rw [upd_ne (ne7 H.ne).li_lc]; exact h1, ties_put H.cells lst_tup h2⟩
  op := opV_put H.cells lst_tup H.op
  book := by rw [upd_ne (ne7 H.ne).lk_lc]; exact H.book
  ents := ents_put H.cells lst_ins H.ents
  nd := H.nd
  ne := H.ne
  un := un_put H.cells lst_ins lst_tup H.un
theorem HouseP.stack_set (H : HouseP c p S U G h) : HouseP c p { S with stack := xs } U G (upd h G.L.ls (.lst (iv xs))) where
  ob := by rw [upd_ne (ne_of H.ob H.stack ins_lst)]; exact H.ob
  cells := by rw [upd_ne (ne7 H.ne).lc_ls]; exact H.cells
  stack := upd_same
  back := by rw [upd_ne (ne7 H.ne).lb_ls]; exact H.back
  told := by rw [upd_ne (ne7 H.ne).lt_ls]; exact H.told
  words := by rw [upd_ne (ne7 H.ne).lw_ls]; exact H.words
  ties := by
    obtain ⟨ts, h1, h2⟩ := H.ties
    exact ⟨ts, by rw [upd_ne (ne7 H.ne).li_ls]; exact h1, ties_put H.stack lst_tup h2⟩
  op := opV_put H.stack lst_tup H.op
  book := by rw [upd_ne (ne7 H.ne).lk_ls]; exact H.book
  ents := ents_put H.stack lst_ins H.ents
  nd := H.nd
  ne := H.ne
  un := un_put H.stack lst_ins lst_tup H.un
theorem HouseP.back_set (H : HouseP c p S U G h) : HouseP c p { S with back := xs } U G (upd h G.L.lb (.lst (iv xs))) where
  ob := by rw [upd_ne (ne_of H.ob H.back ins_lst)]; exact H.ob
  cells := by rw [upd_ne (ne7 H.ne).lc_lb]; exact H.cells
  stack := by rw [upd_ne (ne7 H.ne).ls_lb]; exact H.stack
  back := upd_same
  told := by rw [upd_ne (ne7 H.ne).lt_lb]; exact H.told
  words := by rw [upd_ne (ne7 H.ne).lw_lb]; exact H.words
  ties := by
    obtain ⟨ts, h1, h2⟩ := H.ties
    exact ⟨ts, by rw [upd_ne (ne7 H.ne).li_lb]; exact h1, ties_put H.back lst_tup h2⟩
  op := opV_put H.back lst_tup H.op
  book := by rw [upd_ne (ne7 H.ne).lk_lb]; exact H.book
  ents := ents_put H.back lst_ins H.ents
  nd := H.nd
  ne := H.ne
  un := un_put H.back lst_ins lst_tup H.un
theorem HouseP.told_set (H : HouseP c p S U G h) : HouseP c p { S with told := xs } U G (upd h G.L.lt (.lst (iv xs))) where
  ob := by rw [upd_ne (ne_of H.ob H.told ins_lst)]; exact H.ob
  cells := by rw [upd_ne (ne7 H.ne).lc_lt]; exact H.cells
  stack := by rw [upd_ne (ne7 H.ne).ls_lt]; exact H.stack
  back := by rw [upd_ne (ne7 H.ne).lb_lt]; exact H.back
  told := upd_same
  words := by rw [upd_ne (ne7 H.ne).lw_lt]; exact H.words
  ties := by
    obtain ⟨ts, h1, h2⟩ := H.ties
    exact ⟨ts, by rw [upd_ne (ne7 H.ne).li_lt]; exact h1, ties_put H.told lst_tup h2⟩
  op := opV_put H.told lst_tup H.op
  book := by rw [upd_ne (ne7 H.ne).lk_lt]; exact H.book
  ents := ents_put H.told lst_ins H.ents
  nd := H.nd
  ne := H.ne
  un := un_put H.told lst_ins lst_tup H.un
theorem HouseP.ties_set {ts : List Addr} {l : List (Str × Int)} (H : HouseP c p S U G h) (ht : All2 (tieV h) ts l) : HouseP c p { S with ties := l } U G (upd h G.L.li (.lst (ts.map V.ref))) := by
  obtain ⟨_, hli, _⟩ := H.ties
  exact {
  ob := by rw [upd_ne (ne_of H.ob hli ins_lst)]; exact H.ob,
  cells := by rw [upd_ne (ne7 H.ne).lc_li]; exact H.cells,
  stack := by rw [upd_ne (ne7 H.ne).ls_li]; exact H.stack,
  back := by rw [upd_ne (ne7 H.ne).lb_li]; exact H.back,
  told := by rw [upd_ne (ne7 H.ne).lt_li]; exact H.told,
  words := by rw [upd_ne (ne7 H.ne).lw_li]; exact H.words,
  ties := ⟨_, upd_same, ties_put hli lst_tup ht⟩,
  op := opV_put hli lst_tup H.op,
  book := by rw [upd_ne (ne7 H.ne).lk_li]; exact H.book,
  ents := ents_put hli lst_ins H.ents,
  nd := H.nd,
  ne := H.ne,
  un := un_put hli lst_ins lst_tup H.un }
theorem HouseP.spot_set {x : Int} (H : HouseP c p S U G h) : HouseP c p { S with spot := x } U G (upd h p (.ins c.CH G.dx (hF { S with spot := x } G))) where
  ob := upd_same
  cells := by rw [upd_ne (ne_of H.cells H.ob fun z => ins_lst z.symm)]; exact H.cells
  stack := by rw [upd_ne (ne_of H.stack H.ob fun z => ins_lst z.symm)]; exact H.stack
  back := by rw [upd_ne (ne_of H.back H.ob fun z => ins_lst z.symm)]; exact H.back
  told := by rw [upd_ne (ne_of H.told H.ob fun z => ins_lst z.symm)]; exact H.told
  words := by rw [upd_ne (ne_of H.words H.ob fun z => ins_lst z.symm)]; exact H.words
  ties := by
    obtain ⟨ts, h1, h2⟩ := H.ties
    exact ⟨ts, by rw [upd_ne (ne_of h1 H.ob fun z => ins_lst z.symm)]; exact h1, ties_put H.ob ins_tup h2⟩
  op := opV_put H.ob ins_tup H.op
  book := by rw [upd_ne (ne_of H.book H.ob fun z => ins_lst z.symm)]; exact H.book
  ents := ents_put H.ob (insH_insE c) H.ents
  nd := H.nd
  ne := H.ne
  un := un_put H.ob (insH_insE c) ins_tup H.un
theorem HouseP.left_set {x : Int} (H : HouseP c p S U G h) : HouseP c p { S with left := x } U G (upd h p (.ins c.CH G.dx (hF { S with left := x } G))) where
  ob := upd_same
  cells := by rw [upd_ne (ne_of H.cells H.ob fun z => ins_lst z.symm)]; exact H.cells
  stack := by rw [upd_ne (ne_of H.stack H.ob fun z => ins_lst z.symm)]; exact H.stack
  back := by rw [upd_ne (ne_of H.back H.ob fun z => ins_lst z.symm)]; exact H.back
  told := by rw [upd_ne (ne_of H.told H.ob fun z => ins_lst z.symm)]; exact H.told
  words := by rw [upd_ne (ne_of H.words H.ob fun z => ins_lst z.symm)]; exact H.words
  ties := by
    obtain ⟨ts, h1, h2⟩ := H.ties
    exact ⟨ts, by rw [upd_ne (ne_of h1 H.ob fun z => ins_lst z.symm)]; exact h1, ties_put H.ob ins_tup h2⟩
  op := opV_put H.ob ins_tup H.op
  book := by rw [upd_ne (ne_of H.book H.ob fun z => ins_lst z.symm)]; exact H.book
  ents := ents_put H.ob (insH_insE c) H.ents
  nd := H.nd
  ne := H.ne
  un := un_put H.ob (insH_insE c) ins_tup H.un
theorem HouseP.at__set {x : Int} (H : HouseP c p S U G h) : HouseP c p { S with at_ := x } U G (upd h p (.ins c.CH G.dx (hF { S with at_ := x } G))) where
  ob := upd_same
  cells := by rw [upd_ne (ne_of H.cells H.ob fun z => ins_lst z.symm)]; exact H.cells
  stack := by rw [upd_ne (ne_of H.stack H.ob fun z => ins_lst z.symm)]; exact H.stack
  back := by rw [upd_ne (ne_of H.back H.ob fun z => ins_lst z.symm)]; exact H.back
  told := by rw [upd_ne (ne_of H.told H.ob fun z => ins_lst z.symm)]; exact H.told
  words := by rw [upd_ne (ne_of H.words H.ob fun z => ins_lst z.symm)]; exact H.words
  ties := by
    obtain ⟨ts, h1, h2⟩ := H.ties
    exact ⟨ts, by rw [upd_ne (ne_of h1 H.ob fun z => ins_lst z.symm)]; exact h1, ties_put H.ob ins_tup h2⟩
  op := opV_put H.ob ins_tup H.op
  book := by rw [upd_ne (ne_of H.book H.ob fun z => ins_lst z.symm)]; exact H.book
  ents := ents_put H.ob (insH_insE c) H.ents
  nd := H.nd
  ne := H.ne
  un := un_put H.ob (insH_insE c) ins_tup H.un
theorem HouseP.mode_set {x : Bool} (H : HouseP c p S U G h) : HouseP c p { S with mode := x } U G (upd h p (.ins c.CH G.dx (hF { S with mode := x } G))) where
  ob := upd_same
  cells := by rw [upd_ne (ne_of H.cells H.ob fun z => ins_lst z.symm)]; exact H.cells
  stack := by rw [upd_ne (ne_of H.stack H.ob fun z => ins_lst z.symm)]; exact H.stack
  back := by rw [upd_ne (ne_of H.back H.ob fun z => ins_lst z.symm)]; exact H.back
  told := by rw [upd_ne (ne_of H.told H.ob fun z => ins_lst z.symm)]; exact H.told
  words := by rw [upd_ne (ne_of H.words H.ob fun z => ins_lst z.symm)]; exact H.words
  ties := by
    obtain ⟨ts, h1, h2⟩ := H.ties
    exact ⟨ts, by rw [upd_ne (ne_of h1 H.ob fun z => ins_lst z.symm)]; exact h1, ties_put H.ob ins_tup h2⟩
  op := opV_put H.ob ins_tup H.op
  book := by rw [upd_ne (ne_of H.book H.ob fun z => ins_lst z.symm)]; exact H.book
  ents := ents_put H.ob (insH_insE c) H.ents
  nd := H.nd
  ne := H.ne
  un := un_put H.ob (insH_insE c) ins_tup H.un
theorem HouseP.op_set {o : Option (Str × Int)} (H : HouseP c p S U G h) (ho : opV h v o) : HouseP c p { S with opened := o } U { G with ov := v } (upd h p (.ins c.CH G.dx (hF { S with opened := o } { G with ov := v }))) where
  ob := upd_same
  cells := by rw [upd_ne (ne_of H.cells H.ob fun z => ins_lst z.symm)]; exact H.cells
  stack := by rw [upd_ne (ne_of H.stack H.ob fun z => ins_lst z.symm)]; exact H.stack
  back := by rw [upd_ne (ne_of H.back H.ob fun z => ins_lst z.symm)]; exact H.back
  told := by rw [upd_ne (ne_of H.told H.ob fun z => ins_lst z.symm)]; exact H.told
  words := by rw [upd_ne (ne_of H.words H.ob fun z => ins_lst z.symm)]; exact H.words
  ties := by
    obtain ⟨ts, h1, h2⟩ := H.ties
    exact ⟨ts, by rw [upd_ne (ne_of h1 H.ob fun z => ins_lst z.symm)]; exact h1, ties_put H.ob ins_tup h2⟩
  op := opV_put H.ob ins_tup ho
  book := by rw [upd_ne (ne_of H.book H.ob fun z => ins_lst z.symm)]; exact H.book
  ents := ents_put H.ob (insH_insE c) H.ents
  nd := H.nd
  ne := H.ne
  un := un_put H.ob (insH_insE c) ins_tup H.un
end
end WH
set_option Elab.async false
set_option linter.all false
set_option maxRecDepth 100000
set_option maxHeartbeats 4000000
namespace PySem
namespace WHX
open PySem PySem.W PySem.Calls PyProof.Rows PySem.HandSPX
section
variable {M : Model} {A : Around} {E : Value → Shared → Prop} {h : Heap} {g : Array GenState} {d : Drawn} {t : Nat} {os : OsState}
variable {nm q : Str} {C N : Addr} {bs bm bmB : List Value} {hdct : Bool} {sn : List Str} {sub : List Value} {ab : Bool} {col : Option Bool} {dd : Option Addr} {k0 k1 k2 k3 k5 : Option Value} {B newId initId : String} {kw : List (Str × Value)}
theorem check_newK (F : ExcBaseFacts B newId initId bmB) (hT : ∀ X : String, bm.contains (.type X) = bmB.contains (.type X)) {rest : List Value} {Q : Unit → Shared → Prop}
    (hC : h.get? C = some (excClassObj nm q C N bs bm hdct sn sub ab col dd k0 k1 k2 k3 k5 newId)) (hq : Q () ⟨h, g, d, t, os⟩) : wpAny M A (checkBuiltinCall newId ⟨.ref C :: rest, kw⟩) Q E ⟨h, g, d, t, os⟩ := by
  have hcont : (Value.ref C :: bm).contains (.type B) = true := by rw [List.contains_cons, hT, F.hasB, Bool.or_true]
  have hstar := F.noStar
  simp only [checkBuiltinCall, F.newKind, F.newSplit, F.newRow]
  repeat (first | refine wpAny_loadPart_at hC ?_ | (refine wpAny_isSubtype_exc hC ?_; rw [hcont]) | refine wpAny_staticBase_exc hC ?_ | refine wpAny_madeBy_exc hC ?_ | simp only [bne_self_eq_false, Bool.false_eq_true, if_false] | wp_step)
  exact hq
end
section
variable {prog : Program} {w : World} {A : Around} {E : Value → Shared → Prop} {R : Result → Shared → Prop} {h : Heap} {g : Array GenState} {d : Drawn} {t : Nat} {os : OsState}
variable {nm q : Str} {C N : Addr} {bs bm bmB : List Value} {hdct : Bool} {sn : List Str} {sub : List Value} {ab : Bool} {col : Option Bool} {dd : Option Addr} {k0 k1 k2 k3 k5 : Option Value} {B newId initId : String} {kw : List (Str × Value)}
theorem newK (F : ExcBaseFacts B newId initId bmB) (hT : ∀ X : String, bm.contains (.type X) = bmB.contains (.type X)) {rest : List Value}
    (hC : h.get? C = some (excClassObj nm q C N bs bm hdct sn sub ab col dd k0 k1 k2 k3 k5 newId))
    (hq : R (.ok (.ret (.ref (h.objs.size + 1)))) ⟨(h.push { cls := .type "tuple", data := .seq rest.toArray }).push
      { cls := .ref C, data := .fields #[.ref h.objs.size, .none, .none, .none, .bool false, .none] }, g, d, t, os⟩) (hrest : rest.length ≤ sizeLine) :
    codeAny (model prog w) A (.builtin newId ⟨.ref C :: rest, kw⟩) R ⟨h, g, d, t, os⟩ := by
  have hends := F.ends
  have hcB : (Value.ref C :: bm).contains (.type B) = true := by rw [List.contains_cons, hT, F.hasB, Bool.or_true]
  have hcA : (Value.ref C :: bm).contains (.type "AttributeError") = false := by rw [List.contains_cons, hT, F.noAttr]; rfl
  have hcN : (Value.ref C :: bm).contains (.type "NameError") = false := by rw [List.contains_cons, hT, F.noName]; rfl
  refine codeAny_builtinAt F.entry ?_
  unfold Builtin.«BaseException.__new__»
  refine wpAt_bind ?_
  show wpAt _ _ _ (stack >>= _) _ _ _
  refine wpAt_bind (wpAt_stack fun p below => wpAt_of_wpAny ?_)
  wp_walk
  refine wpAt_of_wpAny ?_
  rw [F.owner]
  repeat (first | with_reducible refine wpAny_madeHere_exc F.canon hC ?_ | with_reducible refine wpAny_loadPart_at hC ?_ | (with_reducible refine wpAny_isSubtype_exc hC ?_; first | rw [hcB] | rw [hcA] | rw [hcN]) | wp_step)
  show R _ _
  rw [Heap.size_push]
  exact hq
theorem type_callK (F : ExcBaseFacts B newId initId bmB) (hT : ∀ X : String, bm.contains (.type X) = bmB.contains (.type X)) {rest : List Value} {fI : Addr} {Q : Fin → Shared → Prop}
    (hC : h.get? C = some (excClassObj nm q C N bs bm hdct sn sub ab col dd k0 k1 k2 k3 k5 newId))
    (hi : W.Looks (model prog w) h (typeLookup (.ref C) "__init__") (some (.ref fI))) (hb : ∀ self, W.Looks (model prog w) h (bindSpecial (.ref fI) self) (.ref fI, [self])) (hrest : rest.length ≤ sizeLine)
    (hq : codeAny (model prog w) A (.call (.ref fI) ⟨.ref (h.objs.size + 1) :: rest, kw⟩)
      (fun r s' => match r with | .ok (.ret v) => v = .none ∧ Q (.done (.ret (.ref (h.objs.size + 1)))) s' | .ok _ => False | .error e => E e s')
      ⟨(h.push (W.kdv_tup rest)).push (excO C h.objs.size), g, d, t, os⟩) :
    wpAny (model prog w) A (Builtin.«type.__call__» ⟨.ref C :: rest, kw⟩) Q E ⟨h, g, d, t, os⟩ := by
  repeat (first | with_reducible refine wpAny_loadPart_at hC ?_ | with_reducible refine wpAny_madeBy_exc hC ?_ | wp_step)
  refine codeAny_call_builtin_code (Code.quiet_builtin _ F.quiet) (check_newK F hT hC ?_)
  refine newK F hT hC ?_ hrest
  show wpAny _ _ _ _ _ _
  have k : ∀ b o, h.get? b = some o → ((h.push (W.kdv_tup rest)).push (excO C h.objs.size)).get? b = some o := fun b o e => Heap.get?_push_of_some _ (Heap.get?_push_of_some _ e)
  have hC₁ := k _ _ hC
  have hget : ((h.push (W.kdv_tup rest)).push (excO C h.objs.size)).get? (h.objs.size + 1) = some (excO C h.objs.size) := by heap_get
  have hcC : (Value.ref C :: bm).contains (.ref C) = true := by simp
  have i1 := hi.keeps k
  have b1 := (hb (.ref (h.objs.size + 1))).keeps k
  unfold isInstance
  repeat (first | with_reducible refine wpAny_loadPart_at hget ?_ | (with_reducible refine wpAny_isSubtype_exc hC₁ ?_; rw [hcC]) | wp_step)
  show wpAny _ _ (typeLookup (.ref C) _) _ _ _
  refine i1.at ?_
  refine wpAny_holding (wpAny_bind (b1.at ?_))
  refine wpAny_bind (wpAny_call (codeAny_mono hq fun r s' z => ?_))
  rcases r with e | (v | _ | _ | _) <;> first | exact z | exact z.elim | skip
  obtain ⟨rfl, z⟩ := z
  first
    | exact wpAny_pure (wpAny_pure z)
    | (wp_walk; exact z)
theorem callK (F : ExcBaseFacts B newId initId bmB) (hT : ∀ X : String, bm.contains (.type X) = bmB.contains (.type X)) {rest : List Value} {fI : Addr}
    (hC : h.get? C = some (excClassObj nm q C N bs bm hdct sn sub ab col dd k0 k1 k2 k3 k5 newId))
    (hi : W.Looks (model prog w) h (typeLookup (.ref C) "__init__") (some (.ref fI))) (hb : ∀ self, W.Looks (model prog w) h (bindSpecial (.ref fI) self) (.ref fI, [self])) (hrest : rest.length ≤ sizeLine)
    (hq : codeAny (model prog w) (A.under (.builtin "type.__call__" ⟨.ref C :: rest, kw⟩)) (.call (.ref fI) ⟨.ref (h.objs.size + 1) :: rest, kw⟩) (W.InitBack (h.objs.size + 1) R)
      ⟨(h.push (W.kdv_tup rest)).push (excO C h.objs.size), g, d, t, os⟩) :
    codeAny (model prog w) A (.call (.ref C) ⟨rest, kw⟩) R ⟨h, g, d, t, os⟩ := by
  have f1 := tc_lookup
  have f2 := tc_bind (.ref C)
  have hTy : (⟨h, g, d, t, os⟩ : Shared).TypeIs (.ref C) "type" := ⟨_, hC, rfl⟩
  refine codeAny_of_tree ?_
  show wpAny _ _ (callAny (.ref C) _) _ _ _
  repeat (any_goals (first | assumption | with_reducible refine wpAny_loadPart_at hC ?_ | wp_step))
  refine ⟨rfl, ?_⟩
  refine codeAny_call_builtin_at (Code.quiet_builtin _ (by decide +kernel)) entry_typeCall (wpAny_check_type_call_sub hC (type_callK F hT hC hi hb hrest ?_))
  refine codeAny_mono hq fun r s' z => ?_
  rcases r with e | (v | _ | _ | _) <;> exact z
end
end WHX
end PySem
set_option Elab.async false
set_option linter.all false
set_option maxRecDepth 100000
set_option maxHeartbeats 2000000
namespace WH
open PySem PySem.Spec PyProof.Rows L2
/-! ### defs as they may be called -/
/-- o.m(..) of an instance of the class at C: its promise, the defaults that fill up -/
def MethOk (P : Program) (w : World) (K : PySem.W.Frag) (mg : Str → Option Value) (base : Heap) (C : Addr) (m : Str) (k : Nat) (sp : Sp) (dvs : List V) : Prop :=
  ∃ (f : Addr) (fd : FuncData) (ps : List Str) (ds : List Value), Meth K C m f ∧ FnOk P w K mg base (L2N.CX P w) k f fd ps sp ∧ Binds K fd ps ds ∧ Vals dvs ds
/-- o.m(.., k = v) : n positional values (o itself is one), keywords named ks, gV puts all in the parameters' order -/
def MethKOk (P : Program) (w : World) (K : PySem.W.Frag) (mg : Str → Option Value) (base : Heap) (C : Addr) (m : Str) (k : Nat) (sp : Sp) (n : Nat) (ks : List Str) (gV : List V → List V → List V) : Prop :=
  ∃ (f : Addr) (fd : FuncData) (ps : List Str) (g : List Value → List Value → List Value), Meth K C m f ∧ FnOk P w K mg base (L2N.CX P w) k f fd ps sp ∧ KBn K fd ps n ks g gV
/-- f(..) -/
def CallOk (P : Program) (w : World) (K : PySem.W.Frag) (mg : Str → Option Value) (base : Heap) (x : Str) (k : Nat) (sp : Sp) (dvs : List V) : Prop :=
  ∃ (f : Addr) (fd : FuncData) (ps : List Str) (ds : List Value), mg x = some (.ref f) ∧ PySem.W.keepIn K (.ref f) = true ∧ FnOk P w K mg base (L2N.CX P w) k f fd ps sp ∧ Binds K fd ps ds ∧ Vals dvs ds
/-- C(..) of an own class -/
def MakeOk (P : Program) (w : World) (K : PySem.W.Frag) (mg : Str → Option Value) (base : Heap) (x : Str) (C : Addr) (k : Nat) (sp : Sp) (dvs : List V) : Prop :=
  ∃ (f : Addr) (fd : FuncData) (ps : List Str) (ds : List Value), mg x = some (.ref C) ∧ Mk K C f ∧ FnOk P w K mg base (L2N.CX P w) k f fd ps sp ∧ Binds K fd ps ds ∧ Vals dvs ds
def MakeKOk (P : Program) (w : World) (K : PySem.W.Frag) (mg : Str → Option Value) (base : Heap) (x : Str) (C : Addr) (k : Nat) (sp : Sp) (n : Nat) (ks : List Str) (gV : List V → List V → List V) : Prop :=
  ∃ (f : Addr) (fd : FuncData) (ps : List Str) (g : List Value → List Value → List Value), mg x = some (.ref C) ∧ Mk K C f ∧ FnOk P w K mg base (L2N.CX P w) k f fd ps sp ∧ KBn K fd ps (n + 1) ks g gV
/-- C.m(..) off an own class -/
def OffOk (P : Program) (w : World) (K : PySem.W.Frag) (mg : Str → Option Value) (base : Heap) (x m : Str) (k : Nat) (sp : Sp) (dvs : List V) : Prop :=
  ∃ (C f : Addr) (mc : Value) (fd : FuncData) (ps : List Str) (ds : List Value), mg x = some (.ref C) ∧ ClX.CRead K C mc ∧ PySem.W.findCls K (.ref C) mc m = some (.val (.ref f)) ∧ PySem.W.keepIn K (.ref f) = true ∧
    FnOk P w K mg base (L2N.CX P w) k f fd ps sp ∧ Binds K fd ps ds ∧ Vals dvs ds
def OffKOk (P : Program) (w : World) (K : PySem.W.Frag) (mg : Str → Option Value) (base : Heap) (x m : Str) (k : Nat) (sp : Sp) (n : Nat) (ks : List Str) (gV : List V → List V → List V) : Prop :=
  ∃ (C f : Addr) (mc : Value) (fd : FuncData) (ps : List Str) (g : List Value → List Value → List Value), mg x = some (.ref C) ∧ ClX.CRead K C mc ∧ PySem.W.findCls K (.ref C) mc m = some (.val (.ref f)) ∧ PySem.W.keepIn K (.ref f) = true ∧
    FnOk P w K mg base (L2N.CX P w) k f fd ps sp ∧ KBn K fd ps n ks g gV
/-- readings with keywords -/
def tMethN (C : Addr) (m : Str) (n q : Nat) (sp : Sp) (gV : List V → List V → List V) (E : XK) (ta : TE) (t tk : TA) : TE := fun σ H Q => ta σ H fun x H1 => ∃ a dx fs, x = .ref a ∧ H1 a = some (.ins C dx fs) ∧ fs.lookup m = none ∧
  t σ H1 fun vs H2 => tk σ H2 fun zs H3 => vs.length + 1 = n ∧ zs.length = q ∧ sp (gV (x :: vs) zs) H3 Q E
section
variable {X : Cx} {C : Addr} {m x : Str} {k n : Nat} {sp : Sp} {dvs : List V} {E : XK} {o e : Expr} {es : List Expr} {kws : List Keyword} {ta : TE} {t tk : TA} {p p1 p2 pos apos : Pos} {ks : List Str} {gV : List V → List V → List V} {pl : Sem Bool}
theorem pe_mM (M : MethOk X.prog X.w X.K X.mg X.base C m k sp dvs) (c : Cls X.K C) (hr : Room k X.A) (hx : Passes (L2N.CX X.prog X.w) X E) (he : PE X o ta) (ha : PA X (e :: es) t)
    (hst : starEach (e :: es) X.env = (false, eval e X.env) :: starEach es X.env := by rfl) (hpl : (backTo pos (starEach es X.env)).any (·.1) = false := by rfl)
    (ht : eval (.Call (.Attribute o m apos) (e :: es) [] pos) X.env = (do
      let ov ← eval o X.env
      standAt apos.atName
      let (f, first) ← holding [ov] (getMethod ov m pl)
      callWith pos f first (backTo pos (starEach (e :: es) X.env)) (backToKw pos (keywordEach [] X.env))) := by rfl) :
    PE X (.Call (.Attribute o m apos) (e :: es) [] pos) (tMeth C m sp dvs E ta t) := by
  obtain ⟨f, fd, ps, ds, h1, h2, h3, h4⟩ := M
  exact pe_meth he c h1 h2 hr h3 h4 hx ha hst hpl ht
theorem pe_mM0 (M : MethOk X.prog X.w X.K X.mg X.base C m k sp dvs) (c : Cls X.K C) (hr : Room k X.A) (hx : Passes (L2N.CX X.prog X.w) X E) (he : PE X o ta)
    (ht : eval (.Call (.Attribute o m apos) [] [] pos) X.env = (do
      let ov ← eval o X.env
      standAt apos.atName
      let (f, first) ← holding [ov] (getMethod ov m pl)
      callWith pos f first (backTo pos (starEach [] X.env)) (backToKw pos (keywordEach [] X.env))) := by rfl) :
    PE X (.Call (.Attribute o m apos) [] [] pos) (tMeth C m sp dvs E ta tNil) := by
  obtain ⟨f, fd, ps, ds, h1, h2, h3, h4⟩ := M
  exact pe_meth0 he c h1 h2 hr h3 h4 hx ht
theorem pe_mMK (M : MethKOk X.prog X.w X.K X.mg X.base C m k sp n ks gV) (c : Cls X.K C) (hr : Room k X.A) (hx : Passes (L2N.CX X.prog X.w) X E) (he : PE X o ta) (ha : PA X (e :: es) t) (hkw : PK X kws tk)
    (hall : (backToKw pos (keywordEach kws X.env)).all (·.1.isSome) = true := by rfl) (hks : (backToKw pos (keywordEach kws X.env)).filterMap (·.1) = ks := by rfl)
    (hst : starEach (e :: es) X.env = (false, eval e X.env) :: starEach es X.env := by rfl) (hpl : ((backTo pos (starEach (e :: es) X.env)).any (·.1) || (backToKw pos (keywordEach kws X.env)).any (·.1.isNone)) = false := by rfl)
    (ht : eval (.Call (.Attribute o m apos) (e :: es) kws pos) X.env = (do
      let ov ← eval o X.env
      standAt apos.atName
      let (f, first) ← holding [ov] (getMethod ov m pl)
      callWith pos f first (backTo pos (starEach (e :: es) X.env)) (backToKw pos (keywordEach kws X.env))) := by rfl) :
    PE X (.Call (.Attribute o m apos) (e :: es) kws pos) (tMethN C m n ks.length sp gV E ta t tk) := by
  obtain ⟨f, fd, ps, g, hm, F, hb⟩ := M
  refine ⟨fun pins s σ H Q I h => ?_⟩
  refine PySem.W.methodCall_KW (pl := pl) (thn (he.run pins s σ H _ I h) fun u s1 ⟨x, H1, I1, rx, a, dx, fs, ex, ea, l, q⟩ => ?_) ht
  subst ex
  obtain rfl : u = Value.ref a := rx
  refine getmeth_ok I1 ea c hm l ?_
  refine PySem.W.callWith_KW (first := [.ref a]) (h₀ := X.base) I1.ok.mod.kin hm.kp hall (thn (ha.run pos pins s1 σ H1 _ I1 q) fun us s2 ⟨vs, H2, I2, r, q2⟩ => ?_) hpl hst
  refine thn (hkw.run pos pins s2 σ H2 _ I2 q2) fun ws s3 ⟨zs, H3, I3, rz, l1, l2, q3⟩ => ⟨I3.kIn, ?_⟩
  rw [hks]
  exact run_fnN (us := .ref a :: us) (vs := .ref a :: vs) F hr hb hx I3 (.cons rfl r) rz (by rw [List.length_cons, l1]) l2 q3
theorem pe_fM (M : CallOk X.prog X.w X.K X.mg X.base x k sp dvs) (hr : Room k X.A) (hx : Passes (L2N.CX X.prog X.w) X E) (ha : PA X (e :: es) t) (hg : Gl X x := by rfl)
    (hdb : (x == ("__debug__" : Str)) = false := by decide) (he : starEach (e :: es) X.env = (false, eval e X.env) :: starEach es X.env := by rfl) (hpl : (backTo pos (starEach es X.env)).any (·.1) = false := by rfl) :
    PE X (.Call (.Name x p) (e :: es) [] pos) (tCall sp dvs E t) := by
  obtain ⟨f, fd, ps, ds, h1, h2, h3, h4, h5⟩ := M
  exact pe_call h3 hr hg h1 h2 h4 h5 hx ha hdb he hpl
theorem pe_fM0 (M : CallOk X.prog X.w X.K X.mg X.base x k sp dvs) (hr : Room k X.A) (hx : Passes (L2N.CX X.prog X.w) X E) (hg : Gl X x := by rfl) (hdb : (x == ("__debug__" : Str)) = false := by decide) :
    PE X (.Call (.Name x p) [] [] pos) (tCall sp dvs E tNil) := by
  obtain ⟨f, fd, ps, ds, h1, h2, h3, h4, h5⟩ := M
  exact pe_call0 h3 hr hg h1 h2 h4 h5 hx hdb
theorem pe_cM (M : MakeOk X.prog X.w X.K X.mg X.base x C k sp dvs) (hr : Room (k + 1) X.A) (hx : Passes (L2N.CX X.prog X.w) X E) (ha : PA X (e :: es) t) (hg : Gl X x := by rfl)
    (hdb : (x == ("__debug__" : Str)) = false := by decide) (he : starEach (e :: es) X.env = (false, eval e X.env) :: starEach es X.env := by rfl) (hpl : (backTo pos (starEach es X.env)).any (·.1) = false := by rfl) :
    PE X (.Call (.Name x p) (e :: es) [] pos) (tMake C sp dvs E t) := by
  obtain ⟨f, fd, ps, ds, h1, h2, h3, h4, h5⟩ := M
  exact pe_make h2 h3 hr hg h1 h4 h5 hx ha hdb he hpl
theorem pe_cMK (M : MakeKOk X.prog X.w X.K X.mg X.base x C k sp n ks gV) (hr : Room (k + 1) X.A) (hx : Passes (L2N.CX X.prog X.w) X E) (ha : PA X (e :: es) t) (hkw : PK X kws tk) (hg : Gl X x := by rfl)
    (hall : (backToKw pos (keywordEach kws X.env)).all (·.1.isSome) = true := by rfl) (hks : (backToKw pos (keywordEach kws X.env)).filterMap (·.1) = ks := by rfl) (hdb : (x == ("__debug__" : Str)) = false := by decide)
    (he : starEach (e :: es) X.env = (false, eval e X.env) :: starEach es X.env := by rfl) (hpl : ((backTo pos (starEach (e :: es) X.env)).any (·.1) || (backToKw pos (keywordEach kws X.env)).any (·.1.isNone)) = false := by rfl) :
    PE X (.Call (.Name x p) (e :: es) kws pos) (tMakeK C n ks.length sp gV E t tk) := by
  obtain ⟨f, fd, ps, g, h1, h2, h3, h4⟩ := M
  exact pe_makeK h2 h3 hr hg h1 h4 hx ha hkw hall hks hdb he hpl
theorem pe_cMK0 (M : MakeKOk X.prog X.w X.K X.mg X.base x C k sp 0 ks gV) (hr : Room (k + 1) X.A) (hx : Passes (L2N.CX X.prog X.w) X E) (hkw : PK X kws tk) (hg : Gl X x := by rfl)
    (hall : (backToKw pos (keywordEach kws X.env)).all (·.1.isSome) = true := by rfl) (hks : (backToKw pos (keywordEach kws X.env)).filterMap (·.1) = ks := by rfl) (hdb : (x == ("__debug__" : Str)) = false := by decide)
    (hpl : ((backTo pos (starEach [] X.env)).any (·.1) || (backToKw pos (keywordEach kws X.env)).any (·.1.isNone)) = false := by rfl) :
    PE X (.Call (.Name x p) [] kws pos) (tMakeK C 0 ks.length sp gV E tNil tk) := by
  obtain ⟨f, fd, ps, g, h1, h2, h3, h4⟩ := M
  exact pe_makeK0 h2 h3 hr hg h1 h4 hx hkw hall hks hdb hpl
/-- C.m(e, ..) off an own class -/
theorem pe_oM (M : OffOk X.prog X.w X.K X.mg X.base x m k sp dvs) (hr : Room k X.A) (hx : Passes (L2N.CX X.prog X.w) X E) (ha : PA X (e :: es) t) (hg : Gl X x := by rfl) (hdb : (x == ("__debug__" : Str)) = false := by decide)
    (hst : starEach (e :: es) X.env = (false, eval e X.env) :: starEach es X.env := by rfl) (hpl : (backTo pos (starEach es X.env)).any (·.1) = false := by rfl)
    (ht : eval (.Call (.Attribute (.Name x p1) m apos) (e :: es) [] pos) X.env = (do
      let ov ← eval (.Name x p1) X.env
      standAt apos.atName
      let (f, first) ← holding [ov] (getMethod ov m pl)
      callWith pos f first (backTo pos (starEach (e :: es) X.env)) (backToKw pos (keywordEach [] X.env))) := by rfl) :
    PE X (.Call (.Attribute (.Name x p1) m apos) (e :: es) [] pos) (tCall sp dvs E t) := by
  obtain ⟨C, f, mc, fd, ps, ds, gC, r, cv, kp, F, hb, hd⟩ := M
  refine ⟨fun pins s σ H Q I h => ?_⟩
  refine PySem.W.methodCall_KW (pl := pl) (ld_glob I hg gC ?_ hdb) ht
  refine PySem.W.method_cls I.kIn r.ga ?_
  refine PySem.W.cls_value I.kIn r.rd cv (handed_of (v := .ref f) rfl) ?_
  refine PySem.W.callWith_K (h₀ := X.base) I.ok.mod.kin kp (thn (ha.run pos pins _ σ H _ (I.tok _) h) fun us s1 ⟨vs, H1, I1, r, q⟩ => ⟨I1.kIn, ?_⟩) hst hpl
  exact run_fn F hr hb hd hx I1 r q
theorem pe_oMK (M : OffKOk X.prog X.w X.K X.mg X.base x m k sp n ks gV) (hr : Room k X.A) (hx : Passes (L2N.CX X.prog X.w) X E) (ha : PA X (e :: es) t) (hkw : PK X kws tk) (hg : Gl X x := by rfl) (hdb : (x == ("__debug__" : Str)) = false := by decide)
    (hall : (backToKw pos (keywordEach kws X.env)).all (·.1.isSome) = true := by rfl) (hks : (backToKw pos (keywordEach kws X.env)).filterMap (·.1) = ks := by rfl)
    (hst : starEach (e :: es) X.env = (false, eval e X.env) :: starEach es X.env := by rfl) (hpl : ((backTo pos (starEach (e :: es) X.env)).any (·.1) || (backToKw pos (keywordEach kws X.env)).any (·.1.isNone)) = false := by rfl)
    (ht : eval (.Call (.Attribute (.Name x p1) m apos) (e :: es) kws pos) X.env = (do
      let ov ← eval (.Name x p1) X.env
      standAt apos.atName
      let (f, first) ← holding [ov] (getMethod ov m pl)
      callWith pos f first (backTo pos (starEach (e :: es) X.env)) (backToKw pos (keywordEach kws X.env))) := by rfl) :
    PE X (.Call (.Attribute (.Name x p1) m apos) (e :: es) kws pos) (tCallN n ks.length sp gV E t tk) := by
  obtain ⟨C, f, mc, fd, ps, g, gC, r, cv, kp, F, hb⟩ := M
  refine ⟨fun pins s σ H Q I h => ?_⟩
  refine PySem.W.methodCall_KW (pl := pl) (ld_glob I hg gC ?_ hdb) ht
  refine PySem.W.method_cls I.kIn r.ga ?_
  refine PySem.W.cls_value I.kIn r.rd cv (handed_of (v := .ref f) rfl) ?_
  refine PySem.W.callWith_KW (h₀ := X.base) I.ok.mod.kin kp hall (thn (ha.run pos pins _ σ H _ (I.tok _) h) fun us s1 ⟨vs, H1, I1, r, q⟩ => ?_) hpl hst
  refine thn (hkw.run pos pins s1 σ H1 _ I1 q) fun ws s2 ⟨zs, H2, I2, rz, l1, l2, q2⟩ => ⟨I2.kIn, ?_⟩
  rw [hks]
  exact run_fnN F hr hb hx I2 r rz l1 l2 q2
theorem pe_gI {i : Int} (h : ∃ t, X.mg x = some (.int i t)) (hg : Gl X x := by rfl) (hd : (x == ("__debug__" : Str)) = false := by decide) : PE X (.Name x p) (tC (.int i)) := by
  obtain ⟨u, h⟩ := h
  exact pe_glob hg h ⟨_, rfl⟩ hd
theorem pe_gS {z : Str} (h : ∃ t, X.mg x = some (.str z t)) (hg : Gl X x := by rfl) (hd : (x == ("__debug__" : Str)) = false := by decide) : PE X (.Name x p) (tC (.str z)) := by
  obtain ⟨u, h⟩ := h
  exact pe_glob hg h ⟨_, rfl⟩ hd
theorem pe_gR {a : Addr} (h : X.mg x = some (.ref a)) (hg : Gl X x := by rfl) (hd : (x == ("__debug__" : Str)) = false := by decide) : PE X (.Name x p) (tC (.ref a)) := pe_glob hg h rfl hd
end
/-! ### an exception made with keywords -/
/-- C(k = v, ..), C's own __init__ keeping sp -/
def mkOK (C : Addr) (m : Nat) (sp : Sp) (gV : List V → List V → List V) (Q : XK) : List V → Hp → Prop := fun zs H1 => zs.length = m ∧ ∀ a, H1 a = none → sp (gV [.ref a] zs) (upd H1 a (exo a C none))
  (fun v H2 => v = .non ∧ ∃ (d : Addr) (fs : List (Str × V)), H2 a = some (exo a C (some d)) ∧ H2 d = some (exd d fs) ∧ H1 d = none ∧ Q (.ref C) (some d) (upd (del H2 a) d (.xd fs))) (fun _ _ _ => False)
section
variable {X : Cx} {x : Str} {p pos : Pos} {kws : List Keyword} {tk : TA}
theorem pmk_oexK {CX : CXT} {C fI : Addr} {k : Nat} {fd : FuncData} {ps ks : List Str} {sp : Sp} {g : List Value → List Value → List Value} {gV : List V → List V → List V} (T : OexC X.K C) (iC : PySem.W.findIn X.K (.ref C) "__init__" = some (some (.ref fI)))
    (tI : PySem.W.typeIn X.K (.ref fI) = some (.type "function")) (F1 : FnOk X.prog X.w X.K X.mg X.base CX k fI fd ps sp) (hr : Room (k + 1) X.A) (hb : KBn X.K fd ps 1 ks g gV) (hx : Passes CX X (fun _ _ _ => False)) (hg : Gl X x) (hm : X.mg x = some (.ref C)) (hkw : PK X kws tk)
    (hall : (backToKw pos (keywordEach kws X.env)).all (·.1.isSome) = true) (hks : (backToKw pos (keywordEach kws X.env)).filterMap (·.1) = ks) (hdb : (x == ("__debug__" : Str)) = false)
    (hpl : ((backTo pos (starEach [] X.env)).any (·.1) || (backToKw pos (keywordEach kws X.env)).any (·.1.isNone)) = false)
    (S : XK → List V → Hp → Prop) (hS : ∀ Q zs H1, S Q zs H1 → mkOK C ks.length sp gV Q zs H1) :
    L2N.PMk X (.Call (.Name x p) [] kws pos) (fun σ H Q => tk σ H (S Q)) := by
  intro pins s σ H Q I h
  obtain ⟨nm, q, N, bs, bm, sn, sub, ab, col, dd, k0, k1, k2, k3, k5, hC, hbm⟩ := T.cls
  refine wpAny_Call_Name_kw (ld_glob I hg hm ?_ hdb)
  refine PySem.W.callWith_KW0 (h₀ := X.base) I.ok.mod.kin T.kC hall ?_ hpl
  refine thn (hkw.run pos pins s σ H _ I h) fun ws s1 ⟨zs, H1, I1, r1, q0⟩ => ⟨I1.kIn, ?_⟩
  obtain ⟨l2, q1⟩ := hS Q zs H1 q0
  rw [hks]
  show wpAny _ _ (call (.ref C) [] (ks.zip ws)) _ _ _
  obtain ⟨hp, g', dr, tk', os⟩ := s1
  have hsz : hp.objs.size ≤ hp.objs.size + 1 := Nat.le_succ _
  have hn : H1 (hp.objs.size + 1) = none := I1.hok.fresh hsz
  have hq := q1 (hp.objs.size + 1) hn
  have kk : ∀ b o, hp.get? b = some o → ((hp.push (PySem.W.kdv_tup [])).push (PySem.HandSPX.excO C hp.objs.size)).get? b = some o := fun b o e => Heap.get?_push_of_some _ (Heap.get?_push_of_some _ e)
  have hget : ((hp.push (PySem.W.kdv_tup [])).push (PySem.HandSPX.excO C hp.objs.size)).get? (hp.objs.size + 1) = some (PySem.HandSPX.excO C hp.objs.size) := by heap_get
  have I2 : Inv X pins σ (upd H1 (hp.objs.size + 1) (exo (hp.objs.size + 1) C none)) ⟨(hp.push (PySem.W.kdv_tup [])).push (PySem.HandSPX.excO C hp.objs.size), g', dr, tk', os⟩ :=
    I1.laid (t' := tk') (a := hp.objs.size + 1) (o := exo (hp.objs.size + 1) C none) (h' := (hp.push (PySem.W.kdv_tup [])).push (PySem.HandSPX.excO C hp.objs.size)) kk hsz (exo_ok hget)
  have r0 : Vals [V.ref (hp.objs.size + 1)] [Value.ref (hp.objs.size + 1)] := .cons rfl .nil
  refine wpAny_call (PySem.WHX.callK F.excBase_ValueError (fun Y => PySem.HandSPX.refsVE_contains Y bm hbm) (I1.kIn _ _ hC) (PySem.W.looks_findIn I1.kIn iC) (fun self => PySem.W.bind_fn I1.kIn self tI) (Nat.zero_le _)
    (codeAny_mono (F1.run _ X.stack _ _ ⟨[Value.ref (hp.objs.size + 1)], ks.zip ws⟩ (g [Value.ref (hp.objs.size + 1)] ws) _ _ (fun _ _ _ => False) (hr.make C [] (ks.zip ws)) (I2.env0.make C [] (ks.zip ws)) (hb.to _ [Value.ref (hp.objs.size + 1)] ws I2.kIn rfl (r1.length.symm.trans l2)) (hb.rel r0 r1) hq) fun r s' hq' => ?_))
  cases r with
  | error er => exact hx pins σ _ _ er s' I2 hq'
  | ok fl =>
    cases fl with
    | ret u =>
      obtain ⟨v, H2, os2, bare2, un2, hok2, rv, ev, d, fs, ea, ed, hd1, q2⟩ := hq'
      subst ev
      obtain ⟨h2, g2, d2, t2, os'⟩ := s'
      obtain ⟨t0, G, J, kG, ge, hoe, na⟩ := mk_end0 (d2 := d2) (t2 := t2) I1 hsz kk un2 hok2 os2 bare2 ea ed hd1
      exact ⟨rv, hp.objs.size + 1, _, _, ⟨G, g2, d2, t2, os'⟩, _, .ref C, some d, rfl, J, kG, ge, hoe, ⟨rfl, rfl, fun vs hv => by
        cases hv
        rfl⟩, rfl, rfl, na, rfl, bare2, raises_own T.exC T.tyC, q2⟩
    | next => exact False.elim hq'
    | brk => exact False.elim hq'
    | cont => exact False.elim hq'
/-- an exception that has its dict, new -/
theorem del_upd {H : Hp} {a d : Addr} {fs : List (Str × V)} {o o1 o' : HO} (ha : H a = none) (hd : d ≠ a) : upd (del (upd (upd (upd H a o) d o') a o1) a) d (.xd fs) = upd H d (.xd fs) := by
  funext b
  by_cases h1 : b = d
  · rw [h1, upd_same, upd_same]
  · rw [upd_ne h1, upd_ne h1]
    by_cases h2 : b = a
    · rw [h2, del_same, ha]
    · rw [del_ne h2, upd_ne h2, upd_ne h1, upd_ne h2]
/-- C(place = e): a new exception whose dict, new, holds the place -/
def sMkW (C : Addr) (Q : XK) : List V → Hp → Prop := fun zs H1 => ∃ x, zs = [x] ∧ ∀ d, H1 d = none → Q (.ref C) (some d) (upd H1 d (.xd [(("place" : Str), x)]))
def sMkNW (C : Addr) (Q : XK) : List V → Hp → Prop := fun zs H1 => ∃ x y, zs = [x, y] ∧ ∀ d, H1 d = none → Q (.ref C) (some d) (upd H1 d (.xd [(("word" : Str), y), (("place" : Str), x)]))
def tMkW (C : Addr) (te : TE) : L2.St → Hp → XK → Prop := fun σ H Q => tCons te tNil σ H (sMkW C Q)
def tMkNW (C : Addr) (te tw : TE) : L2.St → Hp → XK → Prop := fun σ H Q => tCons te (tCons tw tNil) σ H (sMkNW C Q)
theorem del_upd2 {H : Hp} {a d : Addr} {fs : List (Str × V)} {o o1 o2 o' : HO} (ha : H a = none) (hd : d ≠ a) : upd (del (upd (upd (upd (upd H a o) d o') a o1) d o2) a) d (.xd fs) = upd H d (.xd fs) := by
  funext b
  by_cases h1 : b = d
  · rw [h1, upd_same, upd_same]
  · rw [upd_ne h1, upd_ne h1]
    by_cases h2 : b = a
    · rw [h2, del_same, ha]
    · rw [del_ne h2, upd_ne h1, upd_ne h2, upd_ne h1, upd_ne h2]
end
end WH
set_option Elab.async false
set_option linter.all false
set_option maxRecDepth 100000
set_option maxHeartbeats 2000000
namespace WH
open PySem PySem.Spec PyProof.Rows L2
section
variable {prog : Program} {w : World} {A : Around} {E : Value → Shared → Prop} {s : Shared}
theorem cuts_all (lo hi : Option Int) (n : Nat) : sliceBounds lo hi none n = (((HT.sIx n 0 lo : Nat) : Int), ((HT.sIx n n hi : Nat) : Int), 1) := by
  obtain ⟨e1, e2, e3⟩ := slice_bounds lo hi n
  exact Prod.ext e1 (Prod.ext e2 e3)
/-- a list's items from one place to another are exchanged for those of another list: both places may be left out, or count from the end -/
theorem cutStore {l b sl : Addr} {its new : Array Value} {n n2 : Nat} {vl vu : Value} {lo hi : Option Int} {Q : Unit → Shared → Prop}
    (e : s.heap.get? l = some { cls := .type "list", data := .seq its n }) (e2 : s.heap.get? b = some { cls := .type "list", data := .seq new n2 }) (hne : l ≠ b)
    (hs : s.heap.IsSliceOf sl vl vu .none) (pl : IsPart vl lo) (pu : IsPart vu hi) (hsz : its.size + new.size ≤ sizeLine)
    (h : Q () { s with heap := s.heap.update l (Obj.mapSeq fun xs => xs.extract 0 (HT.sIx its.size 0 lo) ++ new ++ xs.extract (max (HT.sIx its.size 0 lo) (HT.sIx its.size its.size hi)) xs.size) }) :
    wpAny (model prog w) A (setItem (.ref l) (.ref sl) (.ref b)) Q E s := by
  have iL : s.heap.IsList l its := PySem.IsL.isList e
  have iB : s.heap.IsList b new := PySem.IsL.isList e2
  obtain ⟨ob, gb, cb, db⟩ := id hs
  have tS : s.TypeIs (.ref sl) "slice" := ⟨ob, gb, cb⟩
  have one : ¬ ((rawPart none == rawInt 0) = true) := Bool.false_ne_true
  have two : Builtin.List.listSameRef (.ref l) (.ref b) = false := beq_eq_false_iff_ne.mpr hne
  have low : HT.sIx its.size 0 lo ≤ its.size := HT.sIx_le _ _ (Nat.zero_le _) _
  have top : HT.sIx its.size its.size hi ≤ its.size := HT.sIx_le _ _ (Nat.le_refl _) _
  have both : (max ((HT.sIx its.size 0 lo : Nat) : Int) ((HT.sIx its.size its.size hi : Nat) : Int)).toNat = max (HT.sIx its.size 0 lo) (HT.sIx its.size its.size hi) := by omega
  have fits : ((fun xs : Array Value => xs.extract 0 (HT.sIx its.size 0 lo) ++ new ++ xs.extract (max (HT.sIx its.size 0 lo) (HT.sIx its.size its.size hi)) xs.size) its).size ≤ sizeLine + 1 := by
    simp only [Array.size_append, Array.size_extract]
    omega
  unfold setItem
  try with_reducible refine wpAny_holding ?_
  first
    | refine wpAny_bind (wpAny_pure ?_)
    | skip
  refine wpAny_bind (wpAny_sequenceKey iL.typeIs (by decide) ?_)
  refine wpAny_bind (wpAny_callSpecial?_slot (name := Str.ofString "__setitem__") iL.typeIs slot_list_setitem ?_)
  refine wpAny_call_entry slot_list_setitem iL.typeIs entry_list_setitem ?_ (args_list_setitem _ _ _)
  show wpAny _ _ (Builtin.List.listSubscript? (.ref sl) >>= _) _ _ s
  refine wpAny_bind ?_
  unfold Builtin.List.listSubscript?
  refine wpAny_bind (wpAny_specialOf tS slice_no_index ?_)
  simp only [Option.isNone_none, if_true]
  refine wpAny_pure ?_
  show wpAny _ _ (typeOf (.ref sl) >>= _) _ _ s
  refine wpAny_bind (wpAny_typeOf tS ?_)
  first
    | rw [if_neg (by decide)]
    | refine PySem.W.KFB.if_not (by decide) ?_
  rw [listSliceParts_eq]
  refine wpAny_bind (wpAny_bind (wpAny_field gb db (x := .none) rfl ?_))
  refine wpAny_bind (wpAny_listPart .none ?_)
  rw [if_neg one]
  refine wpAny_bind (wpAny_field gb db (x := vl) rfl (wpAny_bind (wpAny_listPart pl ?_)))
  refine wpAny_bind (wpAny_field gb db (x := vu) rfl ?_)
  refine wpAny_bind (wpAny_listPart pu (wpAny_pure ?_))
  first
    | simp only [two, Bool.false_eq_true, if_false]
    | refine PySem.W.KFB.if_not two ?_
  refine wpAny_bind (m := Builtin.List.listAllItems (.ref b) "must assign iterable to extended slice") ?_
  unfold Builtin.List.listAllItems
  refine wpAny_bind (wpAny_typeOf iB.typeIs ?_)
  first
    | refine PySem.W.KFB.if_so (by decide) ?_
    | rw [if_pos (by decide)]
  unfold Builtin.List.listItems
  refine wpAny_bind (wpAny_seqItems e2 rfl (wpAny_pure ?_))
  refine wpAny_bind (wpAny_bind (wpAny_seqItems e rfl (wpAny_pure ?_)))
  refine wpAny_bind (wpAny_of_eq ((sliceIndices_raw lo hi none its.size (fun z => nomatch z)).trans (congrArg (pure : Int × Int × Int → Sem (Int × Int × Int)) (cuts_all lo hi its.size))) ?_)
  show wpAny _ _ (if ((1 : Int) == 1) = true then _ else _) _ _ s
  rw [if_pos (by decide)]
  refine wpAny_bind (wpAny_rule ?_)
  first
    | simp only [notLongL hsz, Bool.false_eq_true, if_false]
    | refine PySem.W.KFB.if_not (notLongL hsz) ?_
  first
    | refine wpAny_bind (wpAny_pure ?_)
    | skip
  show wpAny _ _ (updateSeq l (fun xs => xs.extract 0 (((HT.sIx its.size 0 lo : Nat) : Int)).toNat ++ new ++ xs.extract (max ((HT.sIx its.size 0 lo : Nat) : Int) ((HT.sIx its.size its.size hi : Nat) : Int)).toNat xs.size) >>= _) _ _ s
  rw [both, Int.toNat_natCast]
  refine wpAny_bind (wpAny_updateSeq (hz := Nat.le_trans (Nat.le_add_right _ _) hsz) (_hz' := fits) e rfl ?_)
  refine wpAny_bind (wpAny_letGo ?_)
  first
    | exact wpAny_bind (wpAny_pure (wpAny_pure ⟨.none, rfl, wpAny_pure h⟩))
    | exact wpAny_pure ⟨.none, rfl, wpAny_pure h⟩
end
/-- the items when ys stand for those from lo to hi -/
def cutPut (xs ys : List V) (lo hi : Option Int) : List V := xs.take (HT.sIx xs.length 0 lo) ++ ys ++ xs.drop (max (HT.sIx xs.length 0 lo) (HT.sIx xs.length xs.length hi))
def gCut (to : TE) (tl th : TO) : TG := fun v σ H Q => to σ H fun o H1 => tl σ H1 fun lo H2 => th σ H2 fun hi H3 => ∃ l b xs ys, o = .ref l ∧ v = .ref b ∧ H3 l = some (.lst xs) ∧ H3 b = some (.lst ys) ∧ l ≠ b ∧
  xs.length + ys.length ≤ sizeLine ∧ Q σ (upd H3 l (.lst (cutPut xs ys lo hi)))
def gAttr (K : PySem.W.Frag) (to : TE) (f : Str) : TG := fun v σ H Q => to σ H fun x H1 => ∃ a C dx fs, x = .ref a ∧ H1 a = some (.ins C dx fs) ∧ Cls K C ∧ NoAttr K C f ∧ fs.length < 1000 ∧ Q σ (upd H1 a (.ins C dx (putF f v fs)))
section
variable {X : Cx} {o : Expr} {lo hi : Option Expr} {to : TE} {tl th : TO} {f : Str} {p2 pos : Pos}
theorem slices_eq (its its2 : List Value) (a c : Nat) : its.toArray.extract 0 a ++ its2.toArray ++ its.toArray.extract c its.toArray.size = (its.take a ++ its2 ++ its.drop c).toArray := splice_eq its its2 a c
/-- o[lo:hi] = .. -/
theorem pg_cut (ho : PE X o to) (hl : PO X lo tl) (hu : PO X hi th)
    (ha : ∀ v, assign (.Subscript o (.Slice lo hi none p2) pos) X.env v = (do
      let ov ← holding [v] (eval o X.env)
      let iv ← holding [v, ov] (eval (.Slice lo hi none p2) X.env)
      standAt pos
      holding [v, ov, iv] (setItem ov iv v)
      release [iv, v, ov] []) := by intro _; rfl) : PG X (.Subscript o (.Slice lo hi none p2) pos) (gCut to tl th) := by
  refine ⟨fun pins s σ H v u Q I r h => ?_⟩
  rw [ha]
  refine wpAny_bind (wpAny_holding (thn (ho.run pins s σ H _ I h) fun ov s1 ⟨x, H1, I1, r1, q1⟩ => ?_))
  refine wpAny_bind (wpAny_holding ?_)
  refine wpAny_Slice (thn (hl.run pins s1 σ H1 _ I1 q1) fun vl s2 ⟨l, H2, I2, pl, q2⟩ => ?_)
  refine thn (hu.run pins s2 σ H2 _ I2 q2) fun vu s3 ⟨y, H3, I3, pu, q3⟩ => ?_
  rw [evalPart_none]
  refine wpAny_pure ?_
  obtain ⟨al, ab, xs, ys, ex, ev, hx, hy, hne, hz, q⟩ := q3
  subst ex ev
  obtain rfl : ov = Value.ref al := r1
  obtain rfl : u = Value.ref ab := r
  have I4 : Inv X pins σ H3 { s3 with heap := s3.heap.push { cls := .type "slice", data := .fields #[vl, vu, .none] } } := I3.kept (t' := s3.toks) fun b ob z => Heap.get?_push_of_some _ z
  refine wpAny_bind (wpAny_standAt (wpAny_bind (wpAny_holding ?_)))
  obtain ⟨_, its, n, rx, hlx, e1⟩ := I4.lstM hx
  obtain ⟨_, its2, n2, ry, hly, e2⟩ := I4.lstM hy
  have l1 : its.length = xs.length := rx.length.symm
  have l2 : its2.length = ys.length := ry.length.symm
  refine cutStore (sl := s3.heap.objs.size) e1 e2 hne (Heap.IsSliceOf.new ..) pl pu (by rw [List.size_toArray, List.size_toArray, l1, l2]; exact hz) ?_
  refine wpAny_release ⟨σ, _, ?_, q⟩
  have low : HT.sIx xs.length 0 l ≤ xs.length := HT.sIx_le _ _ (Nat.zero_le _) _
  refine I4.lset (t' := s3.toks) (its' := its.take (HT.sIx xs.length 0 l) ++ its2 ++ its.drop (max (HT.sIx xs.length 0 l) (HT.sIx xs.length xs.length y))) hx e1 ?_ (Vals.append (Vals.append (rx.take _) ry) (rx.drop _)) ?_
  · have z := splice_eq its its2 (HT.sIx xs.length 0 l) (max (HT.sIx xs.length 0 l) (HT.sIx xs.length xs.length y))
    rw [List.size_toArray, l1] at z
    rw [List.size_toArray, l1]
    exact z
  · show (cutPut xs ys l y).length ≤ sizeLine
    unfold cutPut
    rw [List.length_append, List.length_append, List.length_take, List.length_drop]
    omega
/-- o.f = .. as one of several targets -/
theorem pg_fld (ho : PE X o to)
    (ha : ∀ v, assign (.Attribute o f pos) X.env v = (do
      let ov ← holding [v] (eval o X.env)
      standAt pos.atName
      holding [v, ov] (setAttr ov f v)
      release [v, ov] []) := by intro _; rfl) : PG X (.Attribute o f pos) (gAttr X.K to f) := by
  refine ⟨fun pins s σ H v u Q I r h => ?_⟩
  rw [ha]
  refine wpAny_bind (wpAny_holding (thn (ho.run pins s σ H _ I h) fun ov s1 ⟨x, H1, I1, r1, a, C, dx, fs, ex, ea, c, n, l, q⟩ => ?_))
  subst ex
  obtain rfl : ov = Value.ref a := r1
  refine wpAny_bind (wpAny_standAt (wpAny_bind (wpAny_holding ?_)))
  exact setattr_ok I1 ea c n l r fun s3 I3 => wpAny_release ⟨σ, _, I3, q⟩
/-- xs[i], i below 0, as an operator's left side -/
def rBack (K : PySem.W.Frag) : V → V → Hp → VK → Prop := fun x y H Q => ∃ p xs i v, x = .ref p ∧ y = .int i ∧ i < 0 ∧ SqL K H p xs ∧ atI xs i = some v ∧ Q v H
theorem get_back : PGet X (rBack X.K) := by
  intro pins s σ H x y v u Q I rx ry h
  obtain ⟨p, xs, i, z, rfl, rfl, neg, hq, he, q⟩ := h
  cases rx
  obtain ⟨t, rfl⟩ := ry
  obtain ⟨its, r, pl, hz⟩ := I.list hq
  obtain ⟨j, h1, h2, h3, h4, h5⟩ := atI_get he
  obtain ⟨w, ew, rw'⟩ := r.get h2
  have hl := r.length
  have hn := line63
  have hj : (i + (its.toArray.size : Int)).toNat = j := by
    rw [seqIndex_neg neg h4] at h1
    rw [List.size_toArray, ← hl]
    exact Option.some.inj h1
  exact wpAny_getItem_list_neg pl.isList neg (by rw [List.size_toArray] <;> omega) (by omega) (by rw [hj]; simpa using ew) ⟨z, H, I, rw', q⟩
end
end WH
set_option Elab.async false
set_option linter.all false
set_option maxRecDepth 100000
set_option maxHeartbeats 2000000
namespace WH
open PySem PySem.Spec PyProof.Rows L2
/-! ### the text by places -/
def top (i : Nat) : Stmt := PySem.Challenge.pw_wordhoard_k13_loops.main.body.getD i (.Pass ⟨0, 0, 0, 0⟩)
/-! ### errors -/
abbrev sWE : Stmt := inClass (top 2) 0
abbrev sNW : Stmt := inClass (top 3) 0
section
variable {P : Program} {w : World} {K : PySem.W.Frag} {mg : Str → Option Value} {base : Heap}
/-- every keyword is written, none has a default -/
theorem kbindsN {x qual : Str} {params : Arguments} {body : List Stmt} {scope : Scope} {f : Addr} {fd : FuncData} {ps : List Str} (F : FunD K x qual params body scope [] [] f fd) (n : Nat) (ks : List Str) (g : {α : Type} → List α → List α → List α)
    (hrel : ∀ {vs zs : List V} {us ws : List Value}, Vals vs us → Vals zs ws → Vals (g vs zs) (g us ws))
    (h : ∀ (kV doc pm : Value) (an : Option Addr) (cdv ct : Value) (us ws : List Value), us.length = n → ws.length = ks.length → bindArgs (PySem.W.fnOf x qual params body scope .none kV doc pm an cdv ct) ⟨us, ks.zip ws⟩ = pure (ps.zip (g us ws))) :
    KBn K fd ps n ks (fun us ws => g us ws) (fun vs zs => g vs zs) := by
  obtain ⟨oc, od, dV, kV, doc, pm, an, cdv, ct, osl, rfl, lk, hcd, hD, hK⟩ := F.ex
  rcases hD with ⟨_, rfl⟩ | ⟨e, _⟩
  · exact ⟨fun s us ws X l1 l2 => .of_eq (h kV doc pm an cdv ct us ws l1 l2), fun r1 r2 => hrel r1 r2⟩
  · exact absurd rfl e
/-- WordError's own making: self, place -/
def spWE (K : PySem.W.Frag) : Sp := fun vs H Q _ => ∃ (a C : Addr) (x : V), vs = [.ref a, x] ∧ OexC K C ∧ PySem.W.findIn K (.ref C) "place" = some none ∧ H a = some (exo a C none) ∧
  ∀ dx, H dx = none → dx ≠ a → Q .non (upd (upd H dx (exd dx [(("place" : Str), x)])) a (exo a C (some dx)))
/-- NoWord's: self, place, word -/
def spNW (K : PySem.W.Frag) : Sp := fun vs H Q _ => ∃ (a C : Addr) (x y : V), vs = [.ref a, x, y] ∧ OexC K C ∧ PySem.W.findIn K (.ref C) "place" = some none ∧ PySem.W.findIn K (.ref C) "word" = some none ∧ H a = some (exo a C none) ∧
  ∀ dx, H dx = none → dx ≠ a → Q .non (upd (upd (upd H dx (exd dx [(("place" : Str), x)])) a (exo a C (some dx))) dx (exd dx [(("word" : Str), y), (("place" : Str), x)]))
theorem scWE : FnScope ["self", "place"] ["self", "place"] (defScope sWE) := ⟨rfl, rfl, rfl, by decide +kernel, rfl, by decide +kernel, by decide +kernel⟩
theorem scNW : FnScope ["self", "place", "word"] ["self", "place", "word"] (defScope sNW) := ⟨rfl, rfl, rfl, by decide +kernel, rfl, by decide +kernel, by decide +kernel⟩
abbrev FnT (K : PySem.W.Frag) (x qual : Str) (st : Stmt) (dvs : List V) (kws : List (Str × V)) (f : Addr) (fd : FuncData) : Prop := FunD K x qual (defArgs st) (defBody st) (defScope st) dvs kws f fd
theorem ok_WE {f : Addr} {fd : FuncData} (F : FnT K "__init__" "WordError.__init__" sWE [] [] f fd) (gV : mg "ValueError" = none) (vV : PySem.W.findCls K (.type "ValueError") (.type "type") "__init__" = some (.val (.builtin "ValueError.__init__"))) :
    FnOk P w K mg base (L2N.CX P w) 1 f fd ["self", "place"] (spWE K) := by
  refine F.ok scWE (fun vs H Q E h => ?_) (fun cdv A outer s H vs Q E hr h => ?_)
  · obtain ⟨a, C, x, rfl, _⟩ := h
    rfl
  · obtain ⟨a, C, x, rfl, T, n, ha, k⟩ := h
    refine ⟨_, pss_cons (ps_expr (pe_veinit rfl gV vV (pa_cons (pv 0) (pa_cons pe_str pa_nil)))) (pss_one (ps_ost (pv 0) (pv 1))), ?_⟩
    refine ⟨_, rfl, a, C, _, rfl, by decide, T, ha, _, rfl, _, rfl, a, C, rfl, T, n, .inl ⟨ha, fun dx h1 h2 => ?_⟩⟩
    exact k dx h1 h2
theorem ok_NW {f : Addr} {fd : FuncData} (F : FnT K "__init__" "NoWord.__init__" sNW [] [] f fd) (W : OffKOk P w K mg base "WordError" "__init__" 1 (spWE K) 1 (["place"] : List Str) (fun vs zs => vs ++ zs)) : FnOk P w K mg base (L2N.CX P w) 2 f fd ["self", "place", "word"] (spNW K) := by
  refine F.ok scNW (fun vs H Q E h => ?_) (fun cdv A outer s H vs Q E hr h => ?_)
  · obtain ⟨a, C, x, y, rfl, _⟩ := h
    rfl
  · obtain ⟨a, C, x, y, rfl, T, n, n2, ha, k⟩ := h
    refine ⟨_, pss_cons (ps_expr (pe_oMK W hr (L2N.passes_call (L2N.takes_of rfl rfl rfl rfl) fun _ _ _ _ z => z) (pa_cons (pv 0) pa_nil) (pk_cons (pv 1) pk_nil))) (pss_one (ps_ost (pv 0) (pv 2))), ?_⟩
    refine ⟨_, rfl, _, rfl, rfl, rfl, a, C, x, rfl, T, n, ha, fun dx h1 h2 => ?_⟩
    refine ⟨_, rfl, _, rfl, a, C, rfl, T, n2, .inr ⟨dx, _, upd_same, Eq.trans (upd_ne h2) upd_same, Nat.le_of_ble_eq_true rfl, ?_⟩⟩
    exact k dx h1 h2
/-- an error class as it may be raised -/
def WErr (P : Program) (w : World) (K : PySem.W.Frag) (mg : Str → Option Value) (base : Heap) (x : Str) (C : Addr) : Prop :=
  mg x = some (.ref C) ∧ OexC K C ∧ PySem.W.findIn K (.ref C) "place" = some none ∧ ∃ (fI : Addr) (fd : FuncData) (ps : List Str) (g : List Value → List Value → List Value),
    PySem.W.findIn K (.ref C) "__init__" = some (some (.ref fI)) ∧ PySem.W.typeIn K (.ref fI) = some (.type "function") ∧ FnOk P w K mg base (L2N.CX P w) 1 fI fd ps (spWE K) ∧ KBn K fd ps 1 (["place"] : List Str) g (fun vs zs => vs ++ zs)
def WErrN (P : Program) (w : World) (K : PySem.W.Frag) (mg : Str → Option Value) (base : Heap) (x : Str) (C : Addr) : Prop :=
  mg x = some (.ref C) ∧ OexC K C ∧ PySem.W.findIn K (.ref C) "place" = some none ∧ PySem.W.findIn K (.ref C) "word" = some none ∧ ∃ (fI : Addr) (fd : FuncData) (ps : List Str) (g : List Value → List Value → List Value),
    PySem.W.findIn K (.ref C) "__init__" = some (some (.ref fI)) ∧ PySem.W.typeIn K (.ref fI) = some (.type "function") ∧ FnOk P w K mg base (L2N.CX P w) 2 fI fd ps (spNW K) ∧ KBn K fd ps 1 (["place", "word"] : List Str) g (fun vs zs => vs ++ zs)
end
section
variable {X : Cx} {x : Str} {C : Addr} {e e2 : Expr} {te tw : TE} {p pos k1 k2 : Pos}
theorem pmk_word (M : WErr X.prog X.w X.K X.mg X.base x C) (hr : Room 2 X.A) (hx : Passes (L2N.CX X.prog X.w) X (fun _ _ _ => False)) (he : PE X e te) (hg : Gl X x := by rfl) (hdb : (x == ("__debug__" : Str)) = false := by decide)
    (hall : (backToKw pos (keywordEach [⟨some "place", e, k1⟩] X.env)).all (·.1.isSome) = true := by rfl) (hks : (backToKw pos (keywordEach [⟨some "place", e, k1⟩] X.env)).filterMap (·.1) = (["place"] : List Str) := by rfl)
    (hpl : ((backTo pos (starEach [] X.env)).any (·.1) || (backToKw pos (keywordEach [⟨some "place", e, k1⟩] X.env)).any (·.1.isNone)) = false := by rfl) :
    L2N.PMk X (.Call (.Name x p) [] [⟨some "place", e, k1⟩] pos) (tMkW C te) := by
  obtain ⟨gC, T, n, fI, fd, ps, g, h1, h2, F, B⟩ := M
  intro pins s σ H Q I h
  refine pmk_oexK T h1 h2 F hr B hx hg gC (pk_cons he pk_nil) hall hks hdb hpl (sMkW C) (fun Q zs H1 h => ?_) pins s σ H Q I h
  obtain ⟨x, rfl, q⟩ := h
  refine ⟨rfl, fun a ha => ⟨a, C, x, rfl, T, n, upd_same, fun dx d1 d2 => ⟨rfl, dx, _, upd_same, Eq.trans (upd_ne d2) upd_same, ?_, ?_⟩⟩⟩
  · rw [upd_ne d2] at d1
    exact d1
  · rw [del_upd ha d2]
    rw [upd_ne d2] at d1
    exact q dx d1
theorem pmk_noword (M : WErrN X.prog X.w X.K X.mg X.base x C) (hr : Room 3 X.A) (hx : Passes (L2N.CX X.prog X.w) X (fun _ _ _ => False)) (he : PE X e te) (he2 : PE X e2 tw) (hg : Gl X x := by rfl) (hdb : (x == ("__debug__" : Str)) = false := by decide)
    (hall : (backToKw pos (keywordEach [⟨some "place", e, k1⟩, ⟨some "word", e2, k2⟩] X.env)).all (·.1.isSome) = true := by rfl) (hks : (backToKw pos (keywordEach [⟨some "place", e, k1⟩, ⟨some "word", e2, k2⟩] X.env)).filterMap (·.1) = (["place", "word"] : List Str) := by rfl)
    (hpl : ((backTo pos (starEach [] X.env)).any (·.1) || (backToKw pos (keywordEach [⟨some "place", e, k1⟩, ⟨some "word", e2, k2⟩] X.env)).any (·.1.isNone)) = false := by rfl) :
    L2N.PMk X (.Call (.Name x p) [] [⟨some "place", e, k1⟩, ⟨some "word", e2, k2⟩] pos) (tMkNW C te tw) := by
  obtain ⟨gC, T, n, n2, fI, fd, ps, g, h1, h2, F, B⟩ := M
  intro pins s σ H Q I h
  refine pmk_oexK T h1 h2 F hr B hx hg gC (pk_cons he (pk_cons he2 pk_nil)) hall hks hdb hpl (sMkNW C) (fun Q zs H1 h => ?_) pins s σ H Q I h
  obtain ⟨x, y, rfl, q⟩ := h
  refine ⟨rfl, fun a ha => ⟨a, C, x, y, rfl, T, n, n2, upd_same, fun dx d1 d2 => ⟨rfl, dx, _, ?_, upd_same, ?_, ?_⟩⟩⟩
  · rw [upd_ne d2.symm]
    exact upd_same
  · rw [upd_ne d2] at d1
    exact d1
  · rw [del_upd2 ha d2]
    rw [upd_ne d2] at d1
    exact q dx d1
/-- raise C(place = e) -/
theorem ps_rw {W : WX} {pos2 : Pos} (M : WErr X.prog X.w X.K X.mg X.base x C) (hc : X.calm = true) (hr : Room 2 X.A) (tk : L2N.Takes X W) (he : PE X e te) (hg : Gl X x := by rfl) (hdb : (x == ("__debug__" : Str)) = false := by decide)
    (hall : (backToKw pos (keywordEach [⟨some "place", e, k1⟩] X.env)).all (·.1.isSome) = true := by rfl) (hks : (backToKw pos (keywordEach [⟨some "place", e, k1⟩] X.env)).filterMap (·.1) = (["place"] : List Str) := by rfl)
    (hpl : ((backTo pos (starEach [] X.env)).any (·.1) || (backToKw pos (keywordEach [⟨some "place", e, k1⟩] X.env)).any (·.1.isNone)) = false := by rfl) :
    PS X (.Raise (some (.Call (.Name x p) [] [⟨some "place", e, k1⟩] pos)) none pos2) (fun _ σ H => tMkW C te σ H fun cls d H' => W cls d σ H') :=
  L2N.ps_raise hc tk (pmk_word M hr (L2N.passes_call tk fun _ _ _ _ z => z.elim) he hg hdb hall hks hpl)
theorem ps_rnw {W : WX} {pos2 : Pos} (M : WErrN X.prog X.w X.K X.mg X.base x C) (hc : X.calm = true) (hr : Room 3 X.A) (tk : L2N.Takes X W) (he : PE X e te) (he2 : PE X e2 tw) (hg : Gl X x := by rfl) (hdb : (x == ("__debug__" : Str)) = false := by decide)
    (hall : (backToKw pos (keywordEach [⟨some "place", e, k1⟩, ⟨some "word", e2, k2⟩] X.env)).all (·.1.isSome) = true := by rfl) (hks : (backToKw pos (keywordEach [⟨some "place", e, k1⟩, ⟨some "word", e2, k2⟩] X.env)).filterMap (·.1) = (["place", "word"] : List Str) := by rfl)
    (hpl : ((backTo pos (starEach [] X.env)).any (·.1) || (backToKw pos (keywordEach [⟨some "place", e, k1⟩, ⟨some "word", e2, k2⟩] X.env)).any (·.1.isNone)) = false := by rfl) :
    PS X (.Raise (some (.Call (.Name x p) [] [⟨some "place", e, k1⟩, ⟨some "word", e2, k2⟩] pos)) none pos2) (fun _ σ H => tMkNW C te tw σ H fun cls d H' => W cls d σ H') :=
  L2N.ps_raise hc tk (pmk_noword M hr (L2N.passes_call tk fun _ _ _ _ z => z.elim) he he2 hg hdb hall hks hpl)
theorem w_mkw {σ : L2.St} {H : Hp} {Q : XK} (q : te σ H fun x H1 => tNil σ H1 fun xs H2 => sMkW C Q (x :: xs) H2) : tMkW C te σ H Q := q
theorem w_mknw {σ : L2.St} {H : Hp} {Q : XK} (q : te σ H fun x H1 => tw σ H1 fun y H2 => tNil σ H2 fun xs H3 => sMkNW C Q (x :: y :: xs) H3) : tMkNW C te tw σ H Q := q
theorem w_smk {H : Hp} {Q : XK} {x : V} (q : ∀ d, H d = none → Q (.ref C) (some d) (upd H d (.xd [(("place" : Str), x)]))) : sMkW C Q [x] H := ⟨x, rfl, q⟩
theorem w_smkn {H : Hp} {Q : XK} {x y : V} (q : ∀ d, H d = none → Q (.ref C) (some d) (upd H d (.xd [(("word" : Str), y), (("place" : Str), x)]))) : sMkNW C Q [x, y] H := ⟨x, y, rfl, q⟩
theorem cxOf_K {CX : CXT} {P : Program} {w : World} {K : PySem.W.Frag} {mg : Str → Option Value} {base : Heap} {N : List Str} {qual : Str} {scope : Scope} {f : Addr} {cd : Value} {A : Around} {outer : List Env} {s : Shared} {H : Hp} {E : XK} : (cxOf CX P w K mg base N qual scope f cd A outer s H E).K = K := rfl
end
end WH
set_option Elab.async false
set_option linter.all false
set_option maxRecDepth 100000
set_option maxHeartbeats 1000000
namespace WH
open PySem PySem.Spec PyProof.Rows L2
theorem iv_len (xs : List Int) : (iv xs).length = xs.length := List.length_map ..
theorem iv_app (xs ys : List Int) : iv (xs ++ ys) = iv xs ++ iv ys := List.map_append ..
theorem iv_one (x : Int) : iv [x] = [V.int x] := rfl
theorem iv_take (xs : List Int) (n : Nat) : (iv xs).take n = iv (xs.take n) := (List.map_take ..).symm
theorem iv_drop (xs : List Int) (n : Nat) : (iv xs).drop n = iv (xs.drop n) := (List.map_drop ..).symm
theorem iv_dropLast (xs : List Int) : (iv xs).dropLast = iv xs.dropLast := (List.map_dropLast ..).symm
theorem iv_get {xs : List Int} {i : Nat} {x : Int} (h : xs[i]? = some x) : (iv xs)[i]? = some (.int x) := by
  unfold iv
  rw [List.getElem?_map, h]
  rfl
theorem lim_lt {n : Nat} (h : n < LIM) : n < sizeLine := Nat.lt_of_lt_of_le h (by decide)
theorem lim_le {n : Nat} (h : n ≤ 2 * LIM) : n ≤ sizeLine := Nat.le_trans h (by decide)
theorem at_last {xs : List V} {v : V} (h : xs.getLast? = some v) : atI xs (-1) = some v := by
  have hne : xs.length ≠ 0 := fun e => by
    rw [List.length_eq_zero_iff.mp e] at h
    cases h
  unfold atI ixN
  rw [if_neg (by decide), if_pos (by omega)]
  show xs[((-1 : Int) + (xs.length : Int)).toNat]? = some v
  rw [show ((-1 : Int) + (xs.length : Int)).toNat = xs.length - 1 by omega, ← List.getLast?_eq_getElem?]
  exact h
theorem iv_last {xs : List Int} {x : Int} (h : xs.getLast? = some x) : (iv xs).getLast? = some (.int x) := by
  unfold iv
  rw [List.getLast?_map, h]
  rfl
theorem lastD {xs : List Int} {x : Int} (h : xs.getLast? = some x) : xs.getLastD 0 = x := by
  rw [List.getLastD_eq_getLast?, h]
  rfl
theorem last_some {xs : List Int} (h : 1 ≤ (xs.length : Int)) : ∃ x, xs.getLast? = some x := by
  cases e : xs.getLast? with
  | some x => exact ⟨x, rfl⟩
  | none =>
    rw [List.getLast?_eq_none_iff.mp e] at h
    exact absurd h (by decide)
def eKeys : List Str := ["number", "name", "kind", "start", "end", "was", "worth", "beyond", "is_now"]
theorem eF_no {e : Ent} {m : Str} (h : eKeys.contains m = false := by decide +kernel) : (eF e).lookup m = none := lookup_no h
/-- what the top has written of the two classes -/
structure HCls (K : PySem.W.Frag) (c : Cn) : Prop where
  cH : Cls K c.CH
  cE : Cls K c.CE
  nH : ∀ f, hKeys.contains f = true → NoAttr K c.CH f
  nE : ∀ f, eKeys.contains f = true → NoAttr K c.CE f
section
variable {K : PySem.W.Frag} {c : Cn} {p a : Addr} {S : MS} {U : List Seen} {L : Ls} {H0 H : Hp} {u : HO} {σ : L2.St} {Q : VK} {D : Ends} {x : Int} {xs : List Int} {k : VK}
theorem HOwn.fresh (W : HOwn c p S U L H0 H) (h : H a = none) : H0 a = none := by
  obtain ⟨hs, G, s, P, e⟩ := W
  exact s.fresh0 h
theorem HOwn.same (W : HOwn c p S U L H0 H) : Same H0 H := by
  obtain ⟨hs, G, s, P, e⟩ := W
  exact s.fr
theorem HOwn.newF (W : HOwn c p S U L H0 H) (h : H a = none) : HOwn c p S U L (upd H0 a u) (upd H a u) := by
  obtain ⟨hs, G, s, P, e⟩ := W
  exact ⟨hs, G, s.newF h, P, e⟩
theorem HOwn.skip (W : HOwn c p S U L H0 H) (h : H a = none) : HOwn c p S U L H0 (upd H a u) := by
  obtain ⟨hs, G, s, P, e⟩ := W
  exact ⟨hs, G, s.skip h, P, e⟩
theorem HOwn.ob (W : HOwn c p S U L H0 H) : ∃ G, G.L = L ∧ H p = some (.ins c.CH G.dx (hF S G)) := by
  obtain ⟨hs, G, s, P, e⟩ := W
  exact ⟨G, e, s.own _ _ P.ob⟩
/-- a list of the house's own lies at none of the frame's places -/
theorem HOwn.notF (W : HOwn c p S U L H0 H) {o : HO} (h : H0 a = some o) : a ≠ L.lc ∧ a ≠ L.ls ∧ a ≠ L.lb ∧ a ≠ L.lt ∧ a ≠ L.lw ∧ a ≠ L.li ∧ a ≠ L.lk ∧ a ≠ p := by
  obtain ⟨hs, G, s, P, e⟩ := W
  subst e
  obtain ⟨ts, t1, _⟩ := P.ties
  have n := s.not' h
  have go : ∀ {b : Addr} {v : HO}, hs b = some v → a ≠ b := fun q z => by
    rw [z, q] at n
    cases n
  exact ⟨go P.cells, go P.stack, go P.back, go P.told, go P.words, go t1, go P.book, go P.ob⟩

theorem HOwn.cells (W : HOwn c p S U L H0 H) : H L.lc = some (.lst (iv S.cells)) := by
  obtain ⟨hs, G, s, P, e⟩ := W
  subst e
  exact s.own _ _ P.cells
theorem HOwn.cells_set (W : HOwn c p S U L H0 H) : HOwn c p { S with cells := xs } U L H0 (upd H L.lc (.lst (iv xs))) := by
  obtain ⟨hs, G, s, P, e⟩ := W
  subst e
  exact ⟨_, G, s.put P.cells, P.cells_set, rfl⟩

theorem HOwn.stack (W : HOwn c p S U L H0 H) : H L.ls = some (.lst (iv S.stack)) := by
  obtain ⟨hs, G, s, P, e⟩ := W
  subst e
  exact s.own _ _ P.stack
theorem HOwn.stack_set (W : HOwn c p S U L H0 H) : HOwn c p { S with stack := xs } U L H0 (upd H L.ls (.lst (iv xs))) := by
  obtain ⟨hs, G, s, P, e⟩ := W
  subst e
  exact ⟨_, G, s.put P.stack, P.stack_set, rfl⟩

theorem HOwn.back (W : HOwn c p S U L H0 H) : H L.lb = some (.lst (iv S.back)) := by
  obtain ⟨hs, G, s, P, e⟩ := W
  subst e
  exact s.own _ _ P.back
theorem HOwn.back_set (W : HOwn c p S U L H0 H) : HOwn c p { S with back := xs } U L H0 (upd H L.lb (.lst (iv xs))) := by
  obtain ⟨hs, G, s, P, e⟩ := W
  subst e
  exact ⟨_, G, s.put P.back, P.back_set, rfl⟩

theorem HOwn.told (W : HOwn c p S U L H0 H) : H L.lt = some (.lst (iv S.told)) := by
  obtain ⟨hs, G, s, P, e⟩ := W
  subst e
  exact s.own _ _ P.told
theorem HOwn.told_set (W : HOwn c p S U L H0 H) : HOwn c p { S with told := xs } U L H0 (upd H L.lt (.lst (iv xs))) := by
  obtain ⟨hs, G, s, P, e⟩ := W
  subst e
  exact ⟨_, G, s.put P.told, P.told_set, rfl⟩

theorem HOwn.words (W : HOwn c p S U L H0 H) : H L.lw = some (.lst (S.words.map V.str)) := by
  obtain ⟨hs, G, s, P, e⟩ := W
  subst e
  exact s.own _ _ P.words
theorem HOwn.ties (W : HOwn c p S U L H0 H) : ∃ ts, H L.li = some (.lst (ts.map V.ref)) ∧ All2 (tieV H) ts S.ties := by
  obtain ⟨hs, G, s, P, e⟩ := W
  subst e
  obtain ⟨ts, h1, h2⟩ := P.ties
  exact ⟨ts, s.own _ _ h1, h2.imp fun a b _ _ r => s.own _ _ r⟩
theorem HOwn.book (W : HOwn c p S U L H0 H) : ∃ es, H L.lk = some (.lst (refs es)) ∧ All2 (entV c H) es S.book := by
  obtain ⟨hs, G, s, P, e⟩ := W
  subst e
  exact ⟨G.es, s.own _ _ P.book, P.ents.imp fun a b _ _ r => s.own _ _ r⟩

/-- a field is read; stored; stored behind an operator -/
def rFld (K : PySem.W.Frag) (f : Str) (x : V) (H : Hp) (Q : VK) : Prop := ∃ a C dx fs v, x = .ref a ∧ H a = some (.ins C dx fs) ∧ Cls K C ∧ NoAttr K C f ∧ fs.lookup f = some v ∧ Q v H
def rSfld (K : PySem.W.Frag) (f : Str) (y x : V) (H : Hp) (R : Hp → Prop) : Prop := ∃ a C dx fs, x = .ref a ∧ H a = some (.ins C dx fs) ∧ Cls K C ∧ NoAttr K C f ∧ fs.length < 1000 ∧ R (upd H a (.ins C dx (putF f y fs)))
def rAug (f : Str) (a C : Addr) (z : V) (H : Hp) (R : Hp → Prop) : Prop := ∃ dx' fs', H a = some (.ins C dx' fs') ∧ fs'.length < 1000 ∧ R (upd H a (.ins C dx' (putF f z fs')))
theorem entV_self {b : Addr × Addr} {e : Ent} {dx : Addr} {fs fs' : List (Str × V)} (hp : H p = some (.ins c.CH dx fs)) (h : entV c H b e) : entV c (upd H p (.ins c.CH dx fs')) b e := by
  unfold entV at *
  rw [upd_ne]
  · exact h
  · intro q
    rw [q, hp] at h
    injection Option.some.inj h with e1
    exact c.ne e1

/-- self.spot = .., behind its value -/
theorem w_st_spot {x : Int} {R : Hp → Prop} (W : HOwn c p S U L H0 H) (T : HCls K c) (q : ∀ H1, HOwn c p { S with spot := x } U L H0 H1 → (∀ b e, entV c H b e → entV c H1 b e) → R H1) : rSfld K "spot" (.int x) (.ref p) H R := by
  obtain ⟨hs, G, s, P, e⟩ := W
  refine ⟨p, c.CH, G.dx, hF S G, rfl, s.own _ _ P.ob, T.cH, T.nH _ (by decide +kernel), hF_len, q _ ?_ fun _ _ h => entV_self (s.own _ _ P.ob) h⟩
  rw [hP_spot]
  exact ⟨_, G, s.put P.ob, P.spot_set, e⟩
/-- self.spot, op= : its value, then it is stored -/
theorem w_fl_spot {R : Hp → Prop} {x : Int} (W : HOwn c p S U L H0 H) (q : ∀ H1, HOwn c p { S with spot := x } U L H0 H1 → (∀ b e, entV c H b e → entV c H1 b e) → R H1) : rAug "spot" p c.CH (.int x) H R := by
  obtain ⟨hs, G, s, P, e⟩ := W
  refine ⟨G.dx, hF S G, s.own _ _ P.ob, hF_len, q _ ?_ fun _ _ h => entV_self (s.own _ _ P.ob) h⟩
  rw [hP_spot]
  exact ⟨_, G, s.put P.ob, P.spot_set, e⟩

/-- self.left = .., behind its value -/
theorem w_st_left {x : Int} {R : Hp → Prop} (W : HOwn c p S U L H0 H) (T : HCls K c) (q : ∀ H1, HOwn c p { S with left := x } U L H0 H1 → (∀ b e, entV c H b e → entV c H1 b e) → R H1) : rSfld K "left" (.int x) (.ref p) H R := by
  obtain ⟨hs, G, s, P, e⟩ := W
  refine ⟨p, c.CH, G.dx, hF S G, rfl, s.own _ _ P.ob, T.cH, T.nH _ (by decide +kernel), hF_len, q _ ?_ fun _ _ h => entV_self (s.own _ _ P.ob) h⟩
  rw [hP_left]
  exact ⟨_, G, s.put P.ob, P.left_set, e⟩
/-- self.left, op= : its value, then it is stored -/
theorem w_fl_left {R : Hp → Prop} {x : Int} (W : HOwn c p S U L H0 H) (q : ∀ H1, HOwn c p { S with left := x } U L H0 H1 → (∀ b e, entV c H b e → entV c H1 b e) → R H1) : rAug "left" p c.CH (.int x) H R := by
  obtain ⟨hs, G, s, P, e⟩ := W
  refine ⟨G.dx, hF S G, s.own _ _ P.ob, hF_len, q _ ?_ fun _ _ h => entV_self (s.own _ _ P.ob) h⟩
  rw [hP_left]
  exact ⟨_, G, s.put P.ob, P.left_set, e⟩

/-- self.at = .., behind its value -/
theorem w_st_at {x : Int} {R : Hp → Prop} (W : HOwn c p S U L H0 H) (T : HCls K c) (q : ∀ H1, HOwn c p { S with at_ := x } U L H0 H1 → (∀ b e, entV c H b e → entV c H1 b e) → R H1) : rSfld K "at" (.int x) (.ref p) H R := by
  obtain ⟨hs, G, s, P, e⟩ := W
  refine ⟨p, c.CH, G.dx, hF S G, rfl, s.own _ _ P.ob, T.cH, T.nH _ (by decide +kernel), hF_len, q _ ?_ fun _ _ h => entV_self (s.own _ _ P.ob) h⟩
  rw [hP_at]
  exact ⟨_, G, s.put P.ob, P.at__set, e⟩
/-- self.at, op= : its value, then it is stored -/
theorem w_fl_at {R : Hp → Prop} {x : Int} (W : HOwn c p S U L H0 H) (q : ∀ H1, HOwn c p { S with at_ := x } U L H0 H1 → (∀ b e, entV c H b e → entV c H1 b e) → R H1) : rAug "at" p c.CH (.int x) H R := by
  obtain ⟨hs, G, s, P, e⟩ := W
  refine ⟨G.dx, hF S G, s.own _ _ P.ob, hF_len, q _ ?_ fun _ _ h => entV_self (s.own _ _ P.ob) h⟩
  rw [hP_at]
  exact ⟨_, G, s.put P.ob, P.at__set, e⟩

/-- self.mode = .., behind its value -/
theorem w_st_mode {x : Bool} {R : Hp → Prop} (W : HOwn c p S U L H0 H) (T : HCls K c) (q : ∀ H1, HOwn c p { S with mode := x } U L H0 H1 → (∀ b e, entV c H b e → entV c H1 b e) → R H1) : rSfld K "mode" (.bl x) (.ref p) H R := by
  obtain ⟨hs, G, s, P, e⟩ := W
  refine ⟨p, c.CH, G.dx, hF S G, rfl, s.own _ _ P.ob, T.cH, T.nH _ (by decide +kernel), hF_len, q _ ?_ fun _ _ h => entV_self (s.own _ _ P.ob) h⟩
  rw [hP_mode]
  exact ⟨_, G, s.put P.ob, P.mode_set, e⟩
/-- self.mode, op= : its value, then it is stored -/
theorem w_fl_mode {R : Hp → Prop} {x : Bool} (W : HOwn c p S U L H0 H) (q : ∀ H1, HOwn c p { S with mode := x } U L H0 H1 → (∀ b e, entV c H b e → entV c H1 b e) → R H1) : rAug "mode" p c.CH (.bl x) H R := by
  obtain ⟨hs, G, s, P, e⟩ := W
  refine ⟨G.dx, hF S G, s.own _ _ P.ob, hF_len, q _ ?_ fun _ _ h => entV_self (s.own _ _ P.ob) h⟩
  rw [hP_mode]
  exact ⟨_, G, s.put P.ob, P.mode_set, e⟩

theorem w_aug_spot {tv : TE} {rd : V → V → Hp → VK → Prop} (W : HOwn c p S U L H0 H) (T : HCls K c) (hσ : σ[0]? = some (some (.ref p))) (q : tv σ H fun y H2 => rd (.int S.spot) y H2 fun z H3 => rAug "spot" p c.CH z H3 (D.nx σ)) : sFldAug K (tVar 0) tv rd "spot" D σ H := by
  obtain ⟨G, e, ho⟩ := W.ob
  exact ⟨_, hσ, p, c.CH, G.dx, _, _, rfl, ho, T.cH, T.nH _ (by decide +kernel), hF_spot, q⟩

theorem w_aug_left {tv : TE} {rd : V → V → Hp → VK → Prop} (W : HOwn c p S U L H0 H) (T : HCls K c) (hσ : σ[0]? = some (some (.ref p))) (q : tv σ H fun y H2 => rd (.int S.left) y H2 fun z H3 => rAug "left" p c.CH z H3 (D.nx σ)) : sFldAug K (tVar 0) tv rd "left" D σ H := by
  obtain ⟨G, e, ho⟩ := W.ob
  exact ⟨_, hσ, p, c.CH, G.dx, _, _, rfl, ho, T.cH, T.nH _ (by decide +kernel), hF_left, q⟩

theorem w_aug_at {tv : TE} {rd : V → V → Hp → VK → Prop} (W : HOwn c p S U L H0 H) (T : HCls K c) (hσ : σ[0]? = some (some (.ref p))) (q : tv σ H fun y H2 => rd (.int S.at_) y H2 fun z H3 => rAug "at" p c.CH z H3 (D.nx σ)) : sFldAug K (tVar 0) tv rd "at" D σ H := by
  obtain ⟨G, e, ho⟩ := W.ob
  exact ⟨_, hσ, p, c.CH, G.dx, _, _, rfl, ho, T.cH, T.nH _ (by decide +kernel), hF_at, q⟩

theorem w_rAdd {i j : Int} (q : Q (.int (i + j)) H) : rAdd (.int i) (.int j) H Q := ⟨i, j, rfl, rfl, q⟩
theorem w_rSub {i j : Int} (q : Q (.int (i - j)) H) : rSub (.int i) (.int j) H Q := ⟨i, j, rfl, rfl, q⟩

theorem w_cells (W : HOwn c p S U L H0 H) (T : HCls K c) (hσ : σ[0]? = some (some (.ref p))) (q : Q (.ref L.lc) H) : tFld K (tVar 0) "cells" σ H Q := by
  obtain ⟨G, e, ho⟩ := W.ob
  subst e
  exact ⟨_, hσ, p, c.CH, G.dx, _, _, rfl, ho, T.cH, T.nH _ (by decide +kernel), hF_cells, q⟩

theorem w_most_cells (W : HOwn c p S U L H0 H) (T : HCls K c) (hσ : σ[0]? = some (some (.ref p))) (q : Q (.int S.mc) H) : tFld K (tVar 0) "most_cells" σ H Q := by
  obtain ⟨G, e, ho⟩ := W.ob
  subst e
  exact ⟨_, hσ, p, c.CH, G.dx, _, _, rfl, ho, T.cH, T.nH _ (by decide +kernel), hF_mc, q⟩

theorem w_stack (W : HOwn c p S U L H0 H) (T : HCls K c) (hσ : σ[0]? = some (some (.ref p))) (q : Q (.ref L.ls) H) : tFld K (tVar 0) "stack" σ H Q := by
  obtain ⟨G, e, ho⟩ := W.ob
  subst e
  exact ⟨_, hσ, p, c.CH, G.dx, _, _, rfl, ho, T.cH, T.nH _ (by decide +kernel), hF_stack, q⟩

theorem w_most_stack (W : HOwn c p S U L H0 H) (T : HCls K c) (hσ : σ[0]? = some (some (.ref p))) (q : Q (.int S.ms) H) : tFld K (tVar 0) "most_stack" σ H Q := by
  obtain ⟨G, e, ho⟩ := W.ob
  subst e
  exact ⟨_, hσ, p, c.CH, G.dx, _, _, rfl, ho, T.cH, T.nH _ (by decide +kernel), hF_ms, q⟩

theorem w_back (W : HOwn c p S U L H0 H) (T : HCls K c) (hσ : σ[0]? = some (some (.ref p))) (q : Q (.ref L.lb) H) : tFld K (tVar 0) "back" σ H Q := by
  obtain ⟨G, e, ho⟩ := W.ob
  subst e
  exact ⟨_, hσ, p, c.CH, G.dx, _, _, rfl, ho, T.cH, T.nH _ (by decide +kernel), hF_back, q⟩

theorem w_book (W : HOwn c p S U L H0 H) (T : HCls K c) (hσ : σ[0]? = some (some (.ref p))) (q : Q (.ref L.lk) H) : tFld K (tVar 0) "book" σ H Q := by
  obtain ⟨G, e, ho⟩ := W.ob
  subst e
  exact ⟨_, hσ, p, c.CH, G.dx, _, _, rfl, ho, T.cH, T.nH _ (by decide +kernel), hF_book, q⟩

theorem w_spot (W : HOwn c p S U L H0 H) (T : HCls K c) (hσ : σ[0]? = some (some (.ref p))) (q : Q (.int S.spot) H) : tFld K (tVar 0) "spot" σ H Q := by
  obtain ⟨G, e, ho⟩ := W.ob
  subst e
  exact ⟨_, hσ, p, c.CH, G.dx, _, _, rfl, ho, T.cH, T.nH _ (by decide +kernel), hF_spot, q⟩

theorem w_left (W : HOwn c p S U L H0 H) (T : HCls K c) (hσ : σ[0]? = some (some (.ref p))) (q : Q (.int S.left) H) : tFld K (tVar 0) "left" σ H Q := by
  obtain ⟨G, e, ho⟩ := W.ob
  subst e
  exact ⟨_, hσ, p, c.CH, G.dx, _, _, rfl, ho, T.cH, T.nH _ (by decide +kernel), hF_left, q⟩

theorem w_at (W : HOwn c p S U L H0 H) (T : HCls K c) (hσ : σ[0]? = some (some (.ref p))) (q : Q (.int S.at_) H) : tFld K (tVar 0) "at" σ H Q := by
  obtain ⟨G, e, ho⟩ := W.ob
  subst e
  exact ⟨_, hσ, p, c.CH, G.dx, _, _, rfl, ho, T.cH, T.nH _ (by decide +kernel), hF_at, q⟩

theorem w_told (W : HOwn c p S U L H0 H) (T : HCls K c) (hσ : σ[0]? = some (some (.ref p))) (q : Q (.ref L.lt) H) : tFld K (tVar 0) "told" σ H Q := by
  obtain ⟨G, e, ho⟩ := W.ob
  subst e
  exact ⟨_, hσ, p, c.CH, G.dx, _, _, rfl, ho, T.cH, T.nH _ (by decide +kernel), hF_told, q⟩

theorem w_steps (W : HOwn c p S U L H0 H) (T : HCls K c) (hσ : σ[0]? = some (some (.ref p))) (q : Q (.non) H) : tFld K (tVar 0) "steps" σ H Q := by
  obtain ⟨G, e, ho⟩ := W.ob
  subst e
  exact ⟨_, hσ, p, c.CH, G.dx, _, _, rfl, ho, T.cH, T.nH _ (by decide +kernel), hF_steps, q⟩

theorem w_words (W : HOwn c p S U L H0 H) (T : HCls K c) (hσ : σ[0]? = some (some (.ref p))) (q : Q (.ref L.lw) H) : tFld K (tVar 0) "words" σ H Q := by
  obtain ⟨G, e, ho⟩ := W.ob
  subst e
  exact ⟨_, hσ, p, c.CH, G.dx, _, _, rfl, ho, T.cH, T.nH _ (by decide +kernel), hF_words, q⟩

theorem w_mode (W : HOwn c p S U L H0 H) (T : HCls K c) (hσ : σ[0]? = some (some (.ref p))) (q : Q (.bl S.mode) H) : tFld K (tVar 0) "mode" σ H Q := by
  obtain ⟨G, e, ho⟩ := W.ob
  subst e
  exact ⟨_, hσ, p, c.CH, G.dx, _, _, rfl, ho, T.cH, T.nH _ (by decide +kernel), hF_mode, q⟩

theorem w_ties (W : HOwn c p S U L H0 H) (T : HCls K c) (hσ : σ[0]? = some (some (.ref p))) (q : Q (.ref L.li) H) : tFld K (tVar 0) "ties" σ H Q := by
  obtain ⟨G, e, ho⟩ := W.ob
  subst e
  exact ⟨_, hσ, p, c.CH, G.dx, _, _, rfl, ho, T.cH, T.nH _ (by decide +kernel), hF_ties, q⟩

theorem w_many_deeds (W : HOwn c p S U L H0 H) (T : HCls K c) (hσ : σ[0]? = some (some (.ref p))) (q : Q (.int S.many) H) : tFld K (tVar 0) "many_deeds" σ H Q := by
  obtain ⟨G, e, ho⟩ := W.ob
  subst e
  exact ⟨_, hσ, p, c.CH, G.dx, _, _, rfl, ho, T.cH, T.nH _ (by decide +kernel), hF_many, q⟩

theorem w_opened (W : HOwn c p S U L H0 H) (T : HCls K c) (hσ : σ[0]? = some (some (.ref p))) (q : ∀ v, opV H v S.opened → Q v H) : tFld K (tVar 0) "opened" σ H Q := by
  obtain ⟨hs, G, s, P, e⟩ := W
  refine ⟨_, hσ, p, c.CH, G.dx, _, _, rfl, s.own _ _ P.ob, T.cH, T.nH _ (by decide +kernel), hF_opened, q _ ?_⟩
  have h := P.op
  cases eo : S.opened with
  | none =>
    rw [eo] at h
    exact h
  | some z =>
    rw [eo] at h
    obtain ⟨t, e1, e2⟩ := h
    exact ⟨t, e1, s.own _ _ e2⟩

/-- .number of a word -/
theorem e_number {b : Addr × Addr} {e : Ent} (h : entV c H b e) (T : HCls K c) (q : Q (.int e.num) H) : rFld K "number" (.ref b.1) H Q :=
  ⟨b.1, c.CE, b.2, _, _, rfl, h, T.cE, T.nE _ (by decide +kernel), eF_num, q⟩

/-- .name of a word -/
theorem e_name {b : Addr × Addr} {e : Ent} (h : entV c H b e) (T : HCls K c) (q : Q (.str e.name) H) : rFld K "name" (.ref b.1) H Q :=
  ⟨b.1, c.CE, b.2, _, _, rfl, h, T.cE, T.nE _ (by decide +kernel), eF_name, q⟩

/-- .kind of a word -/
theorem e_kind {b : Addr × Addr} {e : Ent} (h : entV c H b e) (T : HCls K c) (q : Q (.str e.kind.str) H) : rFld K "kind" (.ref b.1) H Q :=
  ⟨b.1, c.CE, b.2, _, _, rfl, h, T.cE, T.nE _ (by decide +kernel), eF_kind, q⟩

/-- .start of a word -/
theorem e_start {b : Addr × Addr} {e : Ent} (h : entV c H b e) (T : HCls K c) (q : Q (.int e.start) H) : rFld K "start" (.ref b.1) H Q :=
  ⟨b.1, c.CE, b.2, _, _, rfl, h, T.cE, T.nE _ (by decide +kernel), eF_start, q⟩

/-- .end of a word -/
theorem e_end {b : Addr × Addr} {e : Ent} (h : entV c H b e) (T : HCls K c) (q : Q (.int e.fin) H) : rFld K "end" (.ref b.1) H Q :=
  ⟨b.1, c.CE, b.2, _, _, rfl, h, T.cE, T.nE _ (by decide +kernel), eF_end, q⟩

/-- .was of a word -/
theorem e_was {b : Addr × Addr} {e : Ent} (h : entV c H b e) (T : HCls K c) (q : Q (.int e.start) H) : rFld K "was" (.ref b.1) H Q :=
  ⟨b.1, c.CE, b.2, _, _, rfl, h, T.cE, T.nE _ (by decide +kernel), eF_was, q⟩

/-- .worth of a word -/
theorem e_worth {b : Addr × Addr} {e : Ent} (h : entV c H b e) (T : HCls K c) (q : Q (.int e.worth) H) : rFld K "worth" (.ref b.1) H Q :=
  ⟨b.1, c.CE, b.2, _, _, rfl, h, T.cE, T.nE _ (by decide +kernel), eF_worth, q⟩

/-- .beyond of a word -/
theorem e_beyond {b : Addr × Addr} {e : Ent} (h : entV c H b e) (T : HCls K c) (q : Q (optV e.beyond) H) : rFld K "beyond" (.ref b.1) H Q :=
  ⟨b.1, c.CE, b.2, _, _, rfl, h, T.cE, T.nE _ (by decide +kernel), eF_beyond, q⟩

/-- .is_now of a word -/
theorem e_is_now {b : Addr × Addr} {e : Ent} (h : entV c H b e) (T : HCls K c) (q : Q (.bl e.now) H) : rFld K "is_now" (.ref b.1) H Q :=
  ⟨b.1, c.CE, b.2, _, _, rfl, h, T.cE, T.nE _ (by decide +kernel), eF_now, q⟩

/-! ### readings, one by one -/
theorem w_var {i : Nat} {v : V} (h : σ[i]? = some (some v)) (q : Q v H) : tVar i σ H Q := ⟨v, h, q⟩
theorem w_c {v : V} (q : Q v H) : tC v σ H Q := q
theorem w_nil {R : List V → Hp → Prop} (q : R [] H) : tNil σ H R := q
theorem w_cons {ta : TE} {t : TA} {R : List V → Hp → Prop} (q : ta σ H fun x H1 => t σ H1 fun xs H2 => R (x :: xs) H2) : tCons ta t σ H R := q
theorem w_op {r : R2} {ta tb : TE} (q : ta σ H fun x H1 => tb σ H1 fun y H2 => r x y H2 Q) : tOp r ta tb σ H Q := q
theorem w_un {r : V → Hp → VK → Prop} {ta : TE} (q : ta σ H fun x H1 => r x H1 Q) : tUn r ta σ H Q := q
theorem w_cb {r : List V → Hp → VK → Prop} {t : TA} (q : t σ H fun vs H1 => r vs H1 Q) : tCB r t σ H Q := q
theorem w_test {t : TE} {R : Bool → Hp → Prop} (q : t σ H fun x H' => ∃ k, x = .bl k ∧ R k H') : tTest t σ H R := q
theorem w_tB {t : TE} {R : Bool → Hp → Prop} (q : t σ H fun x H' => ∃ k, x = .bl k ∧ R k H') : tB t σ H R := q
theorem w_bl {b : Bool} {R : Bool → Prop} (q : R b) : ∃ k, V.bl b = .bl k ∧ R k := ⟨b, rfl, q⟩
theorem w_i0 {g : Int → Int → V} {i j : Int} (q : Q (g i j) H) : rI0 g (.int i) (.int j) H Q := ⟨i, j, rfl, rfl, q⟩
theorem w_i {C : Int → Int → Prop} {g : Int → Int → V} {i j : Int} (hc : C i j) (q : Q (g i j) H) : rI C g (.int i) (.int j) H Q := ⟨i, j, rfl, rfl, hc, q⟩
theorem w_seq {t u : TS} (q : t { D with nx := u D } σ H) : tSeq t u D σ H := q
theorem w_next (q : D.nx σ H) : tNext D σ H := q
theorem w_asg {te : TE} {g : TG} (q : te σ H fun x H1 => g x σ H1 D.nx) : tAsg te g D σ H := q
theorem w_gn {i : Nat} {v : V} {R : L2.St → Hp → Prop} (q : R (σ.set i (some v)) H) : gName i v σ H R := q
theorem w_drop {te : TE} (q : te σ H fun _ H1 => D.nx σ H1) : tDrop te D σ H := q
theorem w_ret {te : TE} (q : te σ H D.rt) : tRet te D σ H := q
theorem w_retN (q : D.rt .non H) : tRetN D σ H := q
theorem w_ifs {t : TT} {u v : TS} (q : t σ H fun b H1 => if b = true then u D σ H1 else v D σ H1) : tIfS t u v D σ H := q
theorem w_ife {t : TT} {ta tb : TE} (q : t σ H fun b H1 => if b = true then ta σ H1 Q else tb σ H1 Q) : tIf t ta tb σ H Q := q
theorem w_and {t u : TT} {R : Bool → Hp → Prop} (q : t σ H fun c H1 => if c = true then u σ H1 R else R false H1) : tAnd t u σ H R := q
theorem w_or {t u : TT} {R : Bool → Hp → Prop} (q : t σ H fun c H1 => if c = true then R true H1 else u σ H1 R) : tOr t u σ H R := q
theorem w_not {t : TT} {R : Bool → Hp → Prop} (q : t σ H fun c H1 => R (!c) H1) : tNot t σ H R := q
theorem w_fld {ta : TE} {f : Str} (q : ta σ H fun x H1 => rFld K f x H1 Q) : tFld K ta f σ H Q := q
theorem w_sfld {ta tv : TE} {f : Str} (q : tv σ H fun y H1 => ta σ H1 fun x H2 => rSfld K f y x H2 (D.nx σ)) : sFld K ta tv f D σ H := q
theorem w_eqs {a b : V} (h : scal a b = true) (q : Q (.bl (decide (a = b))) H) : rEq a b H Q := ⟨h, q⟩
theorem w_nes {a b : V} (h : scal a b = true) (q : Q (.bl (!decide (a = b))) H) : rNe a b H Q := ⟨h, q⟩
theorem dec_int {a b : Int} : decide (V.int a = V.int b) = decide (a = b) := by
  by_cases h : a = b
  · rw [h, decide_eq_true rfl, decide_eq_true rfl]
  · rw [decide_eq_false h, decide_eq_false fun e => h (V.int.inj e)]
theorem dec_str {a b : Str} : decide (V.str a = V.str b) = decide (a = b) := by
  by_cases h : a = b
  · rw [h, decide_eq_true rfl, decide_eq_true rfl]
  · rw [decide_eq_false h, decide_eq_false fun e => h (V.str.inj e)]
theorem w_eqi {a b : Int} (q : Q (.bl (decide (a = b))) H) : rEq (.int a) (.int b) H Q := ⟨rfl, by rw [dec_int]; exact q⟩
theorem w_eqt {a b : Str} (q : Q (.bl (decide (a = b))) H) : rEq (.str a) (.str b) H Q := ⟨rfl, by rw [dec_str]; exact q⟩
theorem w_nei {a b : Int} (q : Q (.bl (!decide (a = b))) H) : rNe (.int a) (.int b) H Q := ⟨rfl, by rw [dec_int]; exact q⟩
theorem w_net {a b : Str} (q : Q (.bl (!decide (a = b))) H) : rNe (.str a) (.str b) H Q := ⟨rfl, by rw [dec_str]; exact q⟩
def rLn (K : PySem.W.Frag) : List V → Hp → VK → Prop := fun xs H Q => ∃ p ys, xs = [.ref p] ∧ (SqL K H p ys ∨ SqT K H p ys) ∧ Q (.int (ys.length : Int)) H
theorem call_ln {X : Cx} : CallR X (.builtin "len") (rLn X.K) := call_len_seq
theorem w_lnS (W : HOwn c p S U L H0 H) (q : Q (.int (S.stack.length : Int)) H) : rLn K [V.ref L.ls] H Q := ⟨_, _, rfl, .inl (SqL.of W.stack), by rw [iv_len]; exact q⟩
theorem w_lnC (W : HOwn c p S U L H0 H) (q : Q (.int (S.cells.length : Int)) H) : rLn K [V.ref L.lc] H Q := ⟨_, _, rfl, .inl (SqL.of W.cells), by rw [iv_len]; exact q⟩
theorem w_lnB (W : HOwn c p S U L H0 H) (q : Q (.int (S.back.length : Int)) H) : rLn K [V.ref L.lb] H Q := ⟨_, _, rfl, .inl (SqL.of W.back), by rw [iv_len]; exact q⟩
theorem w_lnT (W : HOwn c p S U L H0 H) (q : Q (.int (S.told.length : Int)) H) : rLn K [V.ref L.lt] H Q := ⟨_, _, rfl, .inl (SqL.of W.told), by rw [iv_len]; exact q⟩
theorem w_lnW (W : HOwn c p S U L H0 H) (q : Q (.int (S.words.length : Int)) H) : rLn K [V.ref L.lw] H Q := ⟨_, _, rfl, .inl (SqL.of W.words), by rw [List.length_map]; exact q⟩
theorem w_lnK (W : HOwn c p S U L H0 H) (q : Q (.int (S.book.length : Int)) H) : rLn K [V.ref L.lk] H Q := by
  obtain ⟨es, h1, h2⟩ := W.book
  exact ⟨_, _, rfl, .inl (SqL.of h1), by rw [show (refs es).length = S.book.length from (List.length_map ..).trans h2.len]; exact q⟩
/-! the walker looks at a goal's kind first: far fewer tries -/
theorem is_te {t : TE} {σ : L2.St} {H : Hp} {Q : VK} (q : t σ H Q) : t σ H Q := q
theorem is_ta {t : TA} {σ : L2.St} {H : Hp} {R : List V → Hp → Prop} (q : t σ H R) : t σ H R := q
theorem is_ts {t : TS} {D : L2.Ends} {σ : L2.St} {H : Hp} (q : t D σ H) : t D σ H := q
theorem is_tt {t : TT} {σ : L2.St} {H : Hp} {R : Bool → Hp → Prop} (q : t σ H R) : t σ H R := q
theorem is_r2 {r : R2} {x y : V} {H : Hp} {Q : VK} (q : r x y H Q) : r x y H Q := q
theorem is_fld {K : PySem.W.Frag} {ta : TE} {f : Str} {σ : L2.St} {H : Hp} {Q : VK} (q : tFld K ta f σ H Q) : tFld K ta f σ H Q := q
theorem is_rf {K : PySem.W.Frag} {f : Str} {v : V} {H : Hp} {Q : VK} (q : rFld K f v H Q) : rFld K f v H Q := q
theorem is_ln {K : PySem.W.Frag} {xs : List V} {H : Hp} {Q : VK} (q : rLn K xs H Q) : rLn K xs H Q := q
theorem is_ty {K : PySem.W.Frag} {n : String} {v : V} {H : Hp} {R : Prop} (q : tyV K n v H ∧ R) : tyV K n v H ∧ R := q
theorem w_lnG {l : Addr} {ys : List V} (h : H l = some (.lst ys)) (q : Q (.int (ys.length : Int)) H) : rLn K [V.ref l] H Q := ⟨l, ys, rfl, .inl (SqL.of h), q⟩
theorem w_len {l : Addr} {ys : List V} (h : H l = some (.lst ys)) (q : Q (.int (ys.length : Int)) H) : ∃ p ys, [V.ref l] = [.ref p] ∧ (SqL K H p ys ∨ SqT K H p ys) ∧ Q (.int (ys.length : Int)) H := ⟨l, ys, rfl, .inl (SqL.of h), q⟩
theorem w_ixL {l : Addr} {ys : List V} {i : Int} {v : V} (h : H l = some (.lst ys)) (hi : atI ys i = some v) (q : Q v H) : rIxL K (.ref l) (.int i) H Q := ⟨l, ys, i, v, rfl, rfl, SqL.of h, hi, q⟩
theorem w_ixT {l : Addr} {ys : List V} {i : Int} {v : V} (h : H l = some (.tup ys)) (hi : atI ys i = some v) (q : Q v H) : rIxT K (.ref l) (.int i) H Q := ⟨l, ys, i, v, rfl, rfl, SqT.of h, hi, q⟩
theorem w_bm {r : V → List V → Hp → VK → Prop} {to : TE} {t : TA} (q : to σ H fun x H1 => tyV K "list" x H1 ∧ t σ H1 fun xs H2 => r x xs H2 Q) : tBM K "list" r to t σ H Q := q
theorem w_bm0 {r : V → List V → Hp → VK → Prop} {to : TE} (q : to σ H fun x H1 => tyV K "list" x H1 ∧ r x [] H1 Q) : tBM0 K "list" r to σ H Q := q
theorem w_ty {l : Addr} {ys : List V} {R : Prop} (h : H l = some (.lst ys)) (q : R) : tyV K "list" (.ref l) H ∧ R := ⟨.inl ⟨rfl, _, SqL.of h⟩, q⟩
theorem w_app {l : Addr} {ys : List V} {y : V} (h : H l = some (.lst ys)) (hz : ys.length < sizeLine) (q : k .non (upd H l (.lst (ys ++ [y])))) : rAppend (.ref l) [y] H k := ⟨l, ys, y, rfl, rfl, h, hz, q⟩
theorem w_lst {t : TA} (q : t σ H fun xs H1 => xs.length ≤ sizeLine ∧ ∀ p, H1 p = none → Q (.ref p) (upd H1 p (.lst xs))) : tLst t σ H Q := q
theorem w_tup {t : TA} (q : t σ H fun xs H1 => xs.length ≤ sizeLine ∧ ∀ p, H1 p = none → Q (.ref p) (upd H1 p (.tup xs))) : tTup t σ H Q := q
theorem w_meth {C : Addr} {m : Str} {sp : Sp} {dvs : List V} {E : XK} {ta : TE} {t : TA} (q : ta σ H fun x H1 => ∃ a dx fs, x = .ref a ∧ H1 a = some (.ins C dx fs) ∧ fs.lookup m = none ∧ t σ H1 fun vs H2 => sp (x :: (vs ++ dvs)) H2 Q E) : tMeth C m sp dvs E ta t σ H Q := q
/-- self.m(..) -/
theorem w_self {m : Str} {sp : Sp} {dvs : List V} {E : XK} {t : TA} (W : HOwn c p S U L H0 H) (hσ : σ[0]? = some (some (.ref p))) (hm : hKeys.contains m = false) (q : t σ H fun vs H2 => sp (.ref p :: (vs ++ dvs)) H2 Q E) : tMeth c.CH m sp dvs E (tVar 0) t σ H Q := by
  obtain ⟨G, e, ho⟩ := W.ob
  exact ⟨_, hσ, p, G.dx, _, rfl, ho, lookup_no hm, q⟩
theorem w_call {sp : Sp} {dvs : List V} {E : XK} {t : TA} (q : t σ H fun vs H1 => sp (vs ++ dvs) H1 Q E) : tCall sp dvs E t σ H Q := q
/-- a test that is decided by what it says -/
theorem ite_dec {P A B : Prop} [Decidable P] (h1 : P → A) (h2 : ¬ P → B) : if decide P = true then A else B := by
  by_cases h : P
  · rw [if_pos (decide_eq_true h)]
    exact h1 h
  · rw [if_neg (by rw [decide_eq_false h]; decide)]
    exact h2 h
theorem ite_ndec {P A B : Prop} [Decidable P] (h1 : ¬ P → A) (h2 : P → B) : if (!decide P) = true then A else B := by
  by_cases h : P
  · rw [decide_eq_true h]
    exact h2 h
  · rw [decide_eq_false h]
    exact h1 h
theorem ite_b {b : Bool} {A B : Prop} (h1 : b = true → A) (h2 : b = false → B) : if b = true then A else B := by
  cases b with
  | true => exact h1 rfl
  | false => exact h2 rfl
/-! ### the piles -/
theorem w_push (W : HOwn c p S U L H0 H) (hz : S.stack.length < LIM) (q : ∀ H1, HOwn c p { S with stack := S.stack ++ [x] } U L H0 H1 → k .non H1) : rAppend (.ref L.ls) [.int x] H k :=
  ⟨L.ls, _, _, rfl, rfl, W.stack, by rw [iv_len]; exact lim_lt hz, q _ (by rw [← iv_one, ← iv_app]; exact W.stack_set)⟩
theorem w_bpush (W : HOwn c p S U L H0 H) (hz : S.back.length < LIM) (q : ∀ H1, HOwn c p { S with back := S.back ++ [x] } U L H0 H1 → k .non H1) : rAppend (.ref L.lb) [.int x] H k :=
  ⟨L.lb, _, _, rfl, rfl, W.back, by rw [iv_len]; exact lim_lt hz, q _ (by rw [← iv_one, ← iv_app]; exact W.back_set)⟩
theorem w_tpush (W : HOwn c p S U L H0 H) (hz : S.told.length < LIM) (q : ∀ H1, HOwn c p { S with told := S.told ++ [x] } U L H0 H1 → k .non H1) : rAppend (.ref L.lt) [.int x] H k :=
  ⟨L.lt, _, _, rfl, rfl, W.told, by rw [iv_len]; exact lim_lt hz, q _ (by rw [← iv_one, ← iv_app]; exact W.told_set)⟩
theorem w_pop (W : HOwn c p S U L H0 H) (h : S.stack.getLast? = some x) (q : ∀ H1, HOwn c p { S with stack := S.stack.dropLast } U L H0 H1 → k (.int x) H1) : rPop (.ref L.ls) [] H k :=
  ⟨L.ls, _, _, rfl, rfl, W.stack, by rw [← List.getLast?_eq_getElem?]; exact iv_last h, q _ (by rw [iv_dropLast]; exact W.stack_set)⟩
theorem w_bpop (W : HOwn c p S U L H0 H) (h : S.back.getLast? = some x) (q : ∀ H1, HOwn c p { S with back := S.back.dropLast } U L H0 H1 → k (.int x) H1) : rPop (.ref L.lb) [] H k :=
  ⟨L.lb, _, _, rfl, rfl, W.back, by rw [← List.getLast?_eq_getElem?]; exact iv_last h, q _ (by rw [iv_dropLast]; exact W.back_set)⟩
theorem w_bclear (W : HOwn c p S U L H0 H) (q : ∀ H1, HOwn c p { S with back := [] } U L H0 H1 → k .non H1) : rClear (.ref L.lb) [] H k := ⟨L.lb, _, rfl, rfl, W.back, q _ W.back_set⟩
theorem w_cext {b : Addr} (W : HOwn c p S U L H0 H) (hb : H b = some (.lst (iv xs))) (hz : S.cells.length + xs.length ≤ 2 * LIM) (q : ∀ H1, HOwn c p { S with cells := S.cells ++ xs } U L H0 H1 → k .non H1) : rExtend (.ref L.lc) [.ref b] H k :=
  ⟨L.lc, b, _, _, rfl, rfl, W.cells, hb, by rw [iv_len, iv_len]; exact lim_le hz, q _ (by rw [← iv_app]; exact W.cells_set)⟩
end
/-! the steps that need no thought -/
local macro_rules | `(tactic| walk_at "w") => `(tactic| skip)
end WH
set_option Elab.async false
set_option linter.all false
set_option maxRecDepth 100000
set_option maxHeartbeats 2000000
namespace WH
open PySem PySem.Spec PyProof.Rows L2
/-! ### rules under names of their own -/
def rDm : List V → Hp → VK → Prop := fun xs H Q => ∃ i j, xs = [.int i, .int j] ∧ CDivN i j ∧ ∀ p, H p = none → Q (.ref p) (upd H p (.tup [.int (i.fdiv j), .int (i.fmod j)]))
def rLsO (K : PySem.W.Frag) : List V → Hp → VK → Prop := fun xs H Q => ∃ p ys, xs = [.ref p] ∧ (SqL K H p ys ∨ SqT K H p ys) ∧ ∀ l, H l = none → Q (.ref l) (upd H l (.lst ys))
def rInS : List V → Hp → VK → Prop := fun xs H Q => ∃ a n, xs = [.str a] ∧ PySem.intText? a = some n ∧ a.length ≤ 640 ∧ Q (.int n) H
def rIn1 : List V → Hp → VK → Prop := fun xs H Q => (∃ i, xs = [.int i] ∧ Q (.int i) H) ∨ ∃ k, xs = [.bl k] ∧ Q (.int (if k then 1 else 0)) H
def rStI : List V → Hp → VK → Prop := fun xs H Q => ∃ i, xs = [.int i] ∧ i.natAbs.log2 < 1920 ∧ Q (.str (toString i)) H
def rLnS : List V → Hp → VK → Prop := fun xs H Q => ∃ s, xs = [.str s] ∧ s.length ≤ sizeLine ∧ Q (.int s.length) H
def rAdS : R2 := fun x y H Q => ∃ i j, x = .str i ∧ y = .str j ∧ i.length + j.length ≤ sizeLine ∧ Q (.str (i ++ j)) H
def rMax2 : List V → Hp → VK → Prop := fun xs H Q => ∃ i j, xs = [.int i, .int j] ∧ Q (.int (if j > i then j else i)) H
def rMin2 : List V → Hp → VK → Prop := fun xs H Q => ∃ i j, xs = [.int i, .int j] ∧ Q (.int (if j < i then j else i)) H
def rStripC : V → List V → Hp → VK → Prop := fun x xs H Q => ∃ a b, x = .str a ∧ xs = [.str b] ∧ a.length ≤ sizeLine ∧ Q (.str (Txt.stripChars a b)) H
def rStarts : V → List V → Hp → VK → Prop := fun x xs H Q => ∃ a b, x = .str a ∧ xs = [.str b] ∧ Q (.bl (Txt.startswith a b)) H
def rWords : V → List V → Hp → VK → Prop := fun x xs H Q => ∃ a, x = .str a ∧ xs = [] ∧ a.length + 2 ≤ sizeLine ∧ rNewStrs (Txt.words a) H Q
def rSplit : V → List V → Hp → VK → Prop := fun x xs H Q => ∃ a b, x = .str a ∧ xs = [.str b] ∧ (b.length == 0) = false ∧ a.length + 2 ≤ sizeLine ∧ rNewStrs (Txt.split a b) H Q
def rJoin (K : PySem.W.Frag) : V → List V → Hp → VK → Prop := fun x xs H Q => ∃ a p, ∃ ys : List Str, x = .str a ∧ xs = [.ref p] ∧ (SqL K H p (ys.map V.str) ∨ SqT K H p (ys.map V.str)) ∧
  (ys.map (·.length)).sum + ys.length * a.length ≤ 16777216 ∧ Q (.str (Txt.join a ys)) H
def rKin (K : PySem.W.Frag) (d : Addr) : R2 := fun x y H Q => ∃ (z : Str) (r : Option Value), x = .str z ∧ y = .ref d ∧ PySem.W.nsIn K d z = some r ∧ Q (.bl r.isSome) H
def rKix (K : PySem.W.Frag) (d : Addr) : R2 := fun x y H Q => ∃ (z : Str) (u0 : Value) (v0 : V), x = .ref d ∧ y = .str z ∧ PySem.W.nsIn K d z = some (some u0) ∧ RelV v0 u0 ∧ Q v0 H
def rKls (d : Addr) (ks : List Str) : List V → Hp → VK → Prop := fun xs H Q => xs = [.ref d] ∧ ∀ l, H l = none → Q (.ref l) (upd H l (.lst (ks.map V.str)))
def keyName (e : DictEntry) : Option Str := match e.key with
  | .str x _ => some x
  | _ => none
section
variable {X : Cx}
theorem call_dm : CallR X (.builtin "divmod") rDm := by
  intro pins s σ H xs us Q I r h
  obtain ⟨i, j, rfl, ⟨h1, h2⟩, q⟩ := h
  obtain ⟨u, u', rfl, ⟨t, rfl⟩, ⟨t', rfl⟩⟩ := vals2 r
  refine divmod_int h1 ?_ (.inl (PyProof.noPylong_small h2))
  have new : H s.heap.objs.size = none := I.hok.fresh (Nat.le_refl _)
  have two : ([V.int (i.fdiv j), V.int (i.fmod j)]).length ≤ sizeLine := by
    simp only [List.length_cons, List.length_nil]
    rw [sizeLine_eq]
    decide
  refine ⟨.ref s.heap.objs.size, _, ?_, rfl, q _ new⟩
  refine I.laid (fun b o e => Heap.get?_push_of_some _ e) (Nat.le_refl _) ⟨two, [.int (i.fdiv j) s.toks, .int (i.fmod j) (s.toks + 1)], .cons ⟨_, rfl⟩ (.cons ⟨_, rfl⟩ .nil), ?_⟩
  exact ⟨_, Heap.get?_push_size s.heap rfl, rfl, 0, rfl⟩
theorem call_lso : CallR X (.type "list") (rLsO X.K) := call_list_of
theorem call_inS : CallR X (.type "int") rInS := call_int_str
theorem call_in1 : CallR X (.type "int") rIn1 := call_int1
theorem call_stI : CallR X (.type "str") rStI := call_str_int
theorem call_lnS : CallR X (.builtin "len") rLnS := fun pins s σ H xs us Q I r ⟨z, e, hz, q⟩ => call_len_str pins s σ H xs us Q I r ⟨z, e, hz, q⟩
theorem op_adS : OpR X (binaryOp .Add) rAdS := op_add_str
theorem call_mx2 (hc : X.calm = true) : CallR X (.builtin "max") rMax2 := call_max2 hc
theorem call_mn2 (hc : X.calm = true) : CallR X (.builtin "min") rMin2 := call_min2 hc
theorem mt_stripC : MtR X "str.strip" rStripC := mt_stripChars
theorem mt_starts : MtR X "str.startswith" rStarts := mt_startswith
theorem mt_wordsN : MtR X "str.split" rWords := mt_words
theorem mt_splitN : MtR X "str.split" rSplit := mt_split
theorem mt_joinN : MtR X "str.join" (rJoin X.K) := mt_join
variable {d : Addr} {es : Array DictEntry} {n : Nat}
theorem op_kin (D : KDict X.K X.w d es n) : OpR X (compareOp .In) (rKin X.K d) := op_in_kd D
theorem ix_kd (D : KDict X.K X.w d es n) : IxR X (rKix X.K d) := by
  intro value slice pins s σ H x y v u Q I rx ry h hs
  obtain ⟨z, u0, v0, rfl, rfl, e, r, q⟩ := h
  obtain rfl : v = Value.ref d := rx
  obtain ⟨t, rfl⟩ := ry
  refine subscriptTail_builtinR (x := u0) (kd_type D I) PySem.F.slot_dict_getitem.lookup ?_ hs
  exact wpAny_getItem_of (PySem.strKind_is X.prog X.w z t) (PySem.W.mapOf_K (prog := X.prog) I.kIn D.at_ D.lit) (PySem.W.find_K D.at_ e) ⟨rfl, v0, H, I.tok _, r, q⟩
/-- list(d) of a written dict -/
theorem call_kls (D : KDict X.K X.w d es n) {ks : List Str} (hk : es.toList.map keyName = ks.map some) (hc : X.calm = true) (hz : ks.length ≤ sizeLine) : CallR X (.type "list") (rKls d ks) := by
  intro pins s σ H xs us Q I r h
  obtain ⟨rfl, q⟩ := h
  obtain ⟨u, rfl, rx⟩ := vals1 r
  obtain rfl : u = Value.ref d := rx
  have at_ := I.kIn _ _ D.at_
  have hl : es.size = ks.length := by
    have e := congrArg List.length hk
    rw [List.length_map, List.length_map, Array.length_toList] at e
    exact e
  refine PySem.W.kdl_call (kdl_raw D.low ⟨rfl, rfl, rfl⟩ rfl) (I.ok.hd hc) at_ (by rw [hl]; exact hz) fun h' tk acc' c' keep S1 acc => ?_
  refine ⟨.ref s.heap.objs.size, upd H s.heap.objs.size (.lst (ks.map V.str)), I.laid keep (Nat.le_refl _) ⟨by rw [List.length_map]; exact hz, acc'.toList, c', ?_, ?_⟩, rfl, q _ (I.hok.fresh (Nat.le_refl _))⟩
  · have el : acc'.toList.length = acc'.size := by simp
    refine vals_of_at (by rw [List.length_map, el, acc.1, hl]) fun j x w h1 h2 => ?_
    obtain ⟨en, e1, e2⟩ := acc.2 j w (by rw [← Array.getElem?_toList]; exact h2)
    have e3 : (es.toList.map keyName)[j]? = some (keyName en) := by
      rw [List.getElem?_map, Array.getElem?_toList, e1]
      rfl
    rw [hk, List.getElem?_map] at e3
    rw [List.getElem?_map] at h1
    cases e4 : ks[j]? with
    | none =>
      rw [e4] at e3
      cases e3
    | some k =>
      rw [e4] at e3 h1
      have e5 : some k = keyName en := Option.some.inj e3
      obtain rfl : V.str k = x := Option.some.inj h1
      subst e2
      unfold keyName at e5
      split at e5
      · rename_i z t ek
        cases e5
        exact ⟨t, ek⟩
      · cases e5
  · rw [Array.toArray_toList]
    exact S1
end
/-! ### walks over these -/
section
variable {K : PySem.W.Frag} {σ : L2.St} {H : Hp} {Q : VK} {D : Ends} {k : VK}
theorem inV_strs (z : Str) : ∀ ks : List Str, inV (.str z) (ks.map V.str) = decide (z ∈ ks)
  | [] => by simp [inV]
  | a :: r => by
    have ih := inV_strs z r
    unfold inV at *
    rw [List.map_cons, List.any_cons, ih]
    have e : eqV (V.str a) (V.str z) = decide (a = z) := by
      first
        | rfl
        | (unfold eqV; simp)
    rw [e]
    by_cases h : a = z
    · subst h
      simp
    · have h2 : ¬ z = a := fun q => h q.symm
      simp [h, h2]
theorem flat_strs : ∀ ks : List Str, (ks.map V.str).all flatV = true
  | [] => rfl
  | _ :: r => by
    rw [List.map_cons, List.all_cons, flat_strs r]
    rfl
theorem w_inT {a : Addr} {z : Str} {ks : List Str} (h : SqT K H a (ks.map V.str)) (q : Q (.bl (decide (z ∈ ks))) H) : rIn K false (.str z) (.ref a) H Q :=
  ⟨a, _, rfl, .inr h, rfl, flat_strs ks, by
    show Q (.bl (inV (.str z) (ks.map V.str))) H
    rw [inV_strs]
    exact q⟩
/-- in a tuple that was just written: the heap with it is as good as the one ahead -/
theorem w_inN {z : Str} {ks : List Str} {t : TA} (ht : ∀ R : List V → Hp → Prop, R (ks.map V.str) H → t σ H R) (hz : ks.length ≤ 1000) (q : ∀ p, H p = none → Q (.bl (decide (z ∈ ks))) (upd H p (.tup (ks.map V.str)))) :
    tTup t σ H fun y H2 => rIn K false (.str z) y H2 Q := by
  refine ht _ ⟨by rw [List.length_map]; exact Nat.le_trans hz (by decide), fun p hp => ?_⟩
  exact w_inT (SqT.of upd_same) (q p hp)
theorem w_dm {i j : Int} (hj : CDivN i j) (q : ∀ p, H p = none → Q (.ref p) (upd H p (.tup [.int (i.fdiv j), .int (i.fmod j)]))) : rDm [.int i, .int j] H Q := ⟨i, j, rfl, hj, q⟩
theorem w_lso {a : Addr} {ys : List V} (h : SqL K H a ys) (q : ∀ l, H l = none → Q (.ref l) (upd H l (.lst ys))) : rLsO K [.ref a] H Q := ⟨a, ys, rfl, .inl h, q⟩
theorem w_lsoT {a : Addr} {ys : List V} (h : SqT K H a ys) (q : ∀ l, H l = none → Q (.ref l) (upd H l (.lst ys))) : rLsO K [.ref a] H Q := ⟨a, ys, rfl, .inr h, q⟩
theorem w_in1 {i : Int} (q : Q (.int i) H) : rIn1 [.int i] H Q := .inl ⟨i, rfl, q⟩
theorem w_in1b {b : Bool} (q : Q (.int (if b then 1 else 0)) H) : rIn1 [.bl b] H Q := .inr ⟨b, rfl, q⟩
theorem w_cat {l b : Addr} {xs ys : List V} (h : H l = some (.lst xs)) (h' : H b = some (.lst ys)) (hz : xs.length + ys.length ≤ sizeLine) (q : ∀ p, H p = none → Q (.ref p) (upd H p (.lst (xs ++ ys)))) : rCat (.ref l) (.ref b) H Q := ⟨l, b, xs, ys, rfl, rfl, h, h', hz, q⟩
theorem w_isN {x : V} (q : Q (.bl (decide (x = .non))) H) : rIsN x .non H Q := ⟨rfl, q⟩
theorem w_notN {x : V} (q : Q (.bl (!decide (x = .non))) H) : rNotN x .non H Q := ⟨rfl, q⟩
theorem w_sl {r : V → Option Int → Option Int → Hp → VK → Prop} {te : TE} {tl th : TO} (q : te σ H fun x H1 => tl σ H1 fun l H2 => th σ H2 fun u H3 => r x l u H3 Q) : tSl r te tl th σ H Q := q
theorem w_noP {R : Option Int → Hp → Prop} (q : R none H) : tNoPart σ H R := q
theorem w_part {te : TE} {R : Option Int → Hp → Prop} (q : te σ H fun x H1 => ∃ i, x = .int i ∧ R (some i) H1) : tPart te σ H R := q
theorem w_slL {a : Addr} {xs : List V} {lo hi : Option Int} (h : SqL K H a xs) (q : ∀ p, H p = none → Q (.ref p) (upd H p (.lst (cutV xs lo hi)))) : rSlL K (.ref a) lo hi H Q := ⟨a, xs, rfl, h, q⟩
theorem w_slS {z : Str} {lo hi : Option Int} (hz : z.length ≤ sizeLine) (q : Q (.str (cutS z lo hi)) H) : rSlS (.str z) lo hi H Q := ⟨z, rfl, hz, q⟩
theorem w_neg {i : Int} (q : Q (.int (-i)) H) : rU (fun i => .int (-i)) (.int i) H Q := ⟨i, rfl, q⟩
theorem w_part1 {i : Int} {R : Int → Prop} (q : R i) : ∃ j, V.int i = .int j ∧ R j := ⟨i, rfl, q⟩
/-- in a tuple that is written there -/
theorem w_inW {z : Str} {ks : List Str} (hz : ks.length ≤ 1000) (q : ∀ p, H p = none → Q (.bl (decide (z ∈ ks))) (upd H p (.tup (ks.map V.str)))) :
    (ks.map V.str).length ≤ sizeLine ∧ ∀ p, H p = none → rIn K false (.str z) (.ref p) (upd H p (.tup (ks.map V.str))) Q :=
  ⟨by rw [List.length_map]; exact Nat.le_trans hz (by decide), fun p hp => w_inT (SqT.of upd_same) (q p hp)⟩
theorem same_new {H : Hp} {p : Addr} {o : HO} (h : H p = none) : Same H (upd H p o) := fun b u e => by
  rw [upd_ne (ne_of_none e h)]
  exact e
theorem iv_rev (xs : List Int) : (iv xs).reverse = iv xs.reverse := (List.map_reverse ..).symm
theorem cut_to1 (xs : List Int) : cutV (iv xs) none (some 1) = iv (xs.take 1) := by
  cases xs with
  | nil => rfl
  | cons a r =>
    unfold cutV HT.sIx iv
    simp
theorem cut_from1 (xs : List Int) : cutV (iv xs) (some 1) none = iv (xs.drop 1) := by
  cases xs with
  | nil => rfl
  | cons a r =>
    unfold cutV HT.sIx iv
    simp [List.take_of_length_le]
theorem w_revL {te : TE} (q : te σ H fun x H1 => ∃ a xs, x = .ref a ∧ SqL K H1 a xs ∧ ∀ p, H1 p = none → Q (.ref p) (upd H1 p (.lst xs.reverse))) : tRevL K te σ H Q := q
theorem w_rv {a : Addr} {ys : List V} (h : SqL K H a ys) (q : ∀ p, H p = none → Q (.ref p) (upd H p (.lst ys.reverse))) : ∃ b xs, V.ref a = .ref b ∧ SqL K H b xs ∧ ∀ p, H p = none → Q (.ref p) (upd H p (.lst xs.reverse)) := ⟨a, ys, rfl, h, q⟩
theorem w_dget {a : Addr} {z : Str} {kvs : List (Key × V)} {v : V} {i j : Nat} (h1 : σ[i]? = some (some (.ref a))) (h2 : σ[j]? = some (some (.str z))) (h : H a = some (.dK kvs)) (hv : valV kvs (Sum.inr z) = some v) (q : Q v H) : tDGet (tVar i) (tVar j) σ H Q :=
  ⟨_, h1, _, h2, a, v, rfl, hv ▸ DGet.k (k := Sum.inr z) h, q⟩
theorem w_chain {r r' : R2} {ta tb tc : TE} (q : ta σ H fun x H1 => tb σ H1 fun y H2 => r x y H2 fun z H3 => ∃ k, z = .bl k ∧ (if k = true then tc σ H3 fun w' H4 => r' y w' H4 Q else Q (.bl false) H3)) : tChain r r' ta tb tc σ H Q := q
theorem w_m1 {r : V → List V → Hp → VK → Prop} {to te : TE} (q : to σ H fun x H1 => (∃ a, x = .str a) ∧ te σ H1 fun y H2 => r x [y] H2 Q) : tM1 r to te σ H Q := q
theorem w_m0 {r : V → List V → Hp → VK → Prop} {to : TE} (q : to σ H fun x H1 => (∃ a, x = .str a) ∧ r x [] H1 Q) : tM0 r to σ H Q := q
theorem w_isS {z : Str} {R : Prop} (q : R) : (∃ a, V.str z = .str a) ∧ R := ⟨⟨z, rfl⟩, q⟩
theorem w_starts {z y : Str} (q : Q (.bl (Txt.startswith z y)) H) : rStarts (.str z) [.str y] H Q := ⟨z, y, rfl, rfl, q⟩
theorem w_lnS' {z : Str} (hz : z.length ≤ sizeLine) (q : Q (.int (z.length : Int)) H) : rLnS [.str z] H Q := ⟨z, rfl, hz, q⟩
theorem w_bmS {r : V → List V → Hp → VK → Prop} {to : TE} {t : TA} (q : to σ H fun x H1 => tyV K "str" x H1 ∧ t σ H1 fun xs H2 => r x xs H2 Q) : tBM K "str" r to t σ H Q := q
theorem w_tyS {z : Str} {R : Prop} (q : R) : tyV K "str" (.str z) H ∧ R := ⟨rfl, q⟩
theorem w_strip {z y : Str} (hz : z.length ≤ sizeLine) (q : Q (.str (Txt.stripChars z y)) H) : rStripC (.str z) [.str y] H Q := ⟨z, y, rfl, rfl, hz, q⟩
theorem w_ixS {z : Str} {i : Int} {c : Nat} (hz : z.length ≤ sizeLine) (h : atI z.cps.toList i = some c) (q : Q (.str ⟨#[c]⟩) H) : rIxS (.str z) (.int i) H Q := ⟨z, i, c, rfl, rfl, hz, h, q⟩
theorem w_inS {z : Str} {n : Int} (h : PySem.intText? z = some n) (hz : z.length ≤ 640) (q : Q (.int n) H) : rInS [.str z] H Q := ⟨z, n, rfl, h, hz, q⟩
theorem w_first {z : Str} (h1 : 1 ≤ (z.cps.toList.length : Int)) (hz : z.length ≤ sizeLine) (q : ∀ c, z.cps.toList.head? = some c → Q (.str ⟨#[c]⟩) H) : rIxS (.str z) (.int 0) H Q := by
  cases e : z.cps.toList with
  | nil =>
    rw [e] at h1
    exact absurd h1 (by decide)
  | cons a r =>
    refine w_ixS hz (c := a) ?_ (q a (by rw [e]; rfl))
    rw [e]
    exact atI_nat (j := 0) rfl
end
end WH
set_option Elab.async false
set_option linter.all false
set_option maxRecDepth 100000
set_option maxHeartbeats 4000000
namespace WH
open PySem PySem.Spec PyProof.Rows L2
/-! ### where the defs stand -/
def d_WordError_init : He.DefD := ⟨("WordError", some "__init__"), "__init__", "WordError.__init__", defArgs (inClass (top 2) 0), defBody (inClass (top 2) 0), defScope (inClass (top 2) 0), [], []⟩
def d_NoWord_init : He.DefD := ⟨("NoWord", some "__init__"), "__init__", "NoWord.__init__", defArgs (inClass (top 3) 0), defBody (inClass (top 3) 0), defScope (inClass (top 3) 0), [], []⟩
def d_rounded : He.DefD := ⟨("rounded", none), "rounded", "rounded", defArgs (top 21), defBody (top 21), defScope (top 21), [], []⟩
def d_number_of : He.DefD := ⟨("number_of", none), "number_of", "number_of", defArgs (top 22), defBody (top 22), defScope (top 22), [], []⟩
def d_truth : He.DefD := ⟨("truth", none), "truth", "truth", defArgs (top 23), defBody (top 23), defScope (top 23), [], []⟩
def d_moved : He.DefD := ⟨("moved", none), "moved", "moved", defArgs (top 26), defBody (top 26), defScope (top 26), [], []⟩
def d_compared : He.DefD := ⟨("compared", none), "compared", "compared", defArgs (top 27), defBody (top 27), defScope (top 27), [], []⟩
def d_reckoned : He.DefD := ⟨("reckoned", none), "reckoned", "reckoned", defArgs (top 28), defBody (top 28), defScope (top 28), [], []⟩
def d_left_by : He.DefD := ⟨("left_by", none), "left_by", "left_by", defArgs (top 29), defBody (top 29), defScope (top 29), [], []⟩
def d_E_init : He.DefD := ⟨("Entry", some "__init__"), "__init__", "Entry.__init__", defArgs (inClass (top 37) 0), defBody (inClass (top 37) 0), defScope (inClass (top 37) 0), [], [("start", .int 0), ("end", .int 0), ("worth", .int 0), ("is_now", .bl false)]⟩
def d_E_copied_entry : He.DefD := ⟨("Entry", some "copied_entry"), "copied_entry", "Entry.copied_entry", defArgs (inClass (top 37) 1), defBody (inClass (top 37) 1), defScope (inClass (top 37) 1), [], []⟩
def d_Machine_init : He.DefD := ⟨("Machine", some "__init__"), "__init__", "Machine.__init__", defArgs (inClass (top 38) 0), defBody (inClass (top 38) 0), defScope (inClass (top 38) 0), [], []⟩
def d_H_need : He.DefD := ⟨("House", some "need"), "need", "Machine.need", defArgs (inClass (top 38) 1), defBody (inClass (top 38) 1), defScope (inClass (top 38) 1), [.int 0], []⟩
def d_H_need_side : He.DefD := ⟨("House", some "need_side"), "need_side", "Machine.need_side", defArgs (inClass (top 38) 2), defBody (inClass (top 38) 2), defScope (inClass (top 38) 2), [.int 0], []⟩
def d_H_need_cell : He.DefD := ⟨("House", some "need_cell"), "need_cell", "Machine.need_cell", defArgs (inClass (top 38) 3), defBody (inClass (top 38) 3), defScope (inClass (top 38) 3), [], []⟩
def d_H_need_room : He.DefD := ⟨("House", some "need_room"), "need_room", "Machine.need_room", defArgs (inClass (top 38) 4), defBody (inClass (top 38) 4), defScope (inClass (top 38) 4), [], []⟩
def d_H_entry : He.DefD := ⟨("House", some "entry"), "entry", "Machine.entry", defArgs (inClass (top 38) 5), defBody (inClass (top 38) 5), defScope (inClass (top 38) 5), [], []⟩
def d_H_perform : He.DefD := ⟨("House", some "perform"), "perform", "Machine.perform", defArgs (inClass (top 38) 6), defBody (inClass (top 38) 6), defScope (inClass (top 38) 6), [], []⟩
def d_H_enter : He.DefD := ⟨("House", some "enter"), "enter", "Machine.enter", defArgs (inClass (top 38) 7), defBody (inClass (top 38) 7), defScope (inClass (top 38) 7), [], []⟩
def d_H_go_into : He.DefD := ⟨("House", some "go_into"), "go_into", "Machine.go_into", defArgs (inClass (top 38) 8), defBody (inClass (top 38) 8), defScope (inClass (top 38) 8), [], []⟩
def d_H_go_to : He.DefD := ⟨("House", some "go_to"), "go_to", "Machine.go_to", defArgs (inClass (top 38) 9), defBody (inClass (top 38) 9), defScope (inClass (top 38) 9), [], []⟩
def d_H_forget_from : He.DefD := ⟨("House", some "forget_from"), "forget_from", "Machine.forget_from", defArgs (inClass (top 38) 10), defBody (inClass (top 38) 10), defScope (inClass (top 38) 10), [], []⟩
def d_H_do : He.DefD := ⟨("House", some "do"), "do", "Machine.do", defArgs (inClass (top 38) 11), defBody (inClass (top 38) 11), defScope (inClass (top 38) 11), [], []⟩
def d_H_do_plain : He.DefD := ⟨("House", some "do_plain"), "do_plain", "Machine.do_plain", defArgs (inClass (top 38) 12), defBody (inClass (top 38) 12), defScope (inClass (top 38) 12), [], []⟩
def d_H_do_paired : He.DefD := ⟨("House", some "do_paired"), "do_paired", "Machine.do_paired", defArgs (inClass (top 38) 13), defBody (inClass (top 38) 13), defScope (inClass (top 38) 13), [], []⟩
def d_H_do_loop : He.DefD := ⟨("House", some "do_loop"), "do_loop", "Machine.do_loop", defArgs (inClass (top 38) 14), defBody (inClass (top 38) 14), defScope (inClass (top 38) 14), [], []⟩
def d_H_do_side : He.DefD := ⟨("House", some "do_side"), "do_side", "Machine.do_side", defArgs (inClass (top 38) 15), defBody (inClass (top 38) 15), defScope (inClass (top 38) 15), [], []⟩
def d_H_do_cells : He.DefD := ⟨("House", some "do_cells"), "do_cells", "Machine.do_cells", defArgs (inClass (top 38) 16), defBody (inClass (top 38) 16), defScope (inClass (top 38) 16), [], []⟩
def d_H_do_other : He.DefD := ⟨("House", some "do_other"), "do_other", "Machine.do_other", defArgs (inClass (top 38) 17), defBody (inClass (top 38) 17), defScope (inClass (top 38) 17), [], []⟩
def d_H_give_deeds : He.DefD := ⟨("House", some "give_deeds"), "give_deeds", "Machine.give_deeds", defArgs (inClass (top 38) 18), defBody (inClass (top 38) 18), defScope (inClass (top 38) 18), [], []⟩
def d_deed_names : He.DefD := ⟨("deed_names", none), "deed_names", "deed_names", defArgs (top 47), defBody (top 47), defScope (top 47), [], []⟩
def d_House_init : He.DefD := ⟨("House", some "__init__"), "__init__", "House.__init__", defArgs (inClass (top 48) 0), defBody (inClass (top 48) 0), defScope (inClass (top 48) 0), [], [("cells", .int 400), ("pile", .int 32)]⟩
def d_H_pile : He.DefD := ⟨("House", some "pile"), "pile", "House.pile", defArgs (inClass (top 48) 1), defBody (inClass (top 48) 1), defScope (inClass (top 48) 1), [], []⟩
def d_H_here : He.DefD := ⟨("House", some "here"), "here", "House.here", defArgs (inClass (top 48) 2), defBody (inClass (top 48) 2), defScope (inClass (top 48) 2), [], []⟩
def d_H_cell : He.DefD := ⟨("House", some "cell"), "cell", "House.cell", defArgs (inClass (top 48) 3), defBody (inClass (top 48) 3), defScope (inClass (top 48) 3), [], []⟩
def d_H_is_open : He.DefD := ⟨("House", some "is_open"), "is_open", "House.is_open", defArgs (inClass (top 48) 4), defBody (inClass (top 48) 4), defScope (inClass (top 48) 4), [], []⟩
def d_H_names : He.DefD := ⟨("House", some "names"), "names", "House.names", defArgs (inClass (top 48) 5), defBody (inClass (top 48) 5), defScope (inClass (top 48) 5), [], [("every", .bl false)]⟩
def d_H_known : He.DefD := ⟨("House", some "known"), "known", "House.known", defArgs (inClass (top 48) 6), defBody (inClass (top 48) 6), defScope (inClass (top 48) 6), [], []⟩
def d_H_copied : He.DefD := ⟨("House", some "copied"), "copied", "House.copied", defArgs (inClass (top 48) 7), defBody (inClass (top 48) 7), defScope (inClass (top 48) 7), [], []⟩
def d_H_tell : He.DefD := ⟨("House", some "tell"), "tell", "House.tell", defArgs (inClass (top 48) 8), defBody (inClass (top 48) 8), defScope (inClass (top 48) 8), [], [("most", .int 2000), ("whole", .bl true)]⟩
def d_H_taken : He.DefD := ⟨("House", some "taken"), "taken", "House.taken", defArgs (inClass (top 48) 9), defBody (inClass (top 48) 9), defScope (inClass (top 48) 9), [], []⟩
def d_H_put_back : He.DefD := ⟨("House", some "put_back"), "put_back", "House.put_back", defArgs (inClass (top 48) 10), defBody (inClass (top 48) 10), defScope (inClass (top 48) 10), [], []⟩
def d_H_strike : He.DefD := ⟨("House", some "strike"), "strike", "House.strike", defArgs (inClass (top 48) 11), defBody (inClass (top 48) 11), defScope (inClass (top 48) 11), [], []⟩
def d_H_one_word : He.DefD := ⟨("House", some "one_word"), "one_word", "House.one_word", defArgs (inClass (top 48) 12), defBody (inClass (top 48) 12), defScope (inClass (top 48) 12), [], []⟩
def d_H_number_for : He.DefD := ⟨("House", some "number_for"), "number_for", "House.number_for", defArgs (inClass (top 48) 13), defBody (inClass (top 48) 13), defScope (inClass (top 48) 13), [], []⟩
def d_H_lay : He.DefD := ⟨("House", some "lay"), "lay", "House.lay", defArgs (inClass (top 48) 14), defBody (inClass (top 48) 14), defScope (inClass (top 48) 14), [], []⟩
def d_H_next_name : He.DefD := ⟨("House", some "next_name"), "next_name", "House.next_name", defArgs (inClass (top 48) 15), defBody (inClass (top 48) 15), defScope (inClass (top 48) 15), [], []⟩
def d_H_next_known : He.DefD := ⟨("House", some "next_known"), "next_known", "House.next_known", defArgs (inClass (top 48) 16), defBody (inClass (top 48) 16), defScope (inClass (top 48) 16), [], []⟩
def d_H_do_telling : He.DefD := ⟨("House", some "do_telling"), "do_telling", "House.do_telling", defArgs (inClass (top 48) 17), defBody (inClass (top 48) 17), defScope (inClass (top 48) 17), [], []⟩
def d_H_do_marking : He.DefD := ⟨("House", some "do_marking"), "do_marking", "House.do_marking", defArgs (inClass (top 48) 18), defBody (inClass (top 48) 18), defScope (inClass (top 48) 18), [], []⟩
def d_H_add_entry : He.DefD := ⟨("House", some "add_entry"), "add_entry", "House.add_entry", defArgs (inClass (top 48) 19), defBody (inClass (top 48) 19), defScope (inClass (top 48) 19), [], [("worth", .int 0)]⟩
def d_H_do_making : He.DefD := ⟨("House", some "do_making"), "do_making", "House.do_making", defArgs (inClass (top 48) 20), defBody (inClass (top 48) 20), defScope (inClass (top 48) 20), [], []⟩
def d_H_do_laying : He.DefD := ⟨("House", some "do_laying"), "do_laying", "House.do_laying", defArgs (inClass (top 48) 21), defBody (inClass (top 48) 21), defScope (inClass (top 48) 21), [], []⟩
def d_H_end_word : He.DefD := ⟨("House", some "end_word"), "end_word", "House.end_word", defArgs (inClass (top 48) 22), defBody (inClass (top 48) 22), defScope (inClass (top 48) 22), [], []⟩
def d_H_lay_postponed : He.DefD := ⟨("House", some "lay_postponed"), "lay_postponed", "House.lay_postponed", defArgs (inClass (top 48) 23), defBody (inClass (top 48) 23), defScope (inClass (top 48) 23), [], []⟩
def d_H_need_tie : He.DefD := ⟨("House", some "need_tie"), "need_tie", "House.need_tie", defArgs (inClass (top 48) 24), defBody (inClass (top 48) 24), defScope (inClass (top 48) 24), [], []⟩
def d_H_lay_jump : He.DefD := ⟨("House", some "lay_jump"), "lay_jump", "House.lay_jump", defArgs (inClass (top 48) 25), defBody (inClass (top 48) 25), defScope (inClass (top 48) 25), [], []⟩
def d_H_lay_tied : He.DefD := ⟨("House", some "lay_tied"), "lay_tied", "House.lay_tied", defArgs (inClass (top 48) 26), defBody (inClass (top 48) 26), defScope (inClass (top 48) 26), [], []⟩
def d__law_mix : He.DefD := ⟨("_law_mix", none), "_law_mix", "_law_mix", defArgs (top 50), defBody (top 50), defScope (top 50), [], []⟩
def d__law_next : He.DefD := ⟨("_law_next", none), "_law_next", "_law_next", defArgs (top 51), defBody (top 51), defScope (top 51), [], []⟩
def d__law_alike : He.DefD := ⟨("_law_alike", none), "_law_alike", "_law_alike", defArgs (top 52), defBody (top 52), defScope (top 52), [], []⟩
def d__law_round : He.DefD := ⟨("_law_round", none), "_law_round", "_law_round", defArgs (top 53), defBody (top 53), defScope (top 53), [], []⟩
def d__law_number : He.DefD := ⟨("_law_number", none), "_law_number", "_law_number", defArgs (top 54), defBody (top 54), defScope (top 54), [], []⟩
def d__law_numbers : He.DefD := ⟨("_law_numbers", none), "_law_numbers", "_law_numbers", defArgs (top 55), defBody (top 55), defScope (top 55), [], []⟩
def d__law_text : He.DefD := ⟨("_law_text", none), "_law_text", "_law_text", defArgs (top 56), defBody (top 56), defScope (top 56), [], []⟩
def d_law : He.DefD := ⟨("law", none), "law", "law", defArgs (top 57), defBody (top 57), defScope (top 57), [], []⟩
def d_NoName_init : He.DefD := ⟨("NoName", some "__init__"), "__init__", "WordError.__init__", defArgs (inClass (top 2) 0), defBody (inClass (top 2) 0), defScope (inClass (top 2) 0), [], []⟩
def d_Short_init : He.DefD := ⟨("Short", some "__init__"), "__init__", "WordError.__init__", defArgs (inClass (top 2) 0), defBody (inClass (top 2) 0), defScope (inClass (top 2) 0), [], []⟩
def d_Deep_init : He.DefD := ⟨("Deep", some "__init__"), "__init__", "WordError.__init__", defArgs (inClass (top 2) 0), defBody (inClass (top 2) 0), defScope (inClass (top 2) 0), [], []⟩
def d_SideShort_init : He.DefD := ⟨("SideShort", some "__init__"), "__init__", "WordError.__init__", defArgs (inClass (top 2) 0), defBody (inClass (top 2) 0), defScope (inClass (top 2) 0), [], []⟩
def d_SideDeep_init : He.DefD := ⟨("SideDeep", some "__init__"), "__init__", "WordError.__init__", defArgs (inClass (top 2) 0), defBody (inClass (top 2) 0), defScope (inClass (top 2) 0), [], []⟩
def d_ByNought_init : He.DefD := ⟨("ByNought", some "__init__"), "__init__", "WordError.__init__", defArgs (inClass (top 2) 0), defBody (inClass (top 2) 0), defScope (inClass (top 2) 0), [], []⟩
def d_BadCell_init : He.DefD := ⟨("BadCell", some "__init__"), "__init__", "WordError.__init__", defArgs (inClass (top 2) 0), defBody (inClass (top 2) 0), defScope (inClass (top 2) 0), [], []⟩
def d_Full_init : He.DefD := ⟨("Full", some "__init__"), "__init__", "WordError.__init__", defArgs (inClass (top 2) 0), defBody (inClass (top 2) 0), defScope (inClass (top 2) 0), [], []⟩
def d_TooLong_init : He.DefD := ⟨("TooLong", some "__init__"), "__init__", "WordError.__init__", defArgs (inClass (top 2) 0), defBody (inClass (top 2) 0), defScope (inClass (top 2) 0), [], []⟩
def d_Unfit_init : He.DefD := ⟨("Unfit", some "__init__"), "__init__", "WordError.__init__", defArgs (inClass (top 2) 0), defBody (inClass (top 2) 0), defScope (inClass (top 2) 0), [], []⟩
def d_OnlyWithin_init : He.DefD := ⟨("OnlyWithin", some "__init__"), "__init__", "WordError.__init__", defArgs (inClass (top 2) 0), defBody (inClass (top 2) 0), defScope (inClass (top 2) 0), [], []⟩
def d_NoForget_init : He.DefD := ⟨("NoForget", some "__init__"), "__init__", "WordError.__init__", defArgs (inClass (top 2) 0), defBody (inClass (top 2) 0), defScope (inClass (top 2) 0), [], []⟩
def fnD : List He.DefD := ([d_WordError_init, d_NoWord_init, d_rounded, d_number_of, d_truth, d_moved, d_compared, d_reckoned, d_left_by, d_E_init, d_E_copied_entry, d_Machine_init] : List He.DefD) ++ ([d_H_need, d_H_need_side, d_H_need_cell, d_H_need_room, d_H_entry, d_H_perform, d_H_enter, d_H_go_into, d_H_go_to, d_H_forget_from, d_H_do, d_H_do_plain] : List He.DefD) ++ ([d_H_do_paired, d_H_do_loop, d_H_do_side, d_H_do_cells, d_H_do_other, d_H_give_deeds, d_deed_names, d_House_init, d_H_pile, d_H_here, d_H_cell, d_H_is_open] : List He.DefD) ++ ([d_H_names, d_H_known, d_H_copied, d_H_tell, d_H_taken, d_H_put_back, d_H_strike, d_H_one_word, d_H_number_for, d_H_lay, d_H_next_name, d_H_next_known] : List He.DefD) ++ ([d_H_do_telling, d_H_do_marking, d_H_add_entry, d_H_do_making, d_H_do_laying, d_H_end_word, d_H_lay_postponed, d_H_need_tie, d_H_lay_jump, d_H_lay_tied, d__law_mix, d__law_next] : List He.DefD) ++ ([d__law_alike, d__law_round, d__law_number, d__law_numbers, d__law_text, d_law, d_NoName_init, d_Short_init, d_Deep_init, d_SideShort_init, d_SideDeep_init, d_ByNought_init] : List He.DefD) ++ ([d_BadCell_init, d_Full_init, d_TooLong_init, d_Unfit_init, d_OnlyWithin_init, d_NoForget_init] : List He.DefD)
def faA : List He.Fa := ([.glo "rounded", .glo "number_of", .glo "truth", .glo "moved", .glo "compared", .glo "reckoned", .glo "left_by", .glo "deed_names", .glo "_law_mix", .glo "_law_next", .glo "_law_alike", .glo "_law_round"] : List He.Fa) ++ ([.glo "_law_number", .glo "_law_numbers", .glo "_law_text", .glo "law", .glo "House", .glo "Entry", .glo "Machine", .glo "WordError", .glo "NoWord", .glo "NoName", .glo "Short", .glo "Deep"] : List He.Fa) ++ ([.glo "SideShort", .glo "SideDeep", .glo "ByNought", .glo "BadCell", .glo "Full", .glo "TooLong", .glo "Unfit", .glo "OnlyWithin", .glo "NoForget", .glo "PAIRED", .glo "WITHIN", .glo "SIDEWISE"] : List He.Fa) ++ ([.glo "STORING", .glo "MAKING", .glo "NAMING", .glo "NOW", .glo "OTHERS", .glo "FACES", .free "len", .free "list", .free "str", .free "int", .free "range", .free "reversed"] : List He.Fa) ++ ([.free "divmod", .free "ValueError", .free "isinstance", .free "max", .free "tuple", .free "bool", .free "min", .int "LEAST" (-32768), .int "GREATEST" 32767, .int "ALL" 65536, .int "SIDE" 32, .int "NOWHERE" (-1)] : List He.Fa) ++ ([.str "FIGURES" "0123456789", .cls "House", .mkr "House", .cls "Entry", .mkr "Entry", .meth "House" "need", .meth "House" "need_side", .meth "House" "need_cell", .meth "House" "need_room", .meth "House" "entry", .meth "House" "perform", .meth "House" "enter"] : List He.Fa) ++ ([.meth "House" "go_into", .meth "House" "go_to", .meth "House" "forget_from", .meth "House" "do", .meth "House" "do_plain", .meth "House" "do_paired", .meth "House" "do_loop", .meth "House" "do_side", .meth "House" "do_cells", .meth "House" "do_other", .meth "House" "give_deeds", .meth "House" "pile"] : List He.Fa) ++ ([.meth "House" "here", .meth "House" "cell", .meth "House" "is_open", .meth "House" "names", .meth "House" "known", .meth "House" "copied", .meth "House" "tell", .meth "House" "taken", .meth "House" "put_back", .meth "House" "strike", .meth "House" "one_word", .meth "House" "number_for"] : List He.Fa) ++ ([.meth "House" "lay", .meth "House" "next_name", .meth "House" "next_known", .meth "House" "do_telling", .meth "House" "do_marking", .meth "House" "add_entry", .meth "House" "do_making", .meth "House" "do_laying", .meth "House" "end_word", .meth "House" "lay_postponed", .meth "House" "need_tie", .meth "House" "lay_jump"] : List He.Fa) ++ ([.meth "House" "lay_tied"] : List He.Fa)
def faD : List He.Fa := faA ++ hKeys.map (He.Fa.noat "House") ++ eKeys.map (He.Fa.noat "Entry")
/-! ### further facts -/
def oexB (K : PySem.W.Frag) (C : Addr) : Bool := match K.lookup C with
  | some ⟨.type "type", _, .cls cd, sl⟩ => (match cd.mro, sl.toList with
    | .ref C' :: bm, [_, _, _, _, some (.builtin n), _] => (C' == C && n == "ValueError.__new__") && (!cd.hasDel && (cd.hasDict && PySem.HandSPX.refsVE bm))
    | _, _ => false)
  | _ => false
def errB (K : PySem.W.Frag) (x : Str) : Bool := oexB K (He.ga K x) && (He.eqO (PySem.W.findIn K (.ref (He.ga K x)) "__setattr__") (some (some (.builtin "object.__setattr__"))) && (decide (PySem.W.subIn K (.ref (He.ga K x)) (.type "BaseException") = some true) &&
  (decide (PySem.W.typeIn K (.ref (He.ga K x)) = some (.type "type")) && (PySem.W.keepIn K (.ref (He.ga K x)) && (He.eqO (PySem.W.findIn K (.ref (He.ga K x)) "place") (some none) &&
  (He.eqO (PySem.W.findIn K (.ref (He.ga K x)) "__init__") (some (some (.ref (He.ma K (He.ga K x) "__init__")))) && decide (PySem.W.typeIn K (.ref (He.ma K (He.ga K x) "__init__")) = some (.type "function"))))))))
def errB2 (K : PySem.W.Frag) (x : Str) : Bool := errB K x && decide (PySem.W.exmOne K (.ref (He.ga K x)) (.ref (He.ga K "WordError")) = some true)
/-- C.__init__ off an own class -/
def offB (K : PySem.W.Frag) (x : Str) : Bool := PySem.W.readsIn K (He.ga K x) (.type "type") && (decide (PySem.W.specialIn K (.ref (He.ga K x)) "__getattribute__" = some (some (.builtin "type.__getattribute__"))) &&
  ((match PySem.W.findCls K (.ref (He.ga K x)) (.type "type") "__init__" with
    | some (.val (.ref f)) => decide (f = He.ma K (He.ga K x) "__init__")
    | _ => false) && PySem.W.keepIn K (.ref (He.ma K (He.ga K x) "__init__"))))
def tup2B (K : PySem.W.Frag) (a : Addr) (i j : Int) : Bool := match K.lookup a with
  | some ⟨.type c, _, .seq its _, _⟩ => decide (c = "tuple") && (decide (its.size ≤ sizeLine) && He.relAll [.int i, .int j] its.toList)
  | _ => false
def facesB (K : PySem.W.Frag) : Bool := (match K.lookup (He.ga K "FACES") with
    | some ⟨_, _, .dict es _, _⟩ => decide (es.toList.map keyName = (faces.map (·.1)).map some)
    | _ => false) && faces.all fun q => match PySem.W.nsIn K (He.ga K "FACES") q.1 with
  | some (some (.ref t)) => tup2B K t q.2.1 q.2.2
  | _ => false
def dvS (l : List Str) : List He.Dv := l.map He.Dv.str
def errM (K : PySem.W.Frag) (x : Str) : Bool := decide (PySem.W.typeIn K (.ref (He.ga K x)) = some (.type "type")) && (match PySem.W.clsIn K (He.ga K x) with
  | some cd => (match cd.mro with
    | .ref a :: .ref b :: r => a == He.ga K x && (b == He.ga K "WordError" && (r.all (fun v => match v with
      | .type _ => true
      | _ => false) && (r.contains (.type "object") && r.contains (.type "ValueError"))))
    | _ => false)
  | none => false)
def errL (K : PySem.W.Frag) (x : Str) : Bool := L2.xfB K (He.ga K x) && (decide (PySem.W.findIn K (.ref (He.ga K x)) "__class__" = some (some (.builtin "object.__class__"))) && errM K x)
def ALLE : List Str := "WordError" :: (["NoWord", "NoName", "Short", "Deep", "SideShort", "SideDeep", "ByNought", "BadCell", "Full", "TooLong", "Unfit", "OnlyWithin", "NoForget"] : List Str)
def exL (K : PySem.W.Frag) : Bool := decide (PySem.W.specialIn K (.builtin "object.__class__") "__get__" = some (some (.builtin "getset_descriptor.__get__"))) && (decide (PySem.W.takesIn K (.builtin "object.__class__") = some true) && ((["NoWord", "NoName", "Short", "Deep", "SideShort", "SideDeep", "ByNought", "BadCell", "Full", "TooLong", "Unfit", "OnlyWithin", "NoForget"] : List Str).all (errL K) && (decide ((ALLE.map (He.ga K)).Nodup) && ((PySem.W.clsIn K (He.ga K "WordError")).isSome && (decide (PySem.W.typeIn K (.ref (He.ga K "WordError")) = some (.type "type")) && decide (PySem.W.subIn K (.ref (He.ga K "WordError")) (.type "BaseException") = some true))))))
def exD (K : PySem.W.Frag) : Bool := ((decide (He.ga K "House" ≠ He.ga K "Entry") && (offB K "WordError" && (offB K "Machine" && (He.eqO (PySem.W.findIn K (.ref (He.ga K "NoWord")) "word") (some none) && He.eqO ((PySem.W.findCls K (.type "ValueError") (.type "type") "__init__").bind fun r => match r with | .val v => some (some v) | _ => none) (some (some (.builtin "ValueError.__init__"))))))) && ((facesB K && ([("NoWord" : Str), ("NoName" : Str), ("Short" : Str), ("Deep" : Str), ("SideShort" : Str), ("SideDeep" : Str), ("ByNought" : Str), ("BadCell" : Str), ("Full" : Str), ("TooLong" : Str), ("Unfit" : Str), ("OnlyWithin" : Str), ("NoForget" : Str)].all (errB2 K))) && ([(("PAIRED" : Str), dvS paired), (("WITHIN" : Str), dvS within), (("SIDEWISE" : Str), dvS sidewise), (("STORING" : Str), dvS storing), (("MAKING" : Str), dvS making), (("NAMING" : Str), dvS naming), (("NOW" : Str), dvS nowWords), (("OTHERS" : Str), dvS others)].all fun q => He.tupB K q.1 q.2))) && exL K
def tsD : List He.Tab := [((fun K => He.ga K "FACES"), faces.map (·.1))]
end WH
set_option Elab.async false
set_option linter.all false
set_option maxRecDepth 100000
set_option maxHeartbeats 0
namespace WH
open PySem PySem.Spec PyProof.Rows L2
abbrev RW : PySem.W.OpenRow := PySem.W.OpenLaw.row PySem.Challenge.rw_wordhoard_k13_loops
def loose : List PySem.Str := (["_wall", "__name__", "WordError", "NoWord", "NoName", "Short", "Deep", "SideShort", "SideDeep", "ByNought", "BadCell", "Full", "TooLong", "Unfit", "OnlyWithin"] : List PySem.Str) ++ (["NoForget", "LEAST", "GREATEST", "ALL", "FIGURES", "rounded", "number_of", "truth", "FACES", "moved", "compared", "reckoned", "left_by", "SIDE", "NOWHERE"] : List PySem.Str) ++ (["PAIRED", "WITHIN", "SIDEWISE", "STORING", "Entry", "Machine", "CELLS", "PILE", "DEEDS", "MAKING", "NAMING", "NOW", "OTHERS", "deed_names", "House"] : List PySem.Str) ++ (["_law_mix", "_law_next", "_law_alike", "_law_round", "_law_number", "_law_numbers", "_law_text"] : List PySem.Str)
/-- what is looked at: what the module's names reach, and one table beside -/
def seenOf (g : Addr → Option Obj) : PySem.W.Frag := He.frT g (PySem.cStatics :: He.asD g 4)
def lookD (g : Addr → Option Obj) : He.AlT × Bool := (He.obsT faD fnD tsD (seenOf g), exD (seenOf g))
def hkD : PySem.W.Hook := {
  α := He.AlT × Bool
  obs := fun s => lookD s.heap.get?
  val := fun w => (He.valT fnD tsD w, true)
  says := fun w h => ∃ K : PySem.W.Frag, K.In h ∧ (He.SaysT faD fnD tsD w K ∧ exD K = true)
  of := fun _ _ z => ⟨_, He.frT_in, congrArg Prod.fst z, congrArg Prod.snd z⟩
  keeps := fun _ _ _ y kept => y.elim fun K z => ⟨K, z.1.keeps kept, z.2⟩ }
def obD (s : PySem.W.SharedT) : He.AlT × Bool := lookD (HandSHeadRun.getT s)
theorem obD_eq (s : PySem.W.SharedT) : obD s = hkD.obs s.abs := by
  have z : HandSHeadRun.getT s = s.abs.heap.get? := funext (HandSHeadRun.getT_eq s)
  show lookD _ = lookD _
  rw [z]
theorem runF (w : World) : HandSHeadRun.RunEq RW (PySem.W.view RW.prog [57]) hkD obD 20000 loose (w.withFollow "special-get-raises" false) := by
  intro os
  kernel_rfl
theorem runT (w : World) : HandSHeadRun.RunEq RW (PySem.W.view RW.prog [57]) hkD obD 20000 loose (w.withFollow "special-get-raises" true) := by
  intro os
  kernel_rfl
theorem runD (w : World) : HandSHeadRun.RunEq RW (PySem.W.view RW.prog [57]) hkD obD 20000 loose w :=
  PySem.W.byRow2 "special-get-raises" (P := fun w => HandSHeadRun.RunEq RW (PySem.W.view RW.prog [57]) hkD obD 20000 loose w) runF runT w
end WH
set_option Elab.async false
set_option linter.all false
set_option maxRecDepth 100000
set_option maxHeartbeats 1000000
namespace WH
open PySem PyProof.Rows
theorem tw_len {α : Type} (p : α → Bool) : ∀ l : List α, (l.takeWhile p).length ≤ l.length
  | [] => Nat.le_refl _
  | a :: r => by
    rw [List.takeWhile_cons]
    cases p a with
    | true =>
      have := tw_len p r
      simp only [if_true, List.length_cons]
      omega
    | false => simp
theorem tw_all {α : Type} (p : α → Bool) : ∀ {l : List α}, l.all p = true → (l.takeWhile p).length = l.length
  | [], _ => rfl
  | a :: r, h => by
    rw [List.all_cons, Bool.and_eq_true] at h
    rw [List.takeWhile_cons, h.1]
    simp only [if_true, List.length_cons, tw_all p h.2]
theorem tw_stop {α : Type} (p : α → Bool) : ∀ {l : List α}, l.all p = false → (l.takeWhile p).length < l.length ∧ ∃ a r, l.drop (l.takeWhile p).length = a :: r ∧ p a = false
  | [], h => by cases h
  | a :: r, h => by
    rw [List.takeWhile_cons]
    cases e : p a with
    | true =>
      rw [List.all_cons, e, Bool.true_and] at h
      obtain ⟨h1, b, q, h2, h3⟩ := tw_stop p h
      simp only [if_true, List.length_cons, List.drop_succ_cons]
      exact ⟨by omega, b, q, h2, h3⟩
    | false => exact ⟨by simp, a, r, by simp, e⟩
/-- nothing is left between, where all signs go -/
theorem strip_empty (x y : Str) : Txt.stripChars x y = Str.empty ↔ x.cps.toList.all y.cps.contains = true := by
  have key : (Txt.stripChars x y).cps = x.cps.extract (stripLo y.cps.contains true x) (stripHi y.cps.contains true x (stripLo y.cps.contains true x)) := by
    unfold Txt.stripChars Txt.stripBy
    split
    · rename_i h
      unfold stripSame at h
      obtain ⟨h1, h2⟩ := Bool.and_eq_true_iff.mp h
      rw [beq_iff_eq.mp h2, beq_iff_eq.mp h1]
      show x.cps = x.cps.extract 0 x.cps.size
      simp
    · rfl
  have el : x.length = x.cps.toList.length := by simp [Str.length]
  have e1 : Txt.stripChars x y = Str.empty ↔ (Txt.stripChars x y).cps.size = 0 := by
    constructor
    · intro h
      rw [h]
      rfl
    · intro h
      exact Str.ext' (Array.eq_empty_of_size_eq_zero h)
  rw [e1, key, Array.size_extract]
  have lo : stripLo y.cps.contains true x = (x.cps.toList.takeWhile y.cps.contains).length := by
    unfold stripLo
    rw [if_pos rfl]
  have hi : ∀ n, stripHi y.cps.contains true x n = x.cps.toList.length - ((x.cps.toList.drop n).reverse.takeWhile y.cps.contains).length := fun n => by
    unfold stripHi
    rw [if_pos rfl, el]
  rw [lo, hi]
  have sz : x.cps.size = x.cps.toList.length := by simp
  rw [sz]
  generalize x.cps.toList = l
  constructor
  · intro h
    cases e : l.all y.cps.contains with
    | true => rfl
    | false =>
      exfalso
      obtain ⟨h1, a, r, h2, h3⟩ := tw_stop _ e
      have h4 : ((l.drop (l.takeWhile y.cps.contains).length).reverse.takeWhile y.cps.contains).length < (l.drop (l.takeWhile y.cps.contains).length).length := by
        have e5 : (l.drop (l.takeWhile y.cps.contains).length).reverse.all y.cps.contains = false := by
          rw [List.all_reverse, h2, List.all_cons, h3]
          rfl
        have := (tw_stop _ e5).1
        rw [List.length_reverse] at this
        exact this
      rw [List.length_drop] at h4
      omega
  · intro h
    have h1 := tw_all _ h
    rw [h1]
    omega
theorem dig_has (c : Nat) : ("0123456789" : Str).cps.contains c = isDig c := by
  have e : ("0123456789" : Str).cps = #[48, 49, 50, 51, 52, 53, 54, 55, 56, 57] := by decide +kernel
  rw [e]
  unfold isDig
  by_cases h : 48 ≤ c ∧ c ≤ 57
  · have : c = 48 ∨ c = 49 ∨ c = 50 ∨ c = 51 ∨ c = 52 ∨ c = 53 ∨ c = 54 ∨ c = 55 ∨ c = 56 ∨ c = 57 := by omega
    rcases this with e | e | e | e | e | e | e | e | e | e <;> subst e <;> decide +kernel
  · have h2 : (decide (48 ≤ c) && decide (c ≤ 57)) = false := by
      rw [← Bool.decide_and]
      exact decide_eq_false h
    rw [h2]
    rw [Bool.eq_false_iff]
    intro z
    have : c ∈ ([48, 49, 50, 51, 52, 53, 54, 55, 56, 57] : List Nat) := by simpa using z
    simp at this
    omega
theorem strip_dig (x : Str) : (Txt.stripChars x "0123456789" = "") ↔ x.cps.toList.all isDig = true := by
  have h := strip_empty x "0123456789"
  have e : (("0123456789" : Str).cps.contains) = isDig := funext dig_has
  rw [e] at h
  exact h
theorem str_list {x : Str} {l : List Nat} (h : x.cps.toList = l) : x = ⟨l.toArray⟩ := Str.ext' (by rw [← h])
theorem str_eq {x y : Str} : x = y ↔ x.cps.toList = y.cps.toList := ⟨fun e => by rw [e], fun h => Str.ext' (Array.toList_inj.mp h)⟩
theorem starts_minus (x : Str) : Txt.startswith x "-" = decide (x.cps.toList.head? = some 45) := by
  have e : ("-" : Str).cps = #[45] := by decide +kernel
  have e1 : ("-" : Str).length = 1 := by decide +kernel
  unfold Txt.startswith Builtin.Str.subAt
  rw [e, e1]
  obtain ⟨⟨l⟩⟩ := x
  cases l with
  | nil => decide
  | cons a r =>
    have h1 : (decide (0 + 1 ≤ (⟨⟨a :: r⟩⟩ : Str).length)) = true := by
      apply decide_eq_true
      show 0 + 1 ≤ (a :: r).length
      simp
    rw [h1, Bool.true_and]
    show ((⟨a :: r⟩ : Array Nat).extract 0 (0 + 1) == #[45]) = decide ((a :: r).head? = some 45)
    have h2 : (⟨a :: r⟩ : Array Nat).extract 0 (0 + 1) = #[a] := by
      apply Array.toList_inj.mp
      simp
    rw [h2]
    by_cases h : a = 45
    · subst h
      simp
    · have h3 : ¬ ((a :: r).head? = some 45) := fun z => h (Option.some.inj z)
      rw [decide_eq_false h3]
      simp [h]
theorem cut_tail (x : Str) : (L2.cutS x (some 1) none).cps.toList = x.cps.toList.tail := by
  unfold L2.cutS HT.sIx
  have el : x.length = x.cps.toList.length := by simp [Str.length]
  rw [el]
  cases x.cps.toList with
  | nil => rfl
  | cons a r =>
    simp [List.take_of_length_le]
theorem val_foldl : ∀ (l : List Nat) (a : Nat), (∀ c ∈ l, isDig c = true) → l.foldl (fun (a : Int) (c : Nat) => 10 * a + ((c : Int) - 48)) (a : Int) = ((l.foldl (fun acc c => acc * 10 + (c - 48)) a : Nat) : Int)
  | [], a, _ => rfl
  | c :: r, a, h => by
    rw [List.foldl_cons, List.foldl_cons]
    have hc := h c List.mem_cons_self
    unfold isDig at hc
    simp at hc
    have e : (10 * (a : Int) + ((c : Int) - 48)) = ((a * 10 + (c - 48) : Nat) : Int) := by omega
    rw [e]
    exact val_foldl r _ fun d hd => h d (List.mem_cons_of_mem _ hd)
theorem val_dig {l : List Nat} (h : l.all isDig = true) : valOf l = ((NumText.digitsVal l : Nat) : Int) := val_foldl l 0 fun c hc => List.all_eq_true.mp h c hc
theorem all_dig {l : List Nat} (h : l.all isDig = true) : NumText.AllDigits l := fun c hc => by
  have := List.all_eq_true.mp h c hc
  unfold isDig at this
  simpa using this
/-- int(word) of a number's word -/
theorem int_word {w : Str} {neg : Bool} {fig : List Nat} (hw : w.cps.toList = if neg then 45 :: fig else fig) (h : fig.all isDig = true) (h1 : fig ≠ []) (h2 : fig.length ≤ 5) : intText? w = some (if neg then - valOf fig else valOf fig) := by
  have el : w.length = w.cps.toList.length := by simp [Str.length]
  cases neg with
  | true =>
    have hw' : w.cps.toList = 45 :: fig := hw
    rw [intText_neg hw' (all_dig h) h1 (by rw [el, hw', List.length_cons]; omega), val_dig h]
    rfl
  | false =>
    have hw' : w.cps.toList = fig := hw
    rw [intText_digits (by rw [hw']; exact all_dig h) (by rw [hw']; exact h1) (by rw [el, hw']; omega), hw', val_dig h]
    rfl
/-- the number of a word whose figures are told apart -/
def numFig (neg : Bool) (l fig : List Nat) : Option Int :=
  if decide (1 ≤ fig.length) && decide (fig.length ≤ 5) && fig.all isDig then
    if decide (fig.head? = some 48) && decide (l ≠ [48]) then none
    else numRange (if neg then - valOf fig else valOf fig)
  else none
theorem numOf_fig (l : List Nat) : numOf l = numFig (decide (l.head? = some 45)) l (if decide (l.head? = some 45) = true then l.tail else l) := rfl
theorem len_list (x : Str) : (x.length : Int) = (x.cps.toList.length : Int) := by simp [Str.length]
theorem is_zero {x : Str} : x = "0" ↔ x.cps.toList = [48] := by
  rw [str_eq]
  have e : ("0" : Str).cps.toList = [48] := by decide +kernel
  rw [e]
theorem sign_zero {c : Nat} : (⟨#[c]⟩ : Str) = "0" ↔ c = 48 := by
  rw [is_zero]
  simp
def optI : Option Int → L2.V
  | some n => .int n
  | none => .non
theorem fin_in {Q : L2.VK} {H : L2.Hp} {n : Int} (k : Q (optI (numRange n)) H) (h1 : -32768 ≤ n) (h2 : n ≤ 32767) : Q (.int n) H := by
  unfold numRange at k
  rw [if_pos ⟨h1, h2⟩] at k
  exact k
theorem fin_out {Q : L2.VK} {H : L2.Hp} {n : Int} (k : Q (optI (numRange n)) H) (h : ¬ (-32768 ≤ n ∧ n ≤ 32767)) : Q .non H := by
  unfold numRange at k
  rw [if_neg h] at k
  exact k
end WH
set_option Elab.async false
set_option linter.all false
set_option maxRecDepth 100000
set_option maxHeartbeats 2000000
namespace WH
open PySem PySem.Spec PyProof.Rows L2
/-- what the module's and the built-in names stand for -/
structure Gb (w : World) (K : PySem.W.Frag) (mg : Str → Option Value) : Prop where
  len : mg "len" = none
  list : mg "list" = none
  str : mg "str" = none
  int : mg "int" = none
  range : mg "range" = none
  reversed : mg "reversed" = none
  divmod : mg "divmod" = none
  iLEAST : ∃ t, mg "LEAST" = some (.int (-32768) t)
  iGREATEST : ∃ t, mg "GREATEST" = some (.int 32767 t)
  iALL : ∃ t, mg "ALL" = some (.int 65536 t)
  iSIDE : ∃ t, mg "SIDE" = some (.int 32 t)
  iNOWHERE : ∃ t, mg "NOWHERE" = some (.int (-1) t)
  sFIGURES : ∃ t, mg "FIGURES" = some (.str "0123456789" t)
  rPAIRED : mg "PAIRED" = some (.ref (He.ga K "PAIRED"))
  rWITHIN : mg "WITHIN" = some (.ref (He.ga K "WITHIN"))
  rSIDEWISE : mg "SIDEWISE" = some (.ref (He.ga K "SIDEWISE"))
  rSTORING : mg "STORING" = some (.ref (He.ga K "STORING"))
  rMAKING : mg "MAKING" = some (.ref (He.ga K "MAKING"))
  rNAMING : mg "NAMING" = some (.ref (He.ga K "NAMING"))
  rNOW : mg "NOW" = some (.ref (He.ga K "NOW"))
  rOTHERS : mg "OTHERS" = some (.ref (He.ga K "OTHERS"))
  rFACES : mg "FACES" = some (.ref (He.ga K "FACES"))
  tPAIRED : ∀ H, SqT K H (He.ga K "PAIRED") (paired.map V.str)
  tWITHIN : ∀ H, SqT K H (He.ga K "WITHIN") (within.map V.str)
  tSIDEWISE : ∀ H, SqT K H (He.ga K "SIDEWISE") (sidewise.map V.str)
  tSTORING : ∀ H, SqT K H (He.ga K "STORING") (storing.map V.str)
  tMAKING : ∀ H, SqT K H (He.ga K "MAKING") (making.map V.str)
  tNAMING : ∀ H, SqT K H (He.ga K "NAMING") (naming.map V.str)
  tNOW : ∀ H, SqT K H (He.ga K "NOW") (nowWords.map V.str)
  tOTHERS : ∀ H, SqT K H (He.ga K "OTHERS") (others.map V.str)
  dFACES : ∃ (es : Array DictEntry) (n : Nat), KDict K w (He.ga K "FACES") es n ∧ es.toList.map keyName = (faces.map (·.1)).map some
  hFACES : ∀ k n l, faces.lookup k = some (n, l) → ∃ t, PySem.W.nsIn K (He.ga K "FACES") k = some (some (.ref t)) ∧ ∀ H, SqT K H t [.int n, .int l]
  mFACES : ∀ k, faces.lookup k = none → PySem.W.nsIn K (He.ga K "FACES") k = some none
local macro_rules | `(tactic| walk_at "v") => `(tactic| repeat (with_reducible first
  | refine w_seq ?_ | refine w_next ?_ | refine w_asg ?_ | refine w_gn ?_ | refine w_drop ?_ | refine w_ret ?_ | refine w_retN ?_ | refine w_ifs ?_ | refine w_ife ?_
  | refine w_test ?_ | refine w_tB ?_ | refine w_bl ?_ | refine w_and ?_ | refine w_or ?_ | refine w_not ?_
  | refine w_op ?_ | refine w_un ?_ | refine w_cb ?_ | refine w_cons ?_ | refine w_nil ?_ | refine w_c ?_ | refine w_i0 ?_ | refine w_neg ?_
  | refine w_eqi ?_ | refine w_eqt ?_ | refine w_nei ?_ | refine w_net ?_ | refine w_sl ?_ | refine w_noP ?_ | refine w_part ?_ | refine w_part1 ?_
  | refine w_call ?_ | refine w_lst ?_ | refine w_tup ?_ | refine w_bm ?_ | refine w_bm0 ?_ | refine w_isN ?_ | refine w_notN ?_ | refine w_chain ?_ | refine w_m1 ?_ | refine w_m0 ?_ | refine w_isS ?_ | refine w_starts ?_ | refine w_bmS ?_ | refine w_tyS ?_
  | refine w_var (by with_unfolding_all rfl) ?_))
section
variable {P : Program} {w : World} {K : PySem.W.Frag} {mg : Str → Option Value} {base : Heap}
/-! ### numbers -/
def spRounded : Sp := fun vs H Q _ => ∃ n : Int, vs = [.int n] ∧ Q (.int (rounded n)) H
theorem scRounded : FnScope ["number"] ["number"] (defScope (top 21)) := ⟨rfl, rfl, rfl, by decide +kernel, rfl, by decide +kernel, by decide +kernel⟩
theorem ok_rounded {f : Addr} {fd : FuncData} (F : FnT K "rounded" "rounded" (top 21) [] [] f fd) (g : Gb w K mg) : FnOk P w K mg base (L2N.CX P w) 1 f fd ["number"] spRounded := by
  refine F.ok scRounded (fun vs H Q E h => ?_) (fun cdv A outer s H vs Q E hr h => ?_)
  · obtain ⟨n, rfl, _⟩ := h
    rfl
  · obtain ⟨n, rfl, k⟩ := h
    refine ⟨_, (pss_one (ps_ret (pe_op op_add (pe_op op_modN (pe_op op_sub (pv 0) (pe_gI g.iLEAST)) (pe_gI g.iALL)) (pe_gI g.iLEAST)))), ?_⟩
    walk_at "v"
    refine w_i (by decide) ?_
    walk_at "v"
    rw [Int.fmod_eq_emod_of_nonneg _ (by decide)]
    exact k
def spTruth : Sp := fun vs H Q _ => ∃ b : Bool, vs = [.bl b] ∧ Q (.int (truthI b)) H
theorem scTruth : FnScope ["is_so"] ["is_so"] (defScope (top 23)) := ⟨rfl, rfl, rfl, by decide +kernel, rfl, by decide +kernel, by decide +kernel⟩
theorem ok_truth {f : Addr} {fd : FuncData} (F : FnT K "truth" "truth" (top 23) [] [] f fd) : FnOk P w K mg base (L2N.CX P w) 1 f fd ["is_so"] spTruth := by
  refine F.ok scTruth (fun vs H Q E h => ?_) (fun cdv A outer s H vs Q E hr h => ?_)
  · obtain ⟨n, rfl, _⟩ := h
    rfl
  · obtain ⟨b, rfl, k⟩ := h
    refine ⟨_, (pss_one (ps_ret (pe_ifExp (pt_val (pv 0)) (pe_un un_neg pe_int) pe_int))), ?_⟩
    walk_at "v"
    cases b with
    | true =>
      refine iteT ?_
      walk_at "v"
      exact k
    | false =>
      refine iteF ?_
      walk_at "v"
      exact k
def spCompared : Sp := fun vs H Q _ => ∃ (z : Str) (a b : Int), vs = [.str z, .int a, .int b] ∧ Q (match compared z a b with
  | some t => .bl t
  | none => .non) H
theorem scCompared : FnScope ["word", "one", "other"] ["word", "one", "other"] (defScope (top 27)) := ⟨rfl, rfl, rfl, by decide +kernel, rfl, by decide +kernel, by decide +kernel⟩
theorem ok_compared {f : Addr} {fd : FuncData} (F : FnT K "compared" "compared" (top 27) [] [] f fd) : FnOk P w K mg base (L2N.CX P w) 1 f fd ["word", "one", "other"] spCompared := by
  refine F.ok scCompared (fun vs H Q E h => ?_) (fun cdv A outer s H vs Q E hr h => ?_)
  · obtain ⟨z, a, b, rfl, _⟩ := h
    rfl
  · obtain ⟨z, a, b, rfl, k⟩ := h
    refine ⟨_, (pss_cons (ps_if (pt_cmpR op_eq (pv 0) pe_str (nomark _)) (pss_one (ps_ret (pe_cmpR op_eq (pv 1) (pv 2) (nomark _)))) pss_nil)
      (pss_cons (ps_if (pt_cmpR op_eq (pv 0) pe_str (nomark _)) (pss_one (ps_ret (pe_cmpR op_lt (pv 1) (pv 2) (nomark _)))) pss_nil)
      (pss_one (ps_ret (pe_ifExp (pt_cmpR op_eq (pv 0) pe_str (nomark _)) (pe_cmpR op_gt (pv 1) (pv 2) (nomark _)) pe_non))))), ?_⟩
    unfold compared at k
    walk_at "v"
    refine ite_dec (fun h1 => ?_) (fun h1 => ?_)
    · walk_at "v"
      rw [if_pos h1] at k
      exact k
    · rw [if_neg h1] at k
      walk_at "v"
      refine ite_dec (fun h2 => ?_) (fun h2 => ?_)
      · walk_at "v"
        rw [if_pos h2] at k
        exact k
      · rw [if_neg h2] at k
        walk_at "v"
        refine ite_dec (fun h3 => ?_) (fun h3 => ?_)
        · walk_at "v"
          rw [if_pos h3] at k
          exact k
        · rw [if_neg h3] at k
          walk_at "v"
          exact k
/-! ### deeds on the pile alone -/
/-- hands back a new list, or None -/
def NewL (Q : VK) (H : Hp) : Option (List Int) → Prop
  | none => ∀ H', Same H H' → Q .non H'
  | some ys => ∀ H' p, Same H H' → H p = none → H' p = some (.lst (iv ys)) → Q (.ref p) H'
def spMoved : Sp := fun vs H Q _ => ∃ (z : Str) (a : Addr) (xs : List Int), vs = [.str z, .ref a] ∧ H a = some (.lst (iv xs)) ∧ xs.length ≤ 1000 ∧ NewL Q H (moved z xs)
theorem scMoved : FnScope ["word", "some"] ["word", "some"] (defScope (top 26)) := ⟨rfl, rfl, rfl, by decide +kernel, rfl, by decide +kernel, by decide +kernel⟩
theorem ok_moved {f : Addr} {fd : FuncData} (F : FnT K "moved" "moved" (top 26) [] [] f fd) : FnOk P w K mg base (L2N.CX P w) 1 f fd ["word", "some"] spMoved := by
  refine F.ok scMoved (fun vs H Q E h => ?_) (fun cdv A outer s H vs Q E hr h => ?_)
  · obtain ⟨z, a, xs, rfl, _⟩ := h
    rfl
  · obtain ⟨z, a, xs, rfl, ha, hl, k⟩ := h
    refine ⟨_, (pss_cons (ps_if (pt_cmpR op_eq (pv 0) pe_str (nomark _)) (pss_one (ps_ret (pe_op op_cat (pv 1) (pv 1)))) pss_nil)
      (pss_cons (ps_if (pt_cmpR op_in_seq (pv 0) (pe_tup (pa_cons pe_str (pa_cons pe_str pa_nil))) (by rfl)) (pss_one (ps_ret (pe_lst pa_nil))) pss_nil)
      (pss_cons (ps_if (pt_cmpR op_eq (pv 0) pe_str (nomark _)) (pss_one (ps_ret (pe_revL (pv 1)))) pss_nil)
      (pss_cons (ps_if (pt_cmpR op_eq (pv 0) pe_str (nomark _)) (pss_one (ps_ret (pe_op op_cat (pv 1) (pe_slice sl_list (pv 1) po_none (po_some pe_int))))) pss_nil)
      (pss_cons (ps_if (pt_cmpR op_eq (pv 0) pe_str (nomark _)) (pss_one (ps_ret (pe_op op_cat (pe_slice sl_list (pv 1) (po_some pe_int) po_none) (pe_slice sl_list (pv 1) po_none (po_some pe_int))))) pss_nil)
      (pss_cons (ps_if (pt_cmpR op_eq (pv 0) pe_str (nomark _)) (pss_one (ps_ret (pe_slice sl_list (pv 1) (po_some pe_int) po_none))) pss_nil)
      (pss_one (ps_ret (pe_ifExp (pt_cmpR op_eq (pv 0) pe_str (nomark _)) (pe_op op_cat (pv 1) (pv 1)) pe_non))))))))), ?_⟩
    unfold moved at k
    have two : (iv xs).length + (iv xs).length ≤ sizeLine := by
      rw [iv_len]
      exact Nat.le_trans (show xs.length + xs.length ≤ 2000 by omega) (by decide)
    walk_at "v"
    refine ite_dec (fun h1 => ?_) (fun h1 => ?_)
    · rw [if_pos h1] at k
      walk_at "v"
      refine w_cat ha ha two fun p hp => ?_
      rw [← iv_app]
      exact k _ p (same_new hp) hp upd_same
    rw [if_neg h1] at k
    walk_at "v"
    refine w_inW (ks := ["drop", "2drop"]) (by decide) fun p1 hp1 => ?_
    have s1 : Same H (upd H p1 (.tup ((["drop", "2drop"] : List Str).map V.str))) := same_new hp1
    generalize upd H p1 (.tup ((["drop", "2drop"] : List Str).map V.str)) = H1 at s1
    have ha1 := s1 _ _ ha
    walk_at "v"
    refine ite_dec (fun h2 => ?_) (fun h2 => ?_)
    · rw [if_pos (by simpa using h2)] at k
      walk_at "v"
      exact ⟨by decide, fun p hp => k _ p (s1.trans (same_new hp)) (s1.free hp) upd_same⟩
    rw [if_neg (by simpa using h2)] at k
    walk_at "v"
    refine ite_dec (fun h3 => ?_) (fun h3 => ?_)
    · rw [if_pos h3] at k
      walk_at "v"
      refine w_revL ?_
      walk_at "v"
      refine w_rv (SqL.of ha1) fun p hp => ?_
      rw [iv_rev]
      exact k _ p (s1.trans (same_new hp)) (s1.free hp) upd_same
    rw [if_neg h3] at k
    walk_at "v"
    refine ite_dec (fun h4 => ?_) (fun h4 => ?_)
    · rw [if_pos h4] at k
      walk_at "v"
      refine w_slL (SqL.of ha1) fun q hq => ?_
      rw [cut_to1]
      have s2 : Same H1 (upd H1 q (.lst (iv (xs.take 1)))) := same_new hq
      refine w_cat (s2 _ _ ha1) upd_same (by rw [iv_len, iv_len, List.length_take]; exact Nat.le_trans (show xs.length + min 1 xs.length ≤ 2000 by omega) (by decide)) fun p hp => ?_
      rw [← iv_app]
      exact k _ p ((s1.trans s2).trans (same_new hp)) (s1.free (s2.free hp)) upd_same
    rw [if_neg h4] at k
    walk_at "v"
    refine ite_dec (fun h5 => ?_) (fun h5 => ?_)
    · rw [if_pos h5] at k
      walk_at "v"
      refine w_slL (SqL.of ha1) fun q hq => ?_
      rw [cut_from1]
      have s2 : Same H1 (upd H1 q (.lst (iv (xs.drop 1)))) := same_new hq
      walk_at "v"
      refine w_slL (SqL.of (s2 _ _ ha1)) fun q2 hq2 => ?_
      rw [cut_to1]
      have s3 : Same (upd H1 q (.lst (iv (xs.drop 1)))) (upd (upd H1 q (.lst (iv (xs.drop 1)))) q2 (.lst (iv (xs.take 1)))) := same_new hq2
      refine w_cat (s3 _ _ upd_same) upd_same (by rw [iv_len, iv_len, List.length_take, List.length_drop]; exact Nat.le_trans (show (xs.length - 1) + min 1 xs.length ≤ 2000 by omega) (by decide)) fun p hp => ?_
      rw [← iv_app]
      exact k _ p (((s1.trans s2).trans s3).trans (same_new hp)) (s1.free (s2.free (s3.free hp))) upd_same
    rw [if_neg h5] at k
    walk_at "v"
    refine ite_dec (fun h6 => ?_) (fun h6 => ?_)
    · rw [if_pos h6] at k
      walk_at "v"
      refine w_slL (SqL.of ha1) fun p hp => ?_
      rw [cut_from1]
      exact k _ p (s1.trans (same_new hp)) (s1.free hp) upd_same
    rw [if_neg h6] at k
    walk_at "v"
    refine ite_dec (fun h7 => ?_) (fun h7 => ?_)
    · rw [if_pos h7] at k
      walk_at "v"
      refine w_cat ha1 ha1 two fun p hp => ?_
      rw [← iv_app]
      exact k _ p (s1.trans (same_new hp)) (s1.free hp) upd_same
    rw [if_neg h7] at k
    walk_at "v"
    exact k _ s1
/-- small numbers, no share by nought -/
def RecOk (z : Str) (a b : Int) : Prop := (-(2 ^ 29) < a ∧ a < 2 ^ 29 ∧ -(2 ^ 29) < b ∧ b < 2 ^ 29) ∧ ((z = "/" ∨ z = "mod") → b ≠ 0)
def spReckoned : Sp := fun vs H Q _ => ∃ (z : Str) (a b : Int), vs = [.str z, .int a, .int b] ∧ RecOk z a b ∧ ∀ H', Same H H' → Q (.int (reckoned z a b)) H'
theorem scReckoned : FnScope ["word", "one", "other", "share", "rest"] ["word", "one", "other"] (defScope (top 28)) := ⟨rfl, rfl, rfl, by decide +kernel, rfl, by decide +kernel, by decide +kernel⟩
theorem ok_reckoned {f : Addr} {fd : FuncData} (F : FnT K "reckoned" "reckoned" (top 28) [] [] f fd) (g : Gb w K mg) : FnOk P w K mg base (L2N.CX P w) 1 f fd ["word", "one", "other"] spReckoned := by
  refine F.ok scReckoned (fun vs H Q E h => ?_) (fun cdv A outer s H vs Q E hr h => ?_)
  · obtain ⟨z, a, b, rfl, _⟩ := h
    rfl
  · obtain ⟨z, a, b, rfl, ⟨⟨hb, hn⟩, k⟩⟩ := h
    refine ⟨_, (pss_cons (ps_if (pt_cmpR op_in_seq (pv 0) (pe_tup (pa_cons pe_str (pa_cons pe_str pa_nil))) (by rfl)) (pss_one (ps_ret (pe_ifExp (pt_cmpR op_eq (pv 0) pe_str (nomark _)) (pe_op op_add (pv 1) (pv 2)) (pe_op op_sub (pv 1) (pv 2))))) pss_nil)
      (pss_cons (ps_if (pt_cmpR op_eq (pv 0) pe_str (nomark _)) (pss_one (ps_ret (pe_op op_mul (pv 1) (pv 2)))) pss_nil)
      (pss_cons (ps_if (pt_cmpR op_in_seq (pv 0) (pe_tup (pa_cons pe_str (pa_cons pe_str pa_nil))) (by rfl)) (pss_cons (ps_asg (pe_callB call_dm (by rfl) g.divmod (by decide +kernel) (pa_cons (pv 1) (pa_cons (pv 2) pa_nil))) (pg_tup rfl (pgs_cons (pg_name (i := 3) scReckoned.nd rfl (Or.inl rfl)) (pgs_cons (pg_name (i := 4) scReckoned.nd rfl (Or.inl rfl)) pgs_nil))))
      (pss_one (ps_ret (pe_ifExp (pt_cmpR op_eq (pv 0) pe_str (nomark _)) (pv 3) (pv 4))))) pss_nil)
      (pss_cons (ps_if (pt_cmpR op_eq (pv 0) pe_str (nomark _)) (pss_one (ps_ret (pe_op op_and (pv 1) (pv 2)))) pss_nil)
      (pss_one (ps_ret (pe_ifExp (pt_cmpR op_eq (pv 0) pe_str (nomark _)) (pe_op op_or (pv 1) (pv 2)) (pe_op op_xor (pv 1) (pv 2))))))))), ?_⟩
    unfold reckoned at k
    walk_at "v"
    refine w_inW (ks := ["+", "-"]) (by decide) fun p1 hp1 => ?_
    have s1 : Same H (upd H p1 (.tup ((["+", "-"] : List Str).map V.str))) := same_new hp1
    generalize upd H p1 (.tup ((["+", "-"] : List Str).map V.str)) = H1 at s1
    walk_at "v"
    refine ite_dec (fun h2 => ?_) (fun h2 => ?_)
    · rw [if_pos (by simpa using h2)] at k
      walk_at "v"
      refine ite_dec (fun h3 => ?_) (fun h3 => ?_)
      · rw [if_pos h3] at k
        walk_at "v"
        exact k _ s1
      · rw [if_neg h3] at k
        walk_at "v"
        exact k _ s1
    rw [if_neg (by simpa using h2)] at k
    walk_at "v"
    refine ite_dec (fun h3 => ?_) (fun h3 => ?_)
    · rw [if_pos h3] at k
      walk_at "v"
      exact w_i (.inl ⟨by omega, by omega⟩) (k _ s1)
    rw [if_neg h3] at k
    walk_at "v"
    refine w_inW (ks := ["/", "mod"]) (by decide) fun p2 hp2 => ?_
    have s2 : Same H (upd H1 p2 (.tup ((["/", "mod"] : List Str).map V.str))) := s1.trans (same_new hp2)
    generalize upd H1 p2 (.tup ((["/", "mod"] : List Str).map V.str)) = H2 at s2
    walk_at "v"
    refine ite_dec (fun h4 => ?_) (fun h4 => ?_)
    · have h4' : z = "/" ∨ z = "mod" := by simpa using h4
      rw [if_pos h4'] at k
      walk_at "v"
      refine w_dm ⟨hn h4', by omega⟩ fun p3 hp3 => ?_
      refine ⟨p3, _, rfl, SqT.of upd_same, rfl, _, _, rfl, ?_⟩
      refine ⟨_, _, rfl, ?_⟩
      refine ⟨rfl, ?_⟩
      have s3 := s2.trans (same_new (o := .tup [.int (a.fdiv b), .int (a.fmod b)]) hp3)
      walk_at "v"
      refine ite_dec (fun h5 => ?_) (fun h5 => ?_)
      · rw [if_pos h5] at k
        walk_at "v"
        exact k _ s3
      · rw [if_neg h5] at k
        walk_at "v"
        exact k _ s3
    rw [if_neg (by simpa using h4)] at k
    walk_at "v"
    refine ite_dec (fun h5 => ?_) (fun h5 => ?_)
    · rw [if_pos h5] at k
      walk_at "v"
      exact k _ s2
    rw [if_neg h5] at k
    walk_at "v"
    refine ite_dec (fun h6 => ?_) (fun h6 => ?_)
    · rw [if_pos h6] at k
      walk_at "v"
      exact k _ s2
    rw [if_neg h6] at k
    walk_at "v"
    exact k _ s2
/-- what a deed takes -/
def leftOk (z : Str) (xs : List Int) : Prop := moved z xs ≠ none ∨ (xs.length = 1 ∧ (z = "negate" ∨ z = "invert" ∨ z = "0=")) ∨ (xs.length = 2 ∧ ∀ a b, xs = [a, b] → compared z a b = none → ¬ ((z = "/" ∨ z = "mod") ∧ b = 0) → RecOk z a b)
def spLeftBy : Sp := fun vs H Q _ => ∃ (z : Str) (a : Addr) (xs : List Int), vs = [.str z, .ref a] ∧ H a = some (.lst (iv xs)) ∧ xs.length ≤ 1000 ∧ leftOk z xs ∧ NewL Q H (leftBy z xs)
theorem scLeftBy : FnScope ["word", "some", "found", "one", "answers", "other", "is_so"] ["word", "some"] (defScope (top 29)) := ⟨rfl, rfl, rfl, by decide +kernel, rfl, by decide +kernel, by decide +kernel⟩
theorem ok_left_by {f : Addr} {fd : FuncData} (F : FnT K "left_by" "left_by" (top 29) [] [] f fd) (g : Gb w K mg) (F_moved : CallOk P w K mg base "moved" 1 spMoved []) (F_truth : CallOk P w K mg base "truth" 1 spTruth []) (F_rounded : CallOk P w K mg base "rounded" 1 spRounded [])
    (F_compared : CallOk P w K mg base "compared" 1 spCompared []) (F_reckoned : CallOk P w K mg base "reckoned" 1 spReckoned []) : FnOk P w K mg base (L2N.CX P w) 2 f fd ["word", "some"] spLeftBy := by
  refine F.ok scLeftBy (fun vs H Q E h => ?_) (fun cdv A outer s H vs Q E hr h => ?_)
  · obtain ⟨z, a, xs, rfl, _⟩ := h
    rfl
  · obtain ⟨z, a, xs, rfl, ha, hl, ok, k⟩ := h
    refine ⟨_, (pss_cons (ps_set (i := 2) scLeftBy.nd rfl (Or.inl rfl) (pe_fM F_moved (hr.mono (by first | decide | omega)) (L2N.passes_call (L2N.takes_of rfl rfl rfl rfl) fun _ _ _ _ z => z) (pa_cons (pv 0) (pa_cons (pv 1) pa_nil))))
      (pss_cons (ps_if (pt_cmpR op_notN1 (pv 2) pe_non (nomark _)) (pss_one (ps_ret (pv 2))) pss_nil)
      (pss_cons (ps_if (pt_cmpR op_eq (pe_callB call_ln (by rfl) g.len PySem.boot_len (pa_cons (pv 1) pa_nil)) pe_int (nomark _)) (pss_cons (ps_set (i := 3) scLeftBy.nd rfl (Or.inl rfl) (pe_ix ix_list (pv 1) pe_int (fun _ _ => rfl)))
      (pss_cons (ps_set (i := 4) scLeftBy.nd rfl (Or.inl rfl) (pe_disp (pps_cons pe_str (pe_op op_sub pe_int (pv 3)) (pps_cons pe_str (pe_op op_sub (pe_un un_neg pe_int) (pv 3)) (pps_cons pe_str (pe_fM F_truth (hr.mono (by first | decide | omega)) (L2N.passes_call (L2N.takes_of rfl rfl rfl rfl) fun _ _ _ _ z => z) (pa_cons (pe_cmpR op_eq (pv 3) pe_int (nomark _)) pa_nil)) pps_nil))) (by rfl) (by rfl) (fun z => by cases z) (by decide)))
      (pss_one (ps_ret (pe_lst (pa_cons (pe_fM F_rounded (hr.mono (by first | decide | omega)) (L2N.passes_call (L2N.takes_of rfl rfl rfl rfl) fun _ _ _ _ z => z) (pa_cons (pe_dget (hu_of hr) (pv 4) (pv 0) (fun _ _ => rfl)) pa_nil)) pa_nil)))))) pss_nil)
      (pss_cons (ps_asg (pv 1) (pg_lst rfl (pgs_cons (pg_name (i := 3) scLeftBy.nd rfl (Or.inl rfl)) (pgs_cons (pg_name (i := 5) scLeftBy.nd rfl (Or.inl rfl)) pgs_nil))))
      (pss_cons (ps_set (i := 6) scLeftBy.nd rfl (Or.inl rfl) (pe_fM F_compared (hr.mono (by first | decide | omega)) (L2N.passes_call (L2N.takes_of rfl rfl rfl rfl) fun _ _ _ _ z => z) (pa_cons (pv 0) (pa_cons (pv 3) (pa_cons (pv 5) pa_nil)))))
      (pss_cons (ps_if (pt_cmpR op_notN1 (pv 6) pe_non (nomark _)) (pss_one (ps_ret (pe_lst (pa_cons (pe_fM F_truth (hr.mono (by first | decide | omega)) (L2N.passes_call (L2N.takes_of rfl rfl rfl rfl) fun _ _ _ _ z => z) (pa_cons (pv 6) pa_nil)) pa_nil)))) pss_nil)
      (pss_cons (ps_if (PW.pt (pw_and (pt_cmpR op_in_seq (pv 0) (pe_tup (pa_cons pe_str (pa_cons pe_str pa_nil))) (by rfl)) (pw_and1 (pt_cmpR op_eq (pv 5) pe_int (nomark _))))) (pss_one (ps_ret pe_non)) pss_nil)
      (pss_one (ps_ret (pe_lst (pa_cons (pe_fM F_rounded (hr.mono (by first | decide | omega)) (L2N.passes_call (L2N.takes_of rfl rfl rfl rfl) fun _ _ _ _ z => z) (pa_cons (pe_fM F_reckoned (hr.mono (by first | decide | omega)) (L2N.passes_call (L2N.takes_of rfl rfl rfl rfl) fun _ _ _ _ z => z) (pa_cons (pv 0) (pa_cons (pv 3) (pa_cons (pv 5) pa_nil)))) pa_nil)) pa_nil))))))))))), ?_⟩
    unfold leftBy at k
    walk_at "v"
    refine ⟨z, a, xs, rfl, ha, hl, ?_⟩
    cases em : moved z xs with
    | some ys =>
      rw [em] at k
      intro H1 p s1 hp hp1
      walk_at "v"
      refine iteT ?_
      walk_at "v"
      exact k H1 p s1 hp hp1
    | none =>
      rw [em] at k
      intro H1 s1
      have ha1 := s1 _ _ ha
      walk_at "v"
      refine iteF ?_
      walk_at "v"
      refine w_lnG ha1 ?_
      rw [iv_len]
      walk_at "v"
      match xs, hl, ok, k with
      | _ :: _ :: _ :: _, _, ok, k =>
        exfalso
        rcases ok with h | ⟨h, _⟩ | ⟨h, _⟩
        · exact h em
        · simp at h
        · simp at h
      | [], _, ok, k =>
        exfalso
        rcases ok with h | ⟨h, _⟩ | ⟨h, _⟩
        · exact h em
        · cases h
        · cases h
      | [x], _, ok, k =>
        have hz : z = "negate" ∨ z = "invert" ∨ z = "0=" := by
          rcases ok with h | ⟨_, h⟩ | ⟨h, _⟩
          · exact absurd em h
          · exact h
          · cases h
        refine iteT ?_
        walk_at "v"
        refine w_ixL ha1 (show atI (iv [x]) 0 = some (.int x) from rfl) ?_
        walk_at "v"
        intro p hp
        have s2 : Same H (upd H1 p (.dK [])) := s1.trans (same_new hp)
        refine w_c (w_op (w_c (w_var rfl (w_i0 ?_))))
        refine w_c (w_op (w_un (w_c (w_neg (w_var rfl (w_i0 ?_))))))
        refine w_c (w_call (w_cons (w_op (w_var rfl (w_c (w_eqi (w_nil ?_)))))))
        refine ⟨decide (x = 0), rfl, ?_⟩
        refine ⟨upd_same, [(Sum.inr "negate", .int (0 - x)), (Sum.inr "invert", .int (-1 - x)), (Sum.inr "0=", .int (truthI (decide (x = 0))))], rfl, Nat.le_of_ble_eq_true rfl, ?_⟩
        walk_at "v"
        have e2 : leftBy z [x] = some [rounded (leftOne z x)] := by
          unfold leftBy
          rw [em]
        have k' : NewL Q H (some [rounded (leftOne z x)]) := by
          have k2 := k
          exact k2
        have s3 : Same H (upd (upd H1 p (.dK [])) p (.dK (mergeK [] [(Sum.inr "negate", .int (0 - x)), (Sum.inr "invert", .int (-1 - x)), (Sum.inr "0=", .int (truthI (decide (x = 0))))]))) := by
          rw [upd_upd]
          exact s1.trans (same_new hp)
        refine w_dget rfl rfl upd_same (v := .int (leftOne z x)) ?_ ?_
        · rcases hz with e | e | e <;> subst e <;> kernel_rfl
        walk_at "v"
        refine ⟨_, rfl, ?_⟩
        walk_at "v"
        refine ⟨by show 1 ≤ sizeLine; decide, fun q hq => ?_⟩
        exact k' _ q (s3.trans (same_new hq)) (s3.free hq) upd_same
      | [x, y], _, ok, k =>
        refine iteF ?_
        walk_at "v"
        refine ⟨a, _, rfl, SqL.of ha1, rfl, ?_⟩
        refine ⟨_, _, rfl, ?_⟩
        refine ⟨_, _, rfl, ?_⟩
        refine ⟨rfl, ?_⟩
        walk_at "v"
        refine ⟨z, x, y, rfl, ?_⟩
        have rok : compared z x y = none → ¬ ((z = "/" ∨ z = "mod") ∧ y = 0) → RecOk z x y := by
          rcases ok with h | ⟨h, _⟩ | ⟨_, h⟩
          · exact absurd em h
          · cases h
          · exact h x y rfl
        have k' : NewL Q H (match compared z x y with
            | some t => some [truthI t]
            | none => if (z = "/" ∨ z = "mod") ∧ y = 0 then none else some [rounded (reckoned z x y)]) := k
        cases ec : compared z x y with
        | some t =>
          rw [ec] at k'
          walk_at "v"
          refine iteT ?_
          walk_at "v"
          refine ⟨t, rfl, ?_⟩
          walk_at "v"
          exact ⟨by show 1 ≤ sizeLine; decide, fun q hq => k' _ q (s1.trans (same_new hq)) (s1.free hq) upd_same⟩
        | none =>
          rw [ec] at k'
          walk_at "v"
          refine iteF ?_
          walk_at "v"
          refine w_inW (ks := ["/", "mod"]) (by decide) fun p2 hp2 => ?_
          have s2 : Same H (upd H1 p2 (.tup ((["/", "mod"] : List Str).map V.str))) := s1.trans (same_new hp2)
          generalize upd H1 p2 (.tup ((["/", "mod"] : List Str).map V.str)) = H2 at s2
          walk_at "v"
          refine ite_dec (fun h1 => ?_) (fun h1 => ?_)
          · have h1' : z = "/" ∨ z = "mod" := by simpa using h1
            walk_at "v"
            refine ite_dec (fun h2 => ?_) (fun h2 => ?_)
            · rw [if_pos ⟨h1', h2⟩] at k'
              walk_at "v"
              exact k' _ s2
            · have hn : ¬ ((z = "/" ∨ z = "mod") ∧ y = 0) := fun q => h2 q.2
              rw [if_neg hn] at k'
              walk_at "v"
              refine ⟨z, x, y, rfl, rok ec hn, fun H3 s3 => ?_⟩
              walk_at "v"
              refine ⟨_, rfl, ?_⟩
              walk_at "v"
              exact ⟨by show 1 ≤ sizeLine; decide, fun q hq => k' _ q ((s2.trans s3).trans (same_new hq)) ((s2.trans s3).free hq) upd_same⟩
          · have hn : ¬ ((z = "/" ∨ z = "mod") ∧ y = 0) := fun q => h1 (by simpa using q.1)
            rw [if_neg hn] at k'
            refine iteF ?_
            walk_at "v"
            refine ⟨z, x, y, rfl, rok ec hn, fun H3 s3 => ?_⟩
            walk_at "v"
            refine ⟨_, rfl, ?_⟩
            walk_at "v"
            exact ⟨by show 1 ≤ sizeLine; decide, fun q hq => k' _ q ((s2.trans s3).trans (same_new hq)) ((s2.trans s3).free hq) upd_same⟩
local macro_rules | `(tactic| walk_at "rest") => `(tactic| (
  walk_at "v"
  refine w_inS (by assumption) (by assumption) ?_
  walk_at "v"
  refine ite_dec (fun h7 => ?_) (fun h7 => ?_)
  · walk_at "v"
    refine ite_dec (fun h8 => ?_) (fun h8 => ?_)
    · walk_at "v"
      exact fin_in (by assumption) h7 h8
    · walk_at "v"
      exact fin_out (by assumption) fun q => h8 q.2
  · walk_at "v"
    refine iteF ?_
    walk_at "v"
    exact fin_out (by assumption) fun q => h7 q.1))
def spNumberOf : Sp := fun vs H Q _ => ∃ z : Str, vs = [.str z] ∧ z.length ≤ LIM ∧ Q (optI (numberOf z)) H
theorem scNumberOf : FnScope ["word", "figures", "number"] ["word"] (defScope (top 22)) := ⟨rfl, rfl, rfl, by decide +kernel, rfl, by decide +kernel, by decide +kernel⟩
theorem ok_number_of {f : Addr} {fd : FuncData} (F : FnT K "number_of" "number_of" (top 22) [] [] f fd) (g : Gb w K mg) : FnOk P w K mg base (L2N.CX P w) 1 f fd ["word"] spNumberOf := by
  refine F.ok scNumberOf (fun vs H Q E h => ?_) (fun cdv A outer s H vs Q E hr h => ?_)
  · obtain ⟨z, rfl, _⟩ := h
    rfl
  · obtain ⟨z, rfl, hz, k⟩ := h
    refine ⟨_, (pss_cons (ps_set (i := 1) scNumberOf.nd rfl (Or.inl rfl) (pe_ifExp (pt_val (pe_m1 PySem.F.slot_str_startswith PySem.F.type_str_startswith mt_starts (pv 0) pe_str)) (pe_slice sl_str (pv 0) (po_some pe_int) po_none) (pv 0)))
      (pss_cons (ps_if (PW.pt (pw_or (pt_not (pt_chain op_le op_le pe_int (pe_callB call_lnS (by rfl) g.len PySem.boot_len (pa_cons (pv 1) pa_nil)) pe_int)) (pw_or1 (pt_cmpR op_ne (pe_bm PySem.F.plainAttrs_str PySem.F.slot_str_strip PySem.F.type_str_strip mt_stripC (pv 1) (pa_cons (pe_gS g.sFIGURES) pa_nil)) pe_str (nomark _))))) (pss_one (ps_ret pe_non)) pss_nil)
      (pss_cons (ps_if (PW.pt (pw_and (pt_cmpR op_eq (pe_ix ix_str (pv 1) pe_int (fun _ _ => rfl)) pe_str (nomark _)) (pw_and1 (pt_cmpR op_ne (pv 0) pe_str (nomark _))))) (pss_one (ps_ret pe_non)) pss_nil)
      (pss_cons (ps_set (i := 2) scNumberOf.nd rfl (Or.inl rfl) (pe_callTy call_inS (by rfl) g.int (by decide +kernel) (pa_cons (pv 0) pa_nil)))
      (pss_one (ps_ret (pe_ifExp (pt_chain op_le op_le (pe_gI g.iLEAST) (pv 2) (pe_gI g.iGREATEST)) (pv 2) pe_non))))))), ?_⟩
    have big : z.length ≤ sizeLine := lim_le (by omega)
    have e0 : numberOf z = numFig (decide (z.cps.toList.head? = some 45)) z.cps.toList (if decide (z.cps.toList.head? = some 45) = true then z.cps.toList.tail else z.cps.toList) := numOf_fig _
    rw [e0] at k
    walk_at "v"
    rw [starts_minus]
    by_cases hn : z.cps.toList.head? = some 45
    all_goals
      first
        | rw [decide_eq_true hn] at k ⊢
        | rw [decide_eq_false hn] at k ⊢
      first
        | refine iteT ?_
        | refine iteF ?_
      walk_at "v"
      try refine w_slS big ?_
      walk_at "v"
    · have hf : (cutS z (some 1) none).cps.toList = z.cps.toList.tail := cut_tail z
      have hl : (cutS z (some 1) none).length ≤ z.length := by
        have h1 := len_list (cutS z (some 1) none)
        have h2 := len_list z
        rw [hf, List.length_tail] at h1
        omega
      have hw : z.cps.toList = if true = true then 45 :: (cutS z (some 1) none).cps.toList else (cutS z (some 1) none).cps.toList := by
        rw [if_pos rfl, hf]
        cases e : z.cps.toList with
        | nil =>
          rw [e] at hn
          cases hn
        | cons a r =>
          rw [e] at hn
          cases hn
          rfl
      have k2 : Q (optI (numFig true z.cps.toList (cutS z (some 1) none).cps.toList)) H := by
        rw [hf]
        exact k
      have big2 : (cutS z (some 1) none).length ≤ sizeLine := Nat.le_trans hl big
      have fl := len_list (cutS z (some 1) none)
      have sd := strip_dig (cutS z (some 1) none)
      generalize cutS z (some 1) none = fig at *
      have it := fun h1 h2 h3 => int_word (neg := true) (fig := fig.cps.toList) hw h1 h2 h3
      refine w_lnS' big2 ?_
      walk_at "v"
      rw [fl]
      unfold numFig at k2
      refine ite_dec (fun h1 => ?_) (fun h1 => ?_)
      · walk_at "v"
        refine ite_ndec (fun h2 => ?_) (fun h2 => ?_)
        · refine iteT ?_
          walk_at "v"
          rw [if_neg (fun q => by rw [Bool.and_eq_true, Bool.and_eq_true, decide_eq_true_iff, decide_eq_true_iff] at q; omega)] at k2
          exact k2
        · walk_at "v"
          refine w_strip big2 ?_
          walk_at "v"
          refine ite_ndec (fun h3 => ?_) (fun h3 => ?_)
          · walk_at "v"
            rw [if_neg (fun q => by rw [Bool.and_eq_true] at q; exact h3 (sd.mpr q.2))] at k2
            exact k2
          · walk_at "v"
            have all := sd.mp h3
            have zl : z.length ≤ 640 := by
              have q1 := len_list z
              rw [hw] at q1
              first
                | (rw [if_pos rfl, List.length_cons] at q1; omega)
                | (rw [if_neg (by decide)] at q1; omega)
            have it2 := it all (fun e => by rw [e] at h1; exact absurd h1 (by decide)) (by omega)
            rw [if_pos (by rw [Bool.and_eq_true, Bool.and_eq_true, decide_eq_true_iff, decide_eq_true_iff]; exact ⟨⟨by omega, by omega⟩, all⟩)] at k2
            refine w_first h1 big2 fun c0 ec => ?_
            walk_at "v"
            refine ite_dec (fun h4 => ?_) (fun h4 => ?_)
            · have hc := sign_zero.mp h4
              subst hc
              walk_at "v"
              refine ite_ndec (fun h5 => ?_) (fun h5 => ?_)
              · walk_at "v"
                rw [if_pos (by rw [Bool.and_eq_true, decide_eq_true_iff, decide_eq_true_iff]; exact ⟨ec, fun q => h5 (is_zero.mpr q)⟩)] at k2
                exact k2
              · rw [if_neg (fun q => by rw [Bool.and_eq_true, decide_eq_true_iff, decide_eq_true_iff] at q; exact q.2 (is_zero.mp h5))] at k2
                walk_at "rest"
            · rw [if_neg (fun q => by rw [Bool.and_eq_true, decide_eq_true_iff, decide_eq_true_iff] at q; exact h4 (sign_zero.mpr (Option.some.inj (ec.symm.trans q.1))))] at k2
              refine iteF ?_
              walk_at "rest"
      · walk_at "v"
        refine iteT ?_
        walk_at "v"
        rw [if_neg (fun q => by rw [Bool.and_eq_true, Bool.and_eq_true, decide_eq_true_iff, decide_eq_true_iff] at q; omega)] at k2
        exact k2
    · have hw : z.cps.toList = if false = true then 45 :: z.cps.toList else z.cps.toList := rfl
      have k2 : Q (optI (numFig false z.cps.toList z.cps.toList)) H := k
      have big2 : z.length ≤ sizeLine := big
      have fl := len_list z
      have sd := strip_dig z
      have it := fun h1 h2 h3 => int_word (neg := false) (fig := z.cps.toList) hw h1 h2 h3
      refine w_lnS' big2 ?_
      walk_at "v"
      rw [fl]
      unfold numFig at k2
      refine ite_dec (fun h1 => ?_) (fun h1 => ?_)
      · walk_at "v"
        refine ite_ndec (fun h2 => ?_) (fun h2 => ?_)
        · refine iteT ?_
          walk_at "v"
          rw [if_neg (fun q => by rw [Bool.and_eq_true, Bool.and_eq_true, decide_eq_true_iff, decide_eq_true_iff] at q; omega)] at k2
          exact k2
        · walk_at "v"
          refine w_strip big2 ?_
          walk_at "v"
          refine ite_ndec (fun h3 => ?_) (fun h3 => ?_)
          · walk_at "v"
            rw [if_neg (fun q => by rw [Bool.and_eq_true] at q; exact h3 (sd.mpr q.2))] at k2
            exact k2
          · walk_at "v"
            have all := sd.mp h3
            have zl : z.length ≤ 640 := by
              have q1 := len_list z
              rw [hw] at q1
              first
                | (rw [if_pos rfl, List.length_cons] at q1; omega)
                | (rw [if_neg (by decide)] at q1; omega)
            have it2 := it all (fun e => by rw [e] at h1; exact absurd h1 (by decide)) (by omega)
            rw [if_pos (by rw [Bool.and_eq_true, Bool.and_eq_true, decide_eq_true_iff, decide_eq_true_iff]; exact ⟨⟨by omega, by omega⟩, all⟩)] at k2
            refine w_first h1 big2 fun c0 ec => ?_
            walk_at "v"
            refine ite_dec (fun h4 => ?_) (fun h4 => ?_)
            · have hc := sign_zero.mp h4
              subst hc
              walk_at "v"
              refine ite_ndec (fun h5 => ?_) (fun h5 => ?_)
              · walk_at "v"
                rw [if_pos (by rw [Bool.and_eq_true, decide_eq_true_iff, decide_eq_true_iff]; exact ⟨ec, fun q => h5 (is_zero.mpr q)⟩)] at k2
                exact k2
              · rw [if_neg (fun q => by rw [Bool.and_eq_true, decide_eq_true_iff, decide_eq_true_iff] at q; exact q.2 (is_zero.mp h5))] at k2
                walk_at "rest"
            · rw [if_neg (fun q => by rw [Bool.and_eq_true, decide_eq_true_iff, decide_eq_true_iff] at q; exact h4 (sign_zero.mpr (Option.some.inj (ec.symm.trans q.1))))] at k2
              refine iteF ?_
              walk_at "rest"
      · walk_at "v"
        refine iteT ?_
        walk_at "v"
        rw [if_neg (fun q => by rw [Bool.and_eq_true, Bool.and_eq_true, decide_eq_true_iff, decide_eq_true_iff] at q; omega)] at k2
        exact k2
end
end WH
set_option Elab.async false
set_option linter.all false
set_option maxRecDepth 100000
set_option maxHeartbeats 2000000
namespace WH
open PySem PySem.Spec PyProof.Rows L2
/-! ### a list held against an empty one -/
def rEqE : R2 := fun x y H Q => ∃ p q xs, x = .ref p ∧ y = .ref q ∧ H p = some (.lst xs) ∧ H q = some (.lst []) ∧ Q (.bl (decide (xs = []))) H
def rNeE : R2 := fun x y H Q => ∃ p q xs, x = .ref p ∧ y = .ref q ∧ H p = some (.lst xs) ∧ H q = some (.lst []) ∧ Q (.bl (!decide (xs = []))) H
section
variable {X : Cx}
theorem op_eqE (hu : X.A.units < cLine) : OpR X (compareOp .Eq) rEqE := by
  intro pins s σ H x y v u Q I rx ry h
  obtain ⟨p, q, xs, rfl, rfl, hp, hq, k⟩ := h
  obtain rfl : v = Value.ref p := rx
  obtain rfl : u = Value.ref q := ry
  obtain ⟨_, its, n, r1, _, e1⟩ := I.lstM hp
  obtain ⟨_, its2, n2, r2, _, e2⟩ := I.lstM hq
  cases r2
  have i1 := PySem.IsL.isList e1
  have i2 := PySem.IsL.isList e2
  have l1 := r1.length
  cases xs with
  | nil =>
    cases r1
    have z := PySem.SeqAt.RcAt.lists (A := X.A) (e := fun _ => true) i1 i2 rfl hu (fun j h1 => absurd h1 (by simp))
    exact z X.prog X.w X.xe _ ⟨.bl true, H, I, rfl, k⟩
  | cons a r =>
    cases r1
    have z := PySem.SeqAt.RcAt.lists_lengths (A := X.A) i1 i2 (by simp) hu
    exact z X.prog X.w X.xe _ ⟨.bl false, H, I, rfl, k⟩
theorem op_neE (hu : X.A.units < cLine) : OpR X (compareOp .NotEq) rNeE := by
  intro pins s σ H x y v u Q I rx ry h
  obtain ⟨p, q, xs, rfl, rfl, hp, hq, k⟩ := h
  obtain rfl : v = Value.ref p := rx
  obtain rfl : u = Value.ref q := ry
  obtain ⟨_, its, n, r1, _, e1⟩ := I.lstM hp
  obtain ⟨_, its2, n2, r2, _, e2⟩ := I.lstM hq
  cases r2
  have i1 := PySem.IsL.isList e1
  have i2 := PySem.IsL.isList e2
  cases xs with
  | nil =>
    cases r1
    have z := PySem.SeqAt.RcNeAt.lists (A := X.A) (e := fun _ => true) i1 i2 rfl hu (fun j h1 => absurd h1 (by simp))
    exact z X.prog X.w X.xe _ ⟨.bl false, H, I, rfl, k⟩
  | cons a r =>
    cases r1
    have z := PySem.SeqAt.RcNeAt.lists_lengths (A := X.A) i1 i2 (by simp) hu
    exact z X.prog X.w X.xe _ ⟨.bl true, H, I, rfl, k⟩
end
/-! ### cutting -/
def CutN (o : V) (lo hi : Option Int) (v : V) (H : Hp) (R : Hp → Prop) : Prop := ∃ l b xs ys, o = .ref l ∧ v = .ref b ∧ H l = some (.lst xs) ∧ H b = some (.lst ys) ∧ l ≠ b ∧ xs.length + ys.length ≤ sizeLine ∧ R (upd H l (.lst (cutPut xs ys lo hi)))
theorem sIx_pos {n d : Nat} {i : Int} (hi : 0 ≤ i) : HT.sIx n d (some i) = min i.toNat n := if_neg (by omega)
theorem sIx_neg {n d : Nat} {i : Int} (hi : i < 0) : HT.sIx n d (some i) = (i + (n : Int)).toNat := if_pos hi
theorem sIx_non {n d : Nat} : HT.sIx n d none = d := rfl
theorem take_min {α : Type} (xs : List α) (k : Nat) : xs.take (min k xs.length) = xs.take k := by
  rcases Nat.le_total k xs.length with h | h
  · rw [Nat.min_eq_left h]
  · rw [Nat.min_eq_right h, List.take_of_length_le (Nat.le_refl _), List.take_of_length_le h]
theorem drop_min {α : Type} (xs : List α) (k : Nat) : xs.drop (min k xs.length) = xs.drop k := by
  rcases Nat.le_total k xs.length with h | h
  · rw [Nat.min_eq_left h]
  · rw [Nat.min_eq_right h, List.drop_eq_nil_of_le (Nat.le_refl _), List.drop_eq_nil_of_le h]
theorem cutPut_from {xs ys : List V} {i : Int} (hi : 0 ≤ i) : cutPut xs ys (some i) none = xs.take i.toNat ++ ys := by
  unfold cutPut
  rw [sIx_pos hi, sIx_non, take_min, List.drop_eq_nil_of_le (by omega), List.append_nil]
theorem cutPut_back2 {xs ys : List V} : cutPut xs ys (some (-2)) none = xs.take (xs.length - 2) ++ ys := by
  unfold cutPut
  rw [sIx_neg (by decide), sIx_non, List.drop_eq_nil_of_le (by omega), List.append_nil]
  congr 2
  omega
theorem cutV_from {xs : List V} {i : Int} (hi : 0 ≤ i) : cutV xs (some i) none = xs.drop i.toNat := by
  unfold cutV
  rw [sIx_pos hi, sIx_non, drop_min]
  exact List.take_of_length_le (by rw [List.length_drop]; omega)
theorem cutV_back2 {xs : List V} : cutV xs (some (-2)) none = xs.drop (xs.length - 2) := by
  unfold cutV
  rw [sIx_neg (by decide), sIx_non]
  have e : ((-2 : Int) + (xs.length : Int)).toNat = xs.length - 2 := by omega
  rw [e]
  exact List.take_of_length_le (by rw [List.length_drop]; omega)
theorem cutV_to {xs : List V} {i : Int} (hi : 0 ≤ i) : cutV xs none (some i) = xs.take i.toNat := by
  unfold cutV
  rw [sIx_pos hi, sIx_non, List.drop_zero, Nat.sub_zero, take_min]
section
variable {σ : L2.St} {H H0 : Hp} {c : Cn} {p a : Addr} {S : MS} {U : List Seen} {L : Ls} {Q : VK} {x : Int} {ys : List Int}
theorem w_gcut {to : TE} {tl th : TO} {v : V} {R : L2.St → Hp → Prop} (q : to σ H fun o H1 => tl σ H1 fun lo H2 => th σ H2 fun hi H3 => CutN o lo hi v H3 (R σ)) : gCut to tl th v σ H R := q
theorem HOwn.shrink {o : HO} (W : HOwn c p S U L (upd H0 a o) H) (h : H0 a = none) : HOwn c p S U L H0 H := by
  obtain ⟨hs, G, s, P, e⟩ := W
  have sm : Same H0 (upd H0 a o) := same_new h
  refine ⟨hs, G, ⟨fun b => ?_, fun b v q => s.fr b v (sm b v q), s.own⟩, P, e⟩
  rcases s.dj b with z | z
  · left
    by_cases q : b = a
    · rw [q]
      exact h
    · rw [upd_ne q] at z
      exact z
  · exact .inr z
theorem w_cutC {b : Addr} {i : Int} {R : Hp → Prop} (W : HOwn c p S U L H0 H) (hb : H0 b = some (.lst (iv ys))) (hi : 0 ≤ i) (hz : S.cells.length + ys.length ≤ 2 * LIM)
    (q : ∀ H1, HOwn c p { S with cells := S.cells.take i.toNat ++ ys } U L H0 H1 → R H1) : CutN (.ref L.lc) (some i) none (.ref b) H R := by
  refine ⟨L.lc, b, _, _, rfl, rfl, W.cells, W.same _ _ hb, fun e => (W.notF hb).1 e.symm, by rw [iv_len, iv_len]; exact lim_le hz, q _ ?_⟩
  rw [cutPut_from hi, iv_take, ← iv_app]
  exact W.cells_set
theorem w_cutS {b : Addr} {i : Int} {R : Hp → Prop} (W : HOwn c p S U L H0 H) (hb : H0 b = some (.lst (iv ys))) (hi : 0 ≤ i) (hz : S.stack.length + ys.length ≤ 2 * LIM)
    (q : ∀ H1, HOwn c p { S with stack := S.stack.take i.toNat ++ ys } U L H0 H1 → R H1) : CutN (.ref L.ls) (some i) none (.ref b) H R := by
  refine ⟨L.ls, b, _, _, rfl, rfl, W.stack, W.same _ _ hb, fun e => (W.notF hb).2.1 e.symm, by rw [iv_len, iv_len]; exact lim_le hz, q _ ?_⟩
  rw [cutPut_from hi, iv_take, ← iv_app]
  exact W.stack_set
theorem w_cutS2 {b : Addr} {R : Hp → Prop} (W : HOwn c p S U L H0 H) (hb : H0 b = some (.lst (iv ys))) (hz : S.stack.length + ys.length ≤ 2 * LIM)
    (q : ∀ H1, HOwn c p { S with stack := S.stack.take (S.stack.length - 2) ++ ys } U L H0 H1 → R H1) : CutN (.ref L.ls) (some (-2)) none (.ref b) H R := by
  refine ⟨L.ls, b, _, _, rfl, rfl, W.stack, W.same _ _ hb, fun e => (W.notF hb).2.1 e.symm, by rw [iv_len, iv_len]; exact lim_le hz, q _ ?_⟩
  rw [cutPut_back2, iv_len, iv_take, ← iv_app]
  exact W.stack_set
theorem w_cutB2 {b : Addr} {R : Hp → Prop} (W : HOwn c p S U L H0 H) (hb : H0 b = some (.lst (iv ys))) (hz : S.back.length + ys.length ≤ 2 * LIM)
    (q : ∀ H1, HOwn c p { S with back := S.back.take (S.back.length - 2) ++ ys } U L H0 H1 → R H1) : CutN (.ref L.lb) (some (-2)) none (.ref b) H R := by
  refine ⟨L.lb, b, _, _, rfl, rfl, W.back, W.same _ _ hb, fun e => (W.notF hb).2.2.1 e.symm, by rw [iv_len, iv_len]; exact lim_le hz, q _ ?_⟩
  rw [cutPut_back2, iv_len, iv_take, ← iv_app]
  exact W.back_set
/-! ### the book -/
theorem HouseP.book_set {G : Gh} {h : Hp} {es' : List (Addr × Addr)} {bk : List Ent} (P : HouseP c p S U G h) (ents : All2 (entV c h) es' bk) (nd : (es'.map (·.1)).Nodup) : HouseP c p { S with book := bk } U { G with es := es' } (upd h G.L.lk (.lst (refs es'))) where
  ob := by rw [upd_ne (ne_of P.ob P.book ins_lst)]; exact P.ob
  cells := by rw [upd_ne (ne7 P.ne).lc_lk]; exact P.cells
  stack := by rw [upd_ne (ne7 P.ne).ls_lk]; exact P.stack
  back := by rw [upd_ne (ne7 P.ne).lb_lk]; exact P.back
  told := by rw [upd_ne (ne7 P.ne).lt_lk]; exact P.told
  words := by rw [upd_ne (ne7 P.ne).lw_lk]; exact P.words
  ties := by
    obtain ⟨ts, h1, h2⟩ := P.ties
    exact ⟨ts, by rw [upd_ne (ne7 P.ne).li_lk]; exact h1, ties_put P.book lst_tup h2⟩
  op := opV_put P.book lst_tup P.op
  book := upd_same
  ents := ents_put P.book lst_ins ents
  nd := nd
  ne := P.ne
  un := un_put P.book lst_ins lst_tup P.un
/-- a new object beside -/
theorem HouseP.beside {G : Gh} {h : Hp} {o : HO} (P : HouseP c p S U G h) (ha : h a = none) : HouseP c p S U G (upd h a o) := by
  have sm : Same h (upd h a o) := same_new ha
  exact {
    ob := sm _ _ P.ob
    cells := sm _ _ P.cells
    stack := sm _ _ P.stack
    back := sm _ _ P.back
    told := sm _ _ P.told
    words := sm _ _ P.words
    ties := by
      obtain ⟨ts, h1, h2⟩ := P.ties
      exact ⟨ts, sm _ _ h1, h2.imp fun _ _ _ _ r => sm _ _ r⟩
    op := by
      have h := P.op
      cases e : S.opened with
      | none =>
        rw [e] at h
        exact h
      | some z =>
        rw [e] at h
        obtain ⟨t, e1, e2⟩ := h
        exact ⟨t, e1, sm _ _ e2⟩
    book := sm _ _ P.book
    ents := P.ents.imp fun _ _ _ _ r => sm _ _ r
    nd := P.nd
    ne := P.ne
    un := fun u hu => seenV_same sm (P.un u hu) }
theorem w_cutK {b : Addr} {i : Int} {R : Hp → Prop} (W : HOwn c p S U L H0 H) (hb : H0 b = some (.lst [])) (hi : 0 ≤ i) (hz : S.book.length ≤ 2 * LIM)
    (q : ∀ H1, HOwn c p { S with book := S.book.take i.toNat } U L H0 H1 → R H1) : CutN (.ref L.lk) (some i) none (.ref b) H R := by
  have nf := W.notF hb
  have hb' := W.same _ _ hb
  obtain ⟨hs, G, s, P, rfl⟩ := W
  have hl : (refs G.es).length = S.book.length := (List.length_map ..).trans P.ents.len
  refine ⟨G.L.lk, b, _, _, rfl, rfl, s.own _ _ P.book, hb', fun e => nf.2.2.2.2.2.2.1 e.symm, by rw [hl]; exact lim_le hz, q _ ?_⟩
  rw [cutPut_from hi, List.append_nil]
  have e : (refs G.es).take i.toNat = refs (G.es.take i.toNat) := (List.map_take ..).symm
  rw [e]
  have nd : ((G.es.take i.toNat).map (·.1)).Nodup := by
    rw [List.map_take]
    exact List.Nodup.sublist (List.take_sublist _ _) P.nd
  exact ⟨_, { G with es := G.es.take i.toNat }, s.put P.book, P.book_set (P.ents.take _) nd, rfl⟩
end
end WH
set_option Elab.async false
set_option linter.all false
set_option maxRecDepth 100000
set_option maxHeartbeats 2000000
namespace WH
open PySem PySem.Spec PyProof.Rows L2
abbrev aH (K : PySem.W.Frag) (m : Str) : Addr := He.fAd K ("House", some m)
/-- the error classes -/
structure Er (P : Program) (w : World) (K : PySem.W.Frag) (mg : Str → Option Value) (base : Heap) (cls : Err → Addr) : Prop where
  noWord : ∀ z, WErrN P w K mg base "NoWord" (cls (.noWord z))
  noName : WErr P w K mg base "NoName" (cls .noName)
  short : WErr P w K mg base "Short" (cls .short)
  deep : WErr P w K mg base "Deep" (cls .deep)
  sideShort : WErr P w K mg base "SideShort" (cls .sideShort)
  sideDeep : WErr P w K mg base "SideDeep" (cls .sideDeep)
  byNought : WErr P w K mg base "ByNought" (cls .byNought)
  badCell : WErr P w K mg base "BadCell" (cls .badCell)
  full : WErr P w K mg base "Full" (cls .full)
  tooLong : WErr P w K mg base "TooLong" (cls .tooLong)
  unfit : WErr P w K mg base "Unfit" (cls .unfit)
  onlyWithin : WErr P w K mg base "OnlyWithin" (cls .onlyWithin)
  noForget : WErr P w K mg base "NoForget" (cls .noForget)
  nws : ∀ z z', cls (.noWord z) = cls (.noWord z')
/-- how a deed ends: post tells of what is handed back -/
def Ends {α : Type} (c : Cn) (cls : Err → Addr) (p : Addr) (U : List Seen) (L : Ls) (H0 : Hp) (post : α → MS → Prop) (E : XK) : Out α → Prop
  | .ok a S => post a S
  | .err e S => ∀ H d, H0 d = none → HOwn c p S U L (upd H0 d (.xd (errV S e))) H → E (.ref (cls e)) (some d) H
  | .stuck => False
section
variable {α β : Type} {c : Cn} {cls : Err → Addr} {p : Addr} {U : List Seen} {L : Ls} {H0 H : Hp} {post : α → MS → Prop} {E : XK} {S : MS}
theorem Ends.bind {post : β → MS → Prop} {m : M α} {f : α → M β} (k : WH.Ends c cls p U L H0 post E ((m >>= f) S)) : WH.Ends c cls p U L H0 (fun a S' => WH.Ends c cls p U L H0 post E (f a S')) E (m S) := by
  have k' : WH.Ends c cls p U L H0 post E (M.bind m f S) := k
  unfold M.bind at k'
  cases h : m S with
  | ok a S' =>
    rw [h] at k'
    exact k'
  | err e S' =>
    rw [h] at k'
    exact k'
  | stuck =>
    rw [h] at k'
    exact k'
theorem Ends.imp {o : Out α} {post' : α → MS → Prop} (k : WH.Ends c cls p U L H0 post E o) (h : ∀ a S', o = .ok a S' → post a S' → post' a S') : WH.Ends c cls p U L H0 post' E o := by
  cases o with
  | ok a S' => exact h a S' rfl k
  | err e S' => exact k
  | stuck => exact k
theorem Ends.get {f : MS → M α} (k : WH.Ends c cls p U L H0 post E ((get' >>= f) S)) : WH.Ends c cls p U L H0 post E (f S S) := k
theorem Ends.mod {g : MS → MS} {f : Unit → M α} (k : WH.Ends c cls p U L H0 post E ((modify' g >>= f) S)) : WH.Ends c cls p U L H0 post E (f () (g S)) := k
theorem Ends.pure {a : α} (k : WH.Ends c cls p U L H0 post E ((Pure.pure a : M α) S)) : post a S := k
theorem Ends.must {g : MS → Bool} {f : Unit → M α} (k : WH.Ends c cls p U L H0 post E ((WH.must g >>= f) S)) : g S = true ∧ WH.Ends c cls p U L H0 post E (f () S) := by
  have k := k.bind
  unfold WH.must at k
  by_cases h : g S = true
  · rw [if_pos h] at k
    exact ⟨h, k⟩
  · rw [if_neg h] at k
    exact k.elim
theorem Ends.push {x : Int} {f : Unit → M α} (k : WH.Ends c cls p U L H0 post E ((WH.push x >>= f) S)) : S.stack.length < LIM ∧ WH.Ends c cls p U L H0 post E (f () { S with stack := S.stack ++ [x] }) := by
  have k := k.bind
  unfold WH.push at k
  by_cases h : S.stack.length < LIM
  · rw [if_pos h] at k
    exact ⟨h, k⟩
  · rw [if_neg h] at k
    exact k.elim
theorem Ends.push1 {x : Int} {post : Unit → MS → Prop} (k : WH.Ends c cls p U L H0 post E (WH.push x S)) : S.stack.length < LIM ∧ post () { S with stack := S.stack ++ [x] } := by
  unfold WH.push at k
  by_cases h : S.stack.length < LIM
  · rw [if_pos h] at k
    exact ⟨h, k⟩
  · rw [if_neg h] at k
    exact k.elim
theorem Ends.pop {f : Int → M α} (k : WH.Ends c cls p U L H0 post E ((WH.pop >>= f) S)) : ∃ x, S.stack.getLast? = some x ∧ WH.Ends c cls p U L H0 post E (f x { S with stack := S.stack.dropLast }) := by
  have k := k.bind
  unfold WH.pop at k
  cases h : S.stack.getLast? with
  | some x =>
    rw [h] at k
    exact ⟨x, rfl, k⟩
  | none =>
    rw [h] at k
    exact k.elim
theorem HOwn.less {u : Seen} (W : HOwn c p S (u :: U) L H0 H) : HOwn c p S U L H0 H := by
  obtain ⟨hs, G, s, P, e⟩ := W
  exact ⟨hs, G, s, { P with un := fun v hv => P.un v (List.mem_cons_of_mem _ hv) }, e⟩
theorem Ends.more {u : Seen} {o : Out α} (k : WH.Ends c cls p U L H0 post E o) : WH.Ends c cls p (u :: U) L H0 post E o := by
  cases o with
  | ok a S' => exact k
  | err e S' => exact fun H d h W => k H d h W.less
  | stuck => exact k
/-- a word of the book is kept in sight -/
theorem HOwn.pick (W : HOwn c p S U L H0 H) {i : Nat} {e : Ent} (h : S.book[i]? = some e) : ∃ es b, H L.lk = some (.lst (refs es)) ∧ es[i]? = some b ∧ entV c H b e ∧ HOwn c p S (sE b e :: U) L H0 H := by
  obtain ⟨hs, G, s, P, rfl⟩ := W
  obtain ⟨b, h1, h2⟩ := P.ents.get h
  refine ⟨G.es, b, s.own _ _ P.book, h1, s.own _ _ h2, hs, G, s, { P with un := fun v hv => ?_ }, rfl⟩
  rcases List.mem_cons.mp hv with q | q
  · subst q
    exact ⟨e.beyond, e.now, h2⟩
  · exact P.un v q
/-- a word that is kept in sight, but for beyond and now -/
theorem HOwn.seen (W : HOwn c p S U L H0 H) {b : Addr × Addr} {e : Ent} (h : sE b e ∈ U) : ∃ be n, entV c H b { e with beyond := be, now := n } := by
  obtain ⟨hs, G, s, P, rfl⟩ := W
  obtain ⟨be, n, q⟩ := P.un _ h
  exact ⟨be, n, s.own _ _ q⟩
theorem entV_keep {b : Addr × Addr} {e : Ent} {dx : Addr} {fs fs' : List (Str × V)} (hp : H p = some (.ins c.CH dx fs)) (h : entV c H b e) : entV c (upd H p (.ins c.CH dx fs')) b e := by
  unfold entV at *
  rw [upd_ne]
  · exact h
  · intro q
    rw [q, hp] at h
    injection Option.some.inj h with e1
    exact c.ne e1
end
/-- a method's promise: g its arguments, m what it does, r what it hands back -/
def spOf {α β : Type} (c : Cn) (cls : Err → Addr) (g : β → List V) (m : β → M α) (r : α → V) : Sp := fun vs H Q E => ∃ (p : Addr) (S : MS) (U : List Seen) (L : Ls) (H0 : Hp) (b : β), vs = .ref p :: g b ∧ HOwn c p S U L H0 H ∧
  Ends c cls p U L H0 (fun a S' => ∀ H, HOwn c p S' U L H0 H → Q (r a) H) E (m b S)
/-- an error is raised -/
theorem fin_err {α : Type} {c : Cn} {cls : Err → Addr} {p : Addr} {U : List Seen} {L : Ls} {H0 H : Hp} {S : MS} {post : α → MS → Prop} {E : XK} {o : Out α} {e : Err} (k : Ends c cls p U L H0 post E o) (W : HOwn c p S U L H0 H) (ho : o = .err e S) {d : Addr} (hd : H d = none) {fs : List (Str × V)} (hf : fs = errV S e) : E (.ref (cls e)) (some d) (upd H d (.xd fs)) := by
  subst hf ho
  exact k _ d (W.fresh hd) (W.newF hd)
local macro_rules | `(tactic| walk_at "w") => `(tactic| repeat (with_reducible first
  | refine w_seq ?_ | refine w_next ?_ | refine w_asg ?_ | refine w_gn ?_ | refine w_drop ?_ | refine w_ret ?_ | refine w_retN ?_ | refine w_ifs ?_ | refine w_ife ?_
  | refine w_test ?_ | refine w_tB ?_ | refine w_bl ?_ | refine w_and ?_ | refine w_or ?_ | refine w_not ?_
  | refine w_op ?_ | refine w_un ?_ | refine w_cb ?_ | refine w_cons ?_ | refine w_nil ?_ | refine w_c ?_ | refine w_i0 ?_
  | refine w_cells (by assumption) (by assumption) (by with_unfolding_all rfl) ?_ | refine w_stack (by assumption) (by assumption) (by with_unfolding_all rfl) ?_ | refine w_back (by assumption) (by assumption) (by with_unfolding_all rfl) ?_
  | refine w_most_cells (by assumption) (by assumption) (by with_unfolding_all rfl) ?_ | refine w_most_stack (by assumption) (by assumption) (by with_unfolding_all rfl) ?_ | refine w_book (by assumption) (by assumption) (by with_unfolding_all rfl) ?_
  | refine w_spot (by assumption) (by assumption) (by with_unfolding_all rfl) ?_ | refine w_left (by assumption) (by assumption) (by with_unfolding_all rfl) ?_ | refine w_at (by assumption) (by assumption) (by with_unfolding_all rfl) ?_
  | refine w_told (by assumption) (by assumption) (by with_unfolding_all rfl) ?_ | refine w_words (by assumption) (by assumption) (by with_unfolding_all rfl) ?_ | refine w_mode (by assumption) (by assumption) (by with_unfolding_all rfl) ?_
  | refine w_ties (by assumption) (by assumption) (by with_unfolding_all rfl) ?_ | refine w_many_deeds (by assumption) (by assumption) (by with_unfolding_all rfl) ?_ | refine w_steps (by assumption) (by assumption) (by with_unfolding_all rfl) ?_
  | refine w_lnS (by assumption) ?_ | refine w_lnC (by assumption) ?_ | refine w_lnB (by assumption) ?_ | refine w_lnT (by assumption) ?_ | refine w_lnW (by assumption) ?_ | refine w_lnK (by assumption) ?_
  | refine w_mkw ?_ | refine w_mknw ?_ | refine w_smk ?_ | refine w_smkn ?_
  | refine w_eqi ?_ | refine w_eqt ?_ | refine w_nei ?_ | refine w_net ?_ | refine w_neg ?_ | refine w_sl ?_ | refine w_noP ?_ | refine w_part ?_ | refine w_part1 ?_ | refine w_isN ?_ | refine w_notN ?_ | refine w_chain ?_
  | refine w_self (by assumption) (by with_unfolding_all rfl) (by decide +kernel) ?_ | refine w_call ?_ | refine w_lst ?_ | refine w_tup ?_ | refine w_bm ?_ | refine w_bm0 ?_
  | refine w_tyS' (by assumption) ?_ | refine w_tyC (by assumption) ?_ | refine w_tyB (by assumption) ?_ | refine w_tyT (by assumption) ?_ | refine w_tyK (by assumption) ?_ | refine w_tyI (by assumption) ?_
  | refine w_var (by with_unfolding_all rfl) ?_ | refine w_aug_spot (by assumption) (by assumption) (by with_unfolding_all rfl) ?_ | refine w_aug_left (by assumption) (by assumption) (by with_unfolding_all rfl) ?_ | refine w_aug_at (by assumption) (by assumption) (by with_unfolding_all rfl) ?_
  | refine w_fld ?_ | refine w_sfld ?_ | refine w_gcut ?_ | refine w_rAdd ?_ | refine w_rSub ?_ | refine w_next ?_
  | refine e_kind (by assumption) (by assumption) ?_ | refine e_name (by assumption) (by assumption) ?_ | refine e_number (by assumption) (by assumption) ?_ | refine e_start (by assumption) (by assumption) ?_ | refine e_end (by assumption) (by assumption) ?_
  | refine e_was (by assumption) (by assumption) ?_ | refine e_worth (by assumption) (by assumption) ?_ | refine e_beyond (by assumption) (by assumption) ?_ | refine e_is_now (by assumption) (by assumption) ?_))
section
variable {K : PySem.W.Frag} {c : Cn} {p a : Addr} {S : MS} {U : List Seen} {L : Ls} {H0 H : Hp} {R : Prop}
theorem w_tyS' (W : HOwn c p S U L H0 H) (q : R) : tyV K "list" (.ref L.ls) H ∧ R := w_ty W.stack q
theorem w_tyC (W : HOwn c p S U L H0 H) (q : R) : tyV K "list" (.ref L.lc) H ∧ R := w_ty W.cells q
theorem w_tyB (W : HOwn c p S U L H0 H) (q : R) : tyV K "list" (.ref L.lb) H ∧ R := w_ty W.back q
theorem w_tyT (W : HOwn c p S U L H0 H) (q : R) : tyV K "list" (.ref L.lt) H ∧ R := w_ty W.told q
theorem w_tyK (W : HOwn c p S U L H0 H) (q : R) : tyV K "list" (.ref L.lk) H ∧ R := by
  obtain ⟨es, h, _⟩ := W.book
  exact w_ty h q
theorem w_tyI (W : HOwn c p S U L H0 H) (q : R) : tyV K "list" (.ref L.li) H ∧ R := by
  obtain ⟨ts, h, _⟩ := W.ties
  exact w_ty h q
end
section
variable {P : Program} {w : World} {K : PySem.W.Frag} {mg : Str → Option Value} {base : Heap} {c : Cn} {cls : Err → Addr}
/-! ### need -/
def spNeed (c : Cn) (cls : Err → Addr) : Sp := spOf c cls (fun b : Int × Int => [.int b.1, .int b.2]) (fun b => need b.1 b.2) (fun _ => .non)
theorem sc_need : FnScope ["self", "many", "more"] ["self", "many", "more"] (defScope (inClass (top 38) 1)) := ⟨rfl, rfl, rfl, by decide +kernel, rfl, by decide +kernel, by decide +kernel⟩
theorem ok_need {f : Addr} {fd : FuncData} (F : FnT K "need" "Machine.need" (inClass (top 38) 1) [.int 0] [] f fd) (g : Gb w K mg) (T : HCls K c) (R : Er P w K mg base cls) : FnOk P w K mg base (L2N.CX P w) 4 f fd ["self", "many", "more"] (spNeed c cls) := by
  refine F.ok sc_need (fun vs H Q E h => ?_) (fun cdv A outer s H vs Q E hr h => ?_)
  · obtain ⟨p, S, U, L, H0, b, rfl, _⟩ := h
    rfl
  · obtain ⟨p, S, U, L, H0, b, rfl, W, k⟩ := h
    try dsimp only at k
    refine ⟨_, (pss_cons (ps_if (pt_cmpR op_lt (pe_callB call_ln (by rfl) g.len PySem.boot_len (pa_cons (pe_fld (pv 0) rfl) pa_nil)) (pv 1) (nomark _)) (pss_one (ps_rw R.short rfl (hr.mono (by first | decide | omega)) (L2N.takes_of rfl rfl rfl rfl) (pe_fld (pv 0) rfl))) pss_nil)
      (pss_one (ps_if (pt_cmpR op_gt (pe_op op_add (pe_callB call_ln (by rfl) g.len PySem.boot_len (pa_cons (pe_fld (pv 0) rfl) pa_nil)) (pv 2)) (pe_fld (pv 0) rfl) (nomark _)) (pss_one (ps_rw R.deep rfl (hr.mono (by first | decide | omega)) (L2N.takes_of rfl rfl rfl rfl) (pe_fld (pv 0) rfl))) pss_nil))), ?_⟩
    try dsimp only [cxOf_K]
    walk_at "w"
    refine ite_dec (fun h1 => ?_) (fun h1 => ?_)
    · walk_at "w"
      exact fun d hd => fin_err k W (if_pos h1) hd rfl
    · walk_at "w"
      refine ite_dec (fun h2 => ?_) (fun h2 => ?_)
      · walk_at "w"
        exact fun d hd => fin_err k W (Eq.trans (if_neg h1) (if_pos h2)) hd rfl
      · walk_at "w"
        have e : need b.1 b.2 S = .ok () S := Eq.trans (if_neg h1) (if_neg h2)
        rw [e] at k
        exact k _ W
def spNeedSide (c : Cn) (cls : Err → Addr) : Sp := spOf c cls (fun b : Int × Int => [.int b.1, .int b.2]) (fun b => needSide b.1 b.2) (fun _ => .non)
theorem sc_need_side : FnScope ["self", "many", "more"] ["self", "many", "more"] (defScope (inClass (top 38) 2)) := ⟨rfl, rfl, rfl, by decide +kernel, rfl, by decide +kernel, by decide +kernel⟩
theorem ok_need_side {f : Addr} {fd : FuncData} (F : FnT K "need_side" "Machine.need_side" (inClass (top 38) 2) [.int 0] [] f fd) (g : Gb w K mg) (T : HCls K c) (R : Er P w K mg base cls) : FnOk P w K mg base (L2N.CX P w) 4 f fd ["self", "many", "more"] (spNeedSide c cls) := by
  refine F.ok sc_need_side (fun vs H Q E h => ?_) (fun cdv A outer s H vs Q E hr h => ?_)
  · obtain ⟨p, S, U, L, H0, b, rfl, _⟩ := h
    rfl
  · obtain ⟨p, S, U, L, H0, b, rfl, W, k⟩ := h
    try dsimp only at k
    refine ⟨_, (pss_cons (ps_if (pt_cmpR op_lt (pe_callB call_ln (by rfl) g.len PySem.boot_len (pa_cons (pe_fld (pv 0) rfl) pa_nil)) (pv 1) (nomark _)) (pss_one (ps_rw R.sideShort rfl (hr.mono (by first | decide | omega)) (L2N.takes_of rfl rfl rfl rfl) (pe_fld (pv 0) rfl))) pss_nil)
      (pss_one (ps_if (pt_cmpR op_gt (pe_op op_add (pe_callB call_ln (by rfl) g.len PySem.boot_len (pa_cons (pe_fld (pv 0) rfl) pa_nil)) (pv 2)) (pe_gI g.iSIDE) (nomark _)) (pss_one (ps_rw R.sideDeep rfl (hr.mono (by first | decide | omega)) (L2N.takes_of rfl rfl rfl rfl) (pe_fld (pv 0) rfl))) pss_nil))), ?_⟩
    try dsimp only [cxOf_K]
    walk_at "w"
    refine ite_dec (fun h1 => ?_) (fun h1 => ?_)
    · walk_at "w"
      exact fun d hd => fin_err k W (if_pos h1) hd rfl
    · walk_at "w"
      refine ite_dec (fun h2 => ?_) (fun h2 => ?_)
      · walk_at "w"
        exact fun d hd => fin_err k W (Eq.trans (if_neg h1) (if_pos h2)) hd rfl
      · walk_at "w"
        have e : needSide b.1 b.2 S = .ok () S := Eq.trans (if_neg h1) (if_neg h2)
        rw [e] at k
        exact k _ W
def spNeedCell (c : Cn) (cls : Err → Addr) : Sp := spOf c cls (fun b : Int => [.int b]) needCell (fun _ => .non)
theorem sc_need_cell : FnScope ["self", "address"] ["self", "address"] (defScope (inClass (top 38) 3)) := ⟨rfl, rfl, rfl, by decide +kernel, rfl, by decide +kernel, by decide +kernel⟩
theorem ok_need_cell {f : Addr} {fd : FuncData} (F : FnT K "need_cell" "Machine.need_cell" (inClass (top 38) 3) [] [] f fd) (g : Gb w K mg) (T : HCls K c) (R : Er P w K mg base cls) : FnOk P w K mg base (L2N.CX P w) 4 f fd ["self", "address"] (spNeedCell c cls) := by
  refine F.ok sc_need_cell (fun vs H Q E h => ?_) (fun cdv A outer s H vs Q E hr h => ?_)
  · obtain ⟨p, S, U, L, H0, b, rfl, _⟩ := h
    rfl
  · obtain ⟨p, S, U, L, H0, b, rfl, W, k⟩ := h
    try dsimp only at k
    refine ⟨_, (pss_one (ps_if (pt_not (pt_chain op_le op_lt pe_int (pv 1) (pe_callB call_ln (by rfl) g.len PySem.boot_len (pa_cons (pe_fld (pv 0) rfl) pa_nil)))) (pss_one (ps_rw R.badCell rfl (hr.mono (by first | decide | omega)) (L2N.takes_of rfl rfl rfl rfl) (pe_fld (pv 0) rfl))) pss_nil)), ?_⟩
    try dsimp only [cxOf_K]
    walk_at "w"
    refine ite_dec (fun h1 => ?_) (fun h1 => ?_)
    · walk_at "w"
      refine ite_ndec (fun h2 => ?_) (fun h2 => ?_)
      · walk_at "w"
        exact fun d hd => fin_err k W (if_neg fun q => h2 q.2) hd rfl
      · walk_at "w"
        have e : needCell b S = .ok () S := if_pos ⟨h1, h2⟩
        rw [e] at k
        exact k _ W
    · walk_at "w"
      refine iteT ?_
      walk_at "w"
      exact fun d hd => fin_err k W (if_neg fun q => h1 q.1) hd rfl
def spNeedRoom (c : Cn) (cls : Err → Addr) : Sp := spOf c cls (fun b : Int => [.int b]) needRoom (fun _ => .non)
theorem sc_need_room : FnScope ["self", "many"] ["self", "many"] (defScope (inClass (top 38) 4)) := ⟨rfl, rfl, rfl, by decide +kernel, rfl, by decide +kernel, by decide +kernel⟩
theorem ok_need_room {f : Addr} {fd : FuncData} (F : FnT K "need_room" "Machine.need_room" (inClass (top 38) 4) [] [] f fd) (g : Gb w K mg) (T : HCls K c) (R : Er P w K mg base cls) : FnOk P w K mg base (L2N.CX P w) 4 f fd ["self", "many"] (spNeedRoom c cls) := by
  refine F.ok sc_need_room (fun vs H Q E h => ?_) (fun cdv A outer s H vs Q E hr h => ?_)
  · obtain ⟨p, S, U, L, H0, b, rfl, _⟩ := h
    rfl
  · obtain ⟨p, S, U, L, H0, b, rfl, W, k⟩ := h
    try dsimp only at k
    refine ⟨_, (pss_one (ps_if (PW.pt (pw_or (pt_cmpR op_lt (pv 1) pe_int (nomark _)) (pw_or1 (pt_cmpR op_gt (pe_op op_add (pe_callB call_ln (by rfl) g.len PySem.boot_len (pa_cons (pe_fld (pv 0) rfl) pa_nil)) (pv 1)) (pe_fld (pv 0) rfl) (nomark _))))) (pss_one (ps_rw R.full rfl (hr.mono (by first | decide | omega)) (L2N.takes_of rfl rfl rfl rfl) (pe_fld (pv 0) rfl))) pss_nil)), ?_⟩
    try dsimp only [cxOf_K]
    walk_at "w"
    refine ite_dec (fun h1 => ?_) (fun h1 => ?_)
    · refine iteT ?_
      walk_at "w"
      exact fun d hd => fin_err k W (if_pos (.inl h1)) hd rfl
    · walk_at "w"
      refine ite_dec (fun h2 => ?_) (fun h2 => ?_)
      · walk_at "w"
        exact fun d hd => fin_err k W (if_pos (.inr h2)) hd rfl
      · walk_at "w"
        have e : needRoom b S = .ok () S := if_neg fun q => q.elim h1 h2
        rw [e] at k
        exact k _ W
def spEntry (c : Cn) (cls : Err → Addr) : Sp := fun vs H Q E => ∃ (p : Addr) (S : MS) (U : List Seen) (L : Ls) (H0 : Hp) (n : Int), vs = [.ref p, .int n] ∧ HOwn c p S U L H0 H ∧
  Ends c cls p U L H0 (fun e S' => ∀ H b, HOwn c p S' (sE b e :: U) L H0 H → entV c H b e → Q (.ref b.1) H) E (entryAt n S)
theorem w_bookAt {c : Cn} {p : Addr} {S : MS} {U : List Seen} {L : Ls} {H0 H : Hp} {Q : VK} {n : Int} {e : Ent} (W : HOwn c p S U L H0 H) (hn : 0 ≤ n) (he : S.book[n.toNat]? = some e) (q : ∀ b, HOwn c p S (sE b e :: U) L H0 H → entV c H b e → Q (.ref b.1) H) : rIxL K (.ref L.lk) (.int n) H Q := by
  obtain ⟨es, b, h1, h2, h3, h4⟩ := W.pick he
  refine w_ixL h1 ?_ (q b h4 h3)
  have h5 : (refs es)[n.toNat]? = some (.ref b.1) := by
    unfold refs
    rw [List.getElem?_map, h2]
    rfl
  have h6 := atI_nat h5
  rw [Int.toNat_of_nonneg hn] at h6
  exact h6
theorem sc_entry : FnScope ["self", "number"] ["self", "number"] (defScope (inClass (top 38) 5)) := ⟨rfl, rfl, rfl, by decide +kernel, rfl, by decide +kernel, by decide +kernel⟩
theorem ok_entry {f : Addr} {fd : FuncData} (F : FnT K "entry" "Machine.entry" (inClass (top 38) 5) [] [] f fd) (g : Gb w K mg) (T : HCls K c) (R : Er P w K mg base cls) : FnOk P w K mg base (L2N.CX P w) 4 f fd ["self", "number"] (spEntry c cls) := by
  refine F.ok sc_entry (fun vs H Q E h => ?_) (fun cdv A outer s H vs Q E hr h => ?_)
  · obtain ⟨p, S, U, L, H0, b, rfl, _⟩ := h
    rfl
  · obtain ⟨p, S, U, L, H0, b, rfl, W, k⟩ := h
    try dsimp only at k
    refine ⟨_, (pss_cons (ps_if (pt_not (pt_chain op_le op_lt pe_int (pv 1) (pe_callB call_ln (by rfl) g.len PySem.boot_len (pa_cons (pe_fld (pv 0) rfl) pa_nil)))) (pss_one (ps_rw R.badCell rfl (hr.mono (by first | decide | omega)) (L2N.takes_of rfl rfl rfl rfl) (pe_fld (pv 0) rfl))) pss_nil)
      (pss_one (ps_ret (pe_ix ix_list (pe_fld (pv 0) rfl) (pv 1) (fun _ _ => rfl))))), ?_⟩
    try dsimp only [cxOf_K]
    walk_at "w"
    refine ite_dec (fun h1 => ?_) (fun h1 => ?_)
    · walk_at "w"
      refine ite_ndec (fun h2 => ?_) (fun h2 => ?_)
      · walk_at "w"
        exact fun d hd => fin_err k W (if_neg fun q => h2 q.2) hd rfl
      · walk_at "w"
        have e1 : entryAt b S = _ := if_pos ⟨h1, h2⟩
        rw [e1] at k
        cases e2 : S.book[b.toNat]? with
        | none =>
          rw [e2] at k
          exact k.elim
        | some e =>
          rw [e2] at k
          exact w_bookAt W h1 e2 fun b W1 h => k _ b W1 h
    · walk_at "w"
      refine iteT ?_
      walk_at "w"
      exact fun d hd => fin_err k W (if_neg fun q => h1 q.1) hd rfl
theorem need_ok {m n : Int} {S S1 : MS} {u : Unit} (h : need m n S = .ok u S1) : S1 = S ∧ m ≤ (S.stack.length : Int) ∧ (S.stack.length : Int) + n ≤ S.ms := by
  unfold need at h
  by_cases h1 : (S.stack.length : Int) < m
  · rw [if_pos h1] at h
    cases h
  · rw [if_neg h1] at h
    by_cases h2 : S.ms < (S.stack.length : Int) + n
    · rw [if_pos h2] at h
      cases h
    · rw [if_neg h2] at h
      injection h with _ e
      exact ⟨e.symm, by omega, by omega⟩
theorem needSide_ok {m n : Int} {S S1 : MS} {u : Unit} (h : needSide m n S = .ok u S1) : S1 = S ∧ m ≤ (S.back.length : Int) ∧ (S.back.length : Int) + n ≤ 32 := by
  unfold needSide at h
  by_cases h1 : (S.back.length : Int) < m
  · rw [if_pos h1] at h
    cases h
  · rw [if_neg h1] at h
    by_cases h2 : 32 < (S.back.length : Int) + n
    · rw [if_pos h2] at h
      cases h
    · rw [if_neg h2] at h
      injection h with _ e
      exact ⟨e.symm, by omega, by omega⟩
theorem needCell_ok {m : Int} {S S1 : MS} {u : Unit} (h : needCell m S = .ok u S1) : S1 = S ∧ 0 ≤ m ∧ m < (S.cells.length : Int) := by
  unfold needCell at h
  by_cases h1 : 0 ≤ m ∧ m < (S.cells.length : Int)
  · rw [if_pos h1] at h
    injection h with _ e
    exact ⟨e.symm, h1⟩
  · rw [if_neg h1] at h
    cases h
theorem needRoom_ok {m : Int} {S S1 : MS} {u : Unit} (h : needRoom m S = .ok u S1) : S1 = S ∧ 0 ≤ m ∧ (S.cells.length : Int) + m ≤ S.mc := by
  unfold needRoom at h
  by_cases h1 : m < 0 ∨ S.mc < (S.cells.length : Int) + m
  · rw [if_pos h1] at h
    cases h
  · rw [if_neg h1] at h
    injection h with _ e
    exact ⟨e.symm, by omega, by omega⟩
theorem entryAt_ok {n : Int} {S S1 : MS} {e : Ent} (h : entryAt n S = .ok e S1) : S1 = S ∧ 0 ≤ n ∧ S.book[n.toNat]? = some e := by
  unfold entryAt at h
  by_cases h1 : 0 ≤ n ∧ n < (S.book.length : Int)
  · rw [if_pos h1] at h
    cases h2 : S.book[n.toNat]? with
    | none =>
      rw [h2] at h
      cases h
    | some e' =>
      rw [h2] at h
      injection h with a b
      exact ⟨b.symm, h1.1, by rw [a]⟩
  · rw [if_neg h1] at h
    cases h
theorem last_app {α : Type} {xs : List α} {x : α} (h : xs.getLast? = some x) : xs = xs.dropLast ++ [x] := by
  have hne : xs ≠ [] := fun e => by
    rw [e] at h
    cases h
  rw [List.getLast?_eq_some_getLast hne] at h
  have e := List.dropLast_concat_getLast hne
  rw [Option.some.inj h] at e
  exact e.symm
theorem two_last {xs : List Int} (h : 2 ≤ (xs.length : Int)) : ∃ x y, xs.getLast? = some x ∧ xs.dropLast.getLast? = some y ∧ xs = xs.dropLast.dropLast ++ [y, x] := by
  obtain ⟨x, hx⟩ := last_some (xs := xs) (by omega)
  obtain ⟨y, hy⟩ := last_some (xs := xs.dropLast) (by rw [List.length_dropLast]; omega)
  refine ⟨x, y, hx, hy, ?_⟩
  have e1 : xs = xs.dropLast ++ [x] := (last_app hx)
  have e2 : xs.dropLast = xs.dropLast.dropLast ++ [y] := (last_app hy)
  rw [e2, List.append_assoc] at e1
  exact e1
theorem at_last2 {xs : List Int} {y : Int} (h : 2 ≤ (xs.length : Int)) (hy : xs.dropLast.getLast? = some y) : atI (iv xs) (-2) = some (.int y) := by
  obtain ⟨x, y', hx, hy', e⟩ := two_last h
  rw [hy] at hy'
  cases hy'
  have hl : (iv xs).length = xs.length := iv_len xs
  unfold atI ixN
  rw [if_neg (by decide), if_pos (by omega)]
  show (iv xs)[((-2 : Int) + ((iv xs).length : Int)).toNat]? = some (.int y)
  rw [hl, show ((-2 : Int) + (xs.length : Int)).toNat = xs.length - 2 by omega]
  refine iv_get ?_
  have l2 : xs.dropLast.dropLast.length = xs.length - 2 := by
    rw [List.length_dropLast, List.length_dropLast]
    omega
  rw [e]
  rw [show (xs.dropLast.dropLast ++ [y, x]).length - 2 = xs.dropLast.dropLast.length by rw [List.length_append]; simp]
  rw [List.getElem?_append_right (Nat.le_refl _), Nat.sub_self]
  rfl
section
variable {K : PySem.W.Frag} {c : Cn} {p a : Addr} {S : MS} {U : List Seen} {L : Ls} {H0 H : Hp} {Q : VK} {x : Int}
theorem w_backTop (W : HOwn c p S U L H0 H) (h : S.back.getLast? = some x) (q : Q (.int x) H) : rIxL K (.ref L.lb) (.int (-1)) H Q := w_ixL W.back (at_last (iv_last h)) q
theorem w_backLow (W : HOwn c p S U L H0 H) (h2 : 2 ≤ (S.back.length : Int)) (h : S.back.dropLast.getLast? = some x) (q : Q (.int x) H) : rIxL K (.ref L.lb) (.int (-2)) H Q := w_ixL W.back (at_last2 h2 h) q
theorem w_stackTop (W : HOwn c p S U L H0 H) (h : S.stack.getLast? = some x) (q : Q (.int x) H) : rIxL K (.ref L.ls) (.int (-1)) H Q := w_ixL W.stack (at_last (iv_last h)) q
theorem w_cellAt (W : HOwn c p S U L H0 H) (h0 : 0 ≤ x) (h : x < (S.cells.length : Int)) (q : Q (.int (cellAt S x)) H) : rIxL K (.ref L.lc) (.int x) H Q := by
  have h1 : x.toNat < S.cells.length := by omega
  have h2 : S.cells[x.toNat]? = some (cellAt S x) := by
    unfold cellAt
    rw [List.getD_eq_getElem?_getD, List.getElem?_eq_getElem h1]
    rfl
  have h3 := atI_nat (iv_get h2)
  rw [Int.toNat_of_nonneg h0] at h3
  exact w_ixL W.cells h3 q
end
/-! ### forgetting, going -/
def spForgetFrom (c : Cn) (cls : Err → Addr) : Sp := spOf c cls (fun b : Int => [.int b]) forgetFrom (fun _ => .non)
theorem sc_forget_from : FnScope ["self", "number"] ["self", "number"] (defScope (inClass (top 38) 10)) := ⟨rfl, rfl, rfl, by decide +kernel, rfl, by decide +kernel, by decide +kernel⟩
theorem ok_forget_from {f : Addr} {fd : FuncData} (F : FnT K "forget_from" "Machine.forget_from" (inClass (top 38) 10) [] [] f fd) (T : HCls K c) (R : Er P w K mg base cls) : FnOk P w K mg base (L2N.CX P w) 4 f fd ["self", "number"] (spForgetFrom c cls) := by
  refine F.ok sc_forget_from (fun vs H Q E h => ?_) (fun cdv A outer s H vs Q E hr h => ?_)
  · obtain ⟨p, S, U, L, H0, b, rfl, _⟩ := h
    rfl
  · obtain ⟨p, S, U, L, H0, b, rfl, W, k⟩ := h
    try dsimp only at k
    refine ⟨_, (pss_cons (ps_asg (pe_lst pa_nil) (pg_cut (pe_fld (pv 0) rfl) (po_some (pe_fld (pe_ix ix_list (pe_fld (pv 0) rfl) (pv 1) (fun _ _ => rfl)) rfl)) po_none))
      (pss_one (ps_asg (pe_lst pa_nil) (pg_cut (pe_fld (pv 0) rfl) (po_some (pv 1)) po_none)))), ?_⟩
    try dsimp only [cxOf_K]
    unfold forgetFrom at k
    cases e2 : S.book[b.toNat]? with
    | none =>
      rw [e2] at k
      exact k.elim
    | some e =>
      rw [e2] at k
      dsimp only at k
      by_cases hb : 0 ≤ b ∧ 0 ≤ e.start ∧ S.book.length ≤ LIM ∧ S.cells.length ≤ LIM
      rotate_left
      · rw [if_neg hb] at k
        exact k.elim
      rw [if_pos hb] at k
      walk_at "w"
      refine ⟨Nat.zero_le _, fun q hq => ?_⟩
      have W1 := W.newF (u := .lst []) hq
      have hq0 := W.fresh hq
      generalize upd H q (.lst []) = H1 at W1 ⊢
      walk_at "w"
      refine w_bookAt W1 hb.1 e2 fun b1 W2 he => ?_
      walk_at "w"
      refine w_cutC (ys := []) W1 upd_same hb.2.1 (by have := hb.2.2.2; simp; omega) fun H2 W3 => ?_
      replace W3 := W3.shrink hq0
      rw [List.append_nil] at W3
      walk_at "w"
      refine ⟨Nat.zero_le _, fun q2 hq2 => ?_⟩
      have W4 := W3.newF (u := .lst []) hq2
      have hq3 := W3.fresh hq2
      generalize upd H2 q2 (.lst []) = H3 at W4 ⊢
      walk_at "w"
      refine w_cutK W4 upd_same hb.1 (by have := hb.2.2.1; dsimp only; omega) fun H5 W5 => ?_
      exact k _ (W5.shrink hq3)
end
/-! ### calls of the looks -/
section
variable {α : Type} {c : Cn} {cls : Err → Addr} {p : Addr} {U : List Seen} {L : Ls} {H0 H : Hp} {post : α → MS → Prop} {E : XK} {S : MS} {m n : Int} {f : Unit → M α} {Q' : VK}
theorem c_need (W : HOwn c p S U L H0 H) (k : Ends c cls p U L H0 post E ((need m n >>= f) S)) (q : ∀ H1, HOwn c p S U L H0 H1 → m ≤ (S.stack.length : Int) → (S.stack.length : Int) + n ≤ S.ms → Ends c cls p U L H0 post E (f () S) → Q' .non H1) : spNeed c cls [.ref p, .int m, .int n] H Q' E :=
  ⟨p, S, U, L, H0, (m, n), rfl, W, k.bind.imp fun _ S1 eo k1 H1 W1 => by
    obtain ⟨e, h1, h2⟩ := need_ok eo
    rw [e] at W1 k1
    exact q H1 W1 h1 h2 k1⟩
theorem c_needSide (W : HOwn c p S U L H0 H) (k : Ends c cls p U L H0 post E ((needSide m n >>= f) S)) (q : ∀ H1, HOwn c p S U L H0 H1 → m ≤ (S.back.length : Int) → (S.back.length : Int) + n ≤ 32 → Ends c cls p U L H0 post E (f () S) → Q' .non H1) : spNeedSide c cls [.ref p, .int m, .int n] H Q' E :=
  ⟨p, S, U, L, H0, (m, n), rfl, W, k.bind.imp fun _ S1 eo k1 H1 W1 => by
    obtain ⟨e, h1, h2⟩ := needSide_ok eo
    rw [e] at W1 k1
    exact q H1 W1 h1 h2 k1⟩
theorem c_needCell (W : HOwn c p S U L H0 H) (k : Ends c cls p U L H0 post E ((needCell m >>= f) S)) (q : ∀ H1, HOwn c p S U L H0 H1 → 0 ≤ m → m < (S.cells.length : Int) → Ends c cls p U L H0 post E (f () S) → Q' .non H1) : spNeedCell c cls [.ref p, .int m] H Q' E :=
  ⟨p, S, U, L, H0, m, rfl, W, k.bind.imp fun _ S1 eo k1 H1 W1 => by
    obtain ⟨e, h1, h2⟩ := needCell_ok eo
    rw [e] at W1 k1
    exact q H1 W1 h1 h2 k1⟩
theorem c_needRoom (W : HOwn c p S U L H0 H) (k : Ends c cls p U L H0 post E ((needRoom m >>= f) S)) (q : ∀ H1, HOwn c p S U L H0 H1 → 0 ≤ m → (S.cells.length : Int) + m ≤ S.mc → Ends c cls p U L H0 post E (f () S) → Q' .non H1) : spNeedRoom c cls [.ref p, .int m] H Q' E :=
  ⟨p, S, U, L, H0, m, rfl, W, k.bind.imp fun _ S1 eo k1 H1 W1 => by
    obtain ⟨e, h1, h2⟩ := needRoom_ok eo
    rw [e] at W1 k1
    exact q H1 W1 h1 h2 k1⟩
theorem c_entry {f : Ent → M α} (W : HOwn c p S U L H0 H) (k : Ends c cls p U L H0 post E ((entryAt m >>= f) S)) (q : ∀ H1 b e, HOwn c p S (sE b e :: U) L H0 H1 → entV c H1 b e → 0 ≤ m → S.book[m.toNat]? = some e → Ends c cls p U L H0 post E (f e S) → Q' (.ref b.1) H1) : spEntry c cls [.ref p, .int m] H Q' E :=
  ⟨p, S, U, L, H0, m, rfl, W, k.bind.imp fun e S1 eo k1 H1 b W1 he => by
    obtain ⟨e1, h1, h2⟩ := entryAt_ok eo
    rw [e1] at W1 k1
    exact q H1 b e W1 he h1 h2 k1⟩
theorem HOwn.up {H' : Hp} (W : HOwn c p S U L H0 H) (s : Same H H') : HOwn c p S U L H0 H' := by
  obtain ⟨hs, G, z, P, e⟩ := W
  exact ⟨hs, G, ⟨z.dj, z.fr.trans s, z.own.trans s⟩, P, e⟩
/-- a new object of the heap goes to the frame -/
theorem HOwn.gain {H' : Hp} {a : Addr} {o : HO} (W : HOwn c p S U L H0 H) (s : Same H H') (h : H a = none) (h' : H' a = some o) : HOwn c p S U L (upd H0 a o) H' := by
  obtain ⟨hs, G, z, P, e⟩ := W
  have n0 := z.fr.free h
  have ns := z.own.free h
  refine ⟨hs, G, ⟨fun b => ?_, fun b v q => ?_, z.own.trans s⟩, P, e⟩
  · by_cases e : b = a
    · rw [e]
      exact .inr ns
    · rw [upd_ne e]
      exact z.dj b
  · by_cases e : b = a
    · rw [e, upd_same] at q
      rw [e, h', q]
    · rw [upd_ne e] at q
      exact s _ _ (z.fr b v q)
end
end WH
set_option Elab.async false
set_option linter.all false
set_option maxRecDepth 100000
set_option maxHeartbeats 2000000
namespace WH
open PySem PySem.Spec PyProof.Rows L2
section
variable {σ : L2.St} {H : Hp} {K : PySem.W.Frag} {x y : V} {a : Addr} {i j n : Nat} {R : L2.St → Hp → Prop}
theorem w_tup2 (h : SqT K H a [x, y]) (hn : n = 2) (q : R ((σ.set i (some x)).set j (some y)) H) : gTup K n (gCons (gName i) (gCons (gName j) gNil)) (.ref a) σ H R := by
  subst hn
  exact ⟨a, _, rfl, h, rfl, _, _, rfl, _, _, rfl, rfl, q⟩
theorem w_augS {D : L2.Ends} {to ti te : TE} {tget : V → V → Hp → VK → Prop} {tip : TIp} {tset : TSet} (q : to σ H fun o H1 => ti σ H1 fun i H2 => tget o i H2 fun x H3 => te σ H3 fun y H4 => tip x y H4 fun z H5 => tset o i z H5 fun H6 => D.nx σ H6) : tAugS to ti te tget tip tset D σ H := q
theorem w_gsub {to ti : TE} {t : TSet} {v : V} {R : L2.St → Hp → Prop} (q : to σ H fun o H1 => ti σ H1 fun i H2 => t o i v H2 fun H3 => R σ H3) : gSub to ti t v σ H R := q
theorem w_ipI {f : Int → Int → Int} {i j : Int} {Q : VK} (q : Q (.int (f i j)) H) : ipI f (.int i) (.int j) H Q := ⟨i, j, rfl, rfl, q⟩
theorem set_last {xs : List Int} {x z : Int} (h : xs.getLast? = some x) : (iv xs).set (xs.length - 1) (.int z) = iv (xs.dropLast ++ [z]) := by
  have e := last_app h
  have hl : xs.length - 1 = xs.dropLast.length := by rw [List.length_dropLast]
  rw [hl]
  generalize xs.dropLast = ys at e ⊢
  subst e
  rw [iv_app, iv_app, List.set_append_right _ _ (by rw [iv_len]; exact Nat.le_refl _), iv_len, Nat.sub_self]
  rfl
theorem w_rBackB {c : Cn} {p : Addr} {S : MS} {U : List Seen} {L : Ls} {H0 : Hp} {x : Int} {Q : VK} (W : HOwn c p S U L H0 H) (h : S.back.getLast? = some x) (q : Q (.int x) H) : rBack K (.ref L.lb) (.int (-1)) H Q :=
  ⟨_, _, _, _, rfl, rfl, by decide, SqL.of W.back, at_last (iv_last h), q⟩
theorem w_setB {c : Cn} {p : Addr} {S : MS} {U : List Seen} {L : Ls} {H0 : Hp} {x z : Int} {R : Hp → Prop} (W : HOwn c p S U L H0 H) (h : S.back.getLast? = some x) (q : ∀ H1, HOwn c p { S with back := S.back.dropLast ++ [z] } U L H0 H1 → R H1) : rSetL (.ref L.lb) (.int (-1)) (.int z) H R := by
  have hne : S.back.length ≠ 0 := fun e => by
    rw [List.length_eq_zero_iff.mp e] at h
    cases h
  refine ⟨L.lb, _, -1, S.back.length - 1, rfl, rfl, W.back, ?_, q _ ?_⟩
  · rw [iv_len]
    unfold ixN
    rw [if_neg (by decide), if_pos (by omega)]
    congr 1
    omega
  · rw [set_last h]
    exact W.back_set
theorem kind_ne {a b : Kind} (h : a ≠ b) : a.str ≠ b.str := by
  cases a <;> cases b <;> first | exact absurd rfl h | decide
theorem faces_mem {z : Str} {n l : Int} : ∀ {fs : List (Str × Int × Int)}, fs.lookup z = some (n, l) → (z, n, l) ∈ fs
  | [], h => by cases h
  | (k, v) :: r, h => by
    have h' : (match z == k with | true => some v | false => r.lookup z) = some (n, l) := h
    cases e : z == k with
    | true =>
      rw [e] at h'
      have e2 : z = k := by simpa using e
      cases h'
      subst e2
      exact List.mem_cons_self
    | false =>
      rw [e] at h'
      exact List.mem_cons_of_mem _ (faces_mem h')
def faceOk (p : Str × Int × Int) : Bool := decide (1 ≤ p.2.1) && decide (p.2.1 ≤ 3) &&
  (decide (p.1 = "dup" ∨ p.1 = "drop" ∨ p.1 = "2drop" ∨ p.1 = "swap" ∨ p.1 = "over" ∨ p.1 = "rot" ∨ p.1 = "nip" ∨ p.1 = "2dup") || (decide (p.2.1 = 1) && decide (p.1 = "negate" ∨ p.1 = "invert" ∨ p.1 = "0=")) || decide (p.2.1 = 2))
theorem faces_all : faces.all faceOk = true := by decide +kernel
theorem faces_is {z : Str} {n l : Int} (h : faces.lookup z = some (n, l)) : (1 ≤ n ∧ n ≤ 3) ∧ ((z = "dup" ∨ z = "drop" ∨ z = "2drop" ∨ z = "swap" ∨ z = "over" ∨ z = "rot" ∨ z = "nip" ∨ z = "2dup") ∨ (n = 1 ∧ (z = "negate" ∨ z = "invert" ∨ z = "0=")) ∨ n = 2) := by
  have h1 := List.all_eq_true.mp faces_all _ (faces_mem h)
  unfold faceOk at h1
  dsimp only at h1
  rw [Bool.and_eq_true, Bool.and_eq_true, Bool.or_eq_true, Bool.or_eq_true, Bool.and_eq_true, decide_eq_true_iff, decide_eq_true_iff, decide_eq_true_iff, decide_eq_true_iff, decide_eq_true_iff, decide_eq_true_iff] at h1
  refine ⟨h1.1, ?_⟩
  rcases h1.2 with (q | q) | q
  · exact .inl q
  · exact .inr (.inl q)
  · exact .inr (.inr q)
theorem faces_n {z : Str} {n l : Int} (h : faces.lookup z = some (n, l)) : 1 ≤ n ∧ n ≤ 3 := (faces_is h).1
theorem moved_len {z : Str} {xs : List Int} : ∀ ys, moved z xs = some ys → ys.length ≤ 2 * xs.length := by
  intro ys h
  unfold moved at h
  repeat' split at h
  all_goals
    cases h <;> (simp only [List.length_append, List.length_take, List.length_drop, List.length_reverse, List.length_nil] <;> omega)
theorem leftBy_len {z : Str} {xs : List Int} : ∀ ys, leftBy z xs = some ys → ys.length ≤ 2 * xs.length + 2 := by
  intro ys h
  unfold leftBy at h
  cases e : moved z xs with
  | some zs =>
    rw [e] at h
    cases h
    have := moved_len _ e
    omega
  | none =>
    rw [e] at h
    dsimp only at h
    split at h
    · cases h
      all_goals simp
    · split at h
      · cases h
        all_goals simp
      · split at h
        · cases h
        · cases h
          all_goals simp
    · cases h
theorem leftOk_of {z : Str} {n l : Int} {xs : List Int} (h : faces.lookup z = some (n, l)) (hl : (xs.length : Int) = n) (hb : n ≤ 2 → ∀ x ∈ xs, -(2 ^ 29) < x ∧ x < 2 ^ 29) : leftOk z xs := by
  rcases (faces_is h).2 with q | ⟨q, r⟩ | q
  · left
    unfold moved
    rcases q with e | e | e | e | e | e | e | e <;> subst e <;> simp (decide := true)
  · exact .inr (.inl ⟨by omega, r⟩)
  · right
    right
    refine ⟨by omega, fun a b e _ hn => ?_⟩
    subst e
    have h1 := hb (by omega) a (by simp)
    have h2 := hb (by omega) b (by simp)
    exact ⟨⟨h1.1, h1.2, h2.1, h2.2⟩, fun r e => hn ⟨r, e⟩⟩
end
theorem Ends.assoc {α β γ : Type} {c : Cn} {cls : Err → Addr} {p : Addr} {U : List Seen} {L : Ls} {H0 : Hp} {post : γ → MS → Prop} {E : XK} {S : MS} {m : M α} {f : α → M β} {g : β → M γ} (k : WH.Ends c cls p U L H0 post E (((m >>= f) >>= g) S)) :
    WH.Ends c cls p U L H0 post E ((m >>= fun a => f a >>= g) S) := by
  have e : ((m >>= f) >>= g) S = (m >>= fun a => f a >>= g) S := by
    show M.bind (M.bind m f) g S = M.bind m (fun a => M.bind (f a) g) S
    unfold M.bind
    cases m S with
    | ok a s => rfl
    | err e s => rfl
    | stuck => rfl
  rw [e] at k
  exact k
local macro_rules | `(tactic| walk_at "w") => `(tactic| repeat (with_reducible first
  | (refine is_te ?_; first | refine w_var (by with_unfolding_all rfl) ?_ | refine w_c ?_ | refine w_op ?_ | refine w_cb ?_ | refine w_call ?_ | refine w_self (by assumption) (by with_unfolding_all rfl) (by decide +kernel) ?_ | refine w_ife ?_ | (refine is_fld ?_; first | refine w_cells (by assumption) (by assumption) (by with_unfolding_all rfl) ?_ | refine w_stack (by assumption) (by assumption) (by with_unfolding_all rfl) ?_ | refine w_back (by assumption) (by assumption) (by with_unfolding_all rfl) ?_ | refine w_most_cells (by assumption) (by assumption) (by with_unfolding_all rfl) ?_ | refine w_most_stack (by assumption) (by assumption) (by with_unfolding_all rfl) ?_ | refine w_book (by assumption) (by assumption) (by with_unfolding_all rfl) ?_ | refine w_spot (by assumption) (by assumption) (by with_unfolding_all rfl) ?_ | refine w_left (by assumption) (by assumption) (by with_unfolding_all rfl) ?_ | refine w_at (by assumption) (by assumption) (by with_unfolding_all rfl) ?_ | refine w_told (by assumption) (by assumption) (by with_unfolding_all rfl) ?_ | refine w_words (by assumption) (by assumption) (by with_unfolding_all rfl) ?_ | refine w_mode (by assumption) (by assumption) (by with_unfolding_all rfl) ?_ | refine w_ties (by assumption) (by assumption) (by with_unfolding_all rfl) ?_ | refine w_many_deeds (by assumption) (by assumption) (by with_unfolding_all rfl) ?_ | refine w_steps (by assumption) (by assumption) (by with_unfolding_all rfl) ?_ | refine w_fld ?_) | refine w_lst ?_ | refine w_tup ?_ | refine w_bm ?_ | refine w_bm0 ?_ | refine w_un ?_ | refine w_sl ?_ | refine w_chain ?_)
  | (refine is_ta ?_; first | refine w_cons ?_ | refine w_nil ?_)
  | refine w_gn ?_
  | (refine is_ts ?_; first | refine w_seq ?_ | refine w_asg ?_ | refine w_ifs ?_ | refine w_drop ?_ | refine w_next ?_ | refine w_ret ?_ | refine w_retN ?_ | refine w_sfld ?_ | refine w_augS ?_ | refine w_aug_spot (by assumption) (by assumption) (by with_unfolding_all rfl) ?_ | refine w_aug_left (by assumption) (by assumption) (by with_unfolding_all rfl) ?_ | refine w_aug_at (by assumption) (by assumption) (by with_unfolding_all rfl) ?_)
  | (refine is_tt ?_; first | refine w_test ?_ | refine w_and ?_ | refine w_or ?_ | refine w_not ?_ | refine w_tB ?_)
  | (refine is_r2 ?_; first | refine w_i0 ?_ | refine w_eqt ?_ | refine w_eqi ?_ | refine w_net ?_ | refine w_nei ?_ | refine w_isN ?_ | refine w_notN ?_ | refine w_rAdd ?_ | refine w_rSub ?_ | refine w_ipI ?_)
  | (refine is_ty ?_; first | refine w_tyS' (by assumption) ?_ | refine w_tyC (by assumption) ?_ | refine w_tyB (by assumption) ?_ | refine w_tyT (by assumption) ?_ | refine w_tyK (by assumption) ?_ | refine w_tyI (by assumption) ?_)
  | (refine is_ln ?_; first | refine w_lnS (by assumption) ?_ | refine w_lnC (by assumption) ?_ | refine w_lnB (by assumption) ?_ | refine w_lnT (by assumption) ?_ | refine w_lnW (by assumption) ?_ | refine w_lnK (by assumption) ?_)
  | (refine is_rf ?_; first | refine e_kind (by assumption) (by assumption) ?_ | refine e_name (by assumption) (by assumption) ?_ | refine e_number (by assumption) (by assumption) ?_ | refine e_start (by assumption) (by assumption) ?_ | refine e_end (by assumption) (by assumption) ?_ | refine e_was (by assumption) (by assumption) ?_ | refine e_worth (by assumption) (by assumption) ?_ | refine e_beyond (by assumption) (by assumption) ?_ | refine e_is_now (by assumption) (by assumption) ?_)
  | refine w_bl ?_ | refine w_mkw ?_ | refine w_mknw ?_ | refine w_part1 ?_ | refine w_neg ?_ | refine w_smk ?_ | refine w_smkn ?_ | refine w_noP ?_ | refine w_part ?_ | refine w_gcut ?_ | refine w_gsub ?_))

section
variable {P : Program} {w : World} {K : PySem.W.Frag} {mg : Str → Option Value} {base : Heap} {c : Cn} {cls : Err → Addr}
def spDoLoop (c : Cn) (cls : Err → Addr) : Sp := spOf c cls (fun b : Int => [.int b]) doLoop (fun _ => .non)
theorem sc_do_loop : FnScope ["self", "number"] ["self", "number"] (defScope (inClass (top 38) 14)) := ⟨rfl, rfl, rfl, by decide +kernel, rfl, by decide +kernel, by decide +kernel⟩
theorem ok_do_loop {f : Addr} {fd : FuncData} (F : FnT K "do_loop" "Machine.do_loop" (inClass (top 38) 14) [] [] f fd) (T : HCls K c) (R : Er P w K mg base cls)
    (M_need_side1 : MethOk P w K mg base c.CH "need_side" 4 (spNeedSide c cls) [.int 0]) : FnOk P w K mg base (L2N.CX P w) 5 f fd ["self", "number"] (spDoLoop c cls) := by
  refine F.ok sc_do_loop (fun vs H Q E h => ?_) (fun cdv A outer s H vs Q E hr h => ?_)
  · obtain ⟨p, S, U, L, H0, b, rfl, _⟩ := h
    rfl
  · obtain ⟨p, S, U, L, H0, b, rfl, W, k⟩ := h
    try dsimp only at k
    refine ⟨_, (pss_cons (ps_expr (pe_mM M_need_side1 T.cH (hr.mono (by first | decide | omega)) (L2N.passes_call (L2N.takes_of rfl rfl rfl rfl) fun _ _ _ _ z => z) (pv 0) (pa_cons pe_int pa_nil)))
      (pss_one (ps_if (pt_cmpR op_lt (pe_op op_add (pe_ix ix_list (pe_fld (pv 0) rfl) (pe_un un_neg pe_int) (fun _ _ => rfl)) pe_int) (pe_ix ix_list (pe_fld (pv 0) rfl) (pe_un un_neg pe_int) (fun _ _ => rfl)) (nomark _)) (pss_cons (ps_augS (pe_fld (pv 0) rfl) (pe_un un_neg pe_int) get_back pe_int ip_add set_list)
      (pss_one (ps_fld (pv 0) (pv 1) rfl))) (pss_cons (ps_asg (pe_lst pa_nil) (pg_cut (pe_fld (pv 0) rfl) (po_some (pe_un un_neg pe_int)) po_none))
      (pss_one (ps_fldaug (pv 0) pe_int in_add)))))), ?_⟩
    try dsimp only [cxOf_K]
    unfold doLoop at k
    walk_at "w"
    refine c_needSide W k fun H1 W h2 h3 k => ?_
    have hlim : S.back.length ≤ 32 := by omega
    replace k := k.get
    obtain ⟨x, y, hx, hy, e⟩ := two_last h2
    walk_at "w"
    refine w_backTop W hx ?_
    walk_at "w"
    refine w_backLow W h2 hy ?_
    rw [lastD hx, lastD hy] at k
    walk_at "w"
    refine ite_dec (fun h3 => ?_) (fun h3 => ?_)
    · rw [if_pos h3] at k
      walk_at "w"
      refine w_rBackB W hx ?_
      walk_at "w"
      refine w_setB W hx fun H2 W2 => ?_
      walk_at "w"
      refine w_st_spot W2 T fun H3 W3 _ => ?_
      exact k _ W3
    · rw [if_neg h3] at k
      walk_at "w"
      refine ⟨Nat.zero_le _, fun q hq => ?_⟩
      have W1 := W.newF (u := .lst []) hq
      have hq0 := W.fresh hq
      generalize upd H1 q (.lst []) = H2 at W1 ⊢
      walk_at "w"
      refine w_cutB2 (ys := []) W1 upd_same (Nat.le_trans (Nat.add_le_add hlim (Nat.le_refl 0)) (by decide)) fun H3 W2 => ?_
      replace W2 := W2.shrink hq0
      walk_at "w"
      refine w_fl_spot W2 fun H4 W3 _ => ?_
      have e2 : S.back.take (S.back.length - 2) ++ [] = S.back.dropLast.dropLast := by
        rw [List.append_nil, List.dropLast_eq_take, List.dropLast_eq_take, List.take_take, List.length_take]
        congr 1
        omega
      dsimp only at W3
      rw [e2] at W3
      exact k _ W3
def spGoTo (c : Cn) (cls : Err → Addr) : Sp := fun vs H Q E => ∃ (p : Addr) (S : MS) (U : List Seen) (L : Ls) (H0 : Hp) (b : Addr × Addr) (e : Ent), vs = [.ref p, .ref b.1] ∧ HOwn c p S U L H0 H ∧ sE b e ∈ U ∧ entV c H b e ∧ (e.kind = .row ∨ e.kind = .cell) ∧
  Ends c cls p U L H0 (fun _ S' => ∀ H, HOwn c p S' U L H0 H → Q .non H) E (goTo e S)
theorem sc_go_to : FnScope ["self", "entry", "begins"] ["self", "entry"] (defScope (inClass (top 38) 9)) := ⟨rfl, rfl, rfl, by decide +kernel, rfl, by decide +kernel, by decide +kernel⟩
theorem ok_go_to {f : Addr} {fd : FuncData} (F : FnT K "go_to" "Machine.go_to" (inClass (top 38) 9) [] [] f fd) (T : HCls K c) (R : Er P w K mg base cls)
    (M_need2 : MethOk P w K mg base c.CH "need" 4 (spNeed c cls) [])
    (M_need_side2 : MethOk P w K mg base c.CH "need_side" 4 (spNeedSide c cls) []) : FnOk P w K mg base (L2N.CX P w) 5 f fd ["self", "entry"] (spGoTo c cls) := by
  refine F.ok sc_go_to (fun vs H Q E h => ?_) (fun cdv A outer s H vs Q E hr h => ?_)
  · obtain ⟨p, S, U, L, H0, b, e, rfl, _⟩ := h
    rfl
  · obtain ⟨p, S, U, L, H0, b, e, rfl, W, hU, he, hk, k⟩ := h
    try dsimp only at k
    refine ⟨_, (pss_cons (ps_set (i := 2) sc_go_to.nd rfl (Or.inl rfl) (pe_ifExp (pt_cmpR op_eq (pe_fld (pv 1) rfl) pe_str (nomark _)) (pe_fld (pv 1) rfl) (pe_fld (pv 1) rfl)))
      (pss_cons (ps_if (pt_cmpR op_eq (pe_fld (pv 1) rfl) pe_str (nomark _)) (pss_one (ps_expr (pe_mM M_need2 T.cH (hr.mono (by first | decide | omega)) (L2N.passes_call (L2N.takes_of rfl rfl rfl rfl) fun _ _ _ _ z => z) (pv 0) (pa_cons pe_int (pa_cons pe_int pa_nil))))) pss_nil)
      (pss_cons (ps_if (pt_cmpR op_notN1 (pv 2) pe_non (nomark _)) (pss_cons (ps_expr (pe_mM M_need_side2 T.cH (hr.mono (by first | decide | omega)) (L2N.passes_call (L2N.takes_of rfl rfl rfl rfl) fun _ _ _ _ z => z) (pv 0) (pa_cons pe_int (pa_cons pe_int pa_nil))))
      (pss_cons (ps_expr (pe_bm PySem.F.plainAttrs_list PySem.F.slot_list_append PySem.F.type_list_append mt_append (pe_fld (pv 0) rfl) (pa_cons (pe_fld (pv 0) rfl) pa_nil)))
      (pss_one (ps_fld (pv 0) (pv 2) rfl)))) pss_nil)
      (pss_one (ps_if (pt_cmpR op_eq (pe_fld (pv 1) rfl) pe_str (nomark _)) (pss_one (ps_expr (pe_bm PySem.F.plainAttrs_list PySem.F.slot_list_append PySem.F.type_list_append mt_append (pe_fld (pv 0) rfl) (pa_cons (pe_fld (pv 1) rfl) pa_nil)))) pss_nil))))), ?_⟩
    try dsimp only [cxOf_K]
    unfold goTo at k
    rcases hk with hk | hk
    · rw [if_neg (by rw [hk]; decide)] at k
      have nc : e.kind.str ≠ "cell" := by rw [hk]; decide
      unfold goBegins at k
      rw [if_pos hk] at k
      unfold goIn at k
      walk_at "w"
      refine ite_dec (fun _ => ?_) (fun h => (h (by rw [hk]; rfl)).elim)
      walk_at "w"
      refine ite_dec (fun h => (nc h).elim) (fun _ => ?_)
      walk_at "w"
      refine ite_ndec (fun _ => ?_) (fun h => nomatch h)
      walk_at "w"
      refine c_needSide W k fun H1 W _ h3 k => ?_
      walk_at "w"
      refine w_bpush W (by show S.back.length < 1000000; omega) fun H2 W => ?_
      walk_at "w"
      refine w_st_spot W T fun H3 W _ => ?_
      obtain ⟨_, _, he3⟩ := W.seen hU
      walk_at "w"
      refine ite_dec (fun h => (nc h).elim) (fun _ => ?_)
      walk_at "w"
      exact k _ W
    · rw [if_pos hk] at k
      have yc : e.kind.str = "cell" := by rw [hk]; rfl
      walk_at "w"
      refine ite_dec (fun h => absurd h (by rw [hk]; decide)) (fun _ => ?_)
      walk_at "w"
      refine ite_dec (fun _ => ?_) (fun h => (h yc).elim)
      walk_at "w"
      refine c_need W k fun H1 W h1 h2 k => ?_
      walk_at "w"
      cases eb : e.beyond with
      | none =>
        rw [eb] at k
        replace k := Ends.push1 k
        refine ite_ndec (fun h => absurd rfl h) (fun _ => ?_)
        obtain ⟨_, _, he3⟩ := W.seen hU
        walk_at "w"
        refine ite_dec (fun _ => ?_) (fun h => (h yc).elim)
        walk_at "w"
        refine w_push W k.1 fun H2 W => ?_
        exact k.2 _ W
      | some bb =>
        rw [eb] at k
        replace k := Ends.assoc k
        refine ite_ndec (fun _ => ?_) (fun h => nomatch h)
        walk_at "w"
        refine c_needSide W k fun H1 W _ h3 k => ?_
        replace k := Ends.push1 k.mod
        walk_at "w"
        refine w_bpush W (by show S.back.length < 1000000; omega) fun H2 W => ?_
        walk_at "w"
        refine w_st_spot W T fun H3 W _ => ?_
        obtain ⟨_, _, he3⟩ := W.seen hU
        walk_at "w"
        refine ite_dec (fun _ => ?_) (fun h => (h yc).elim)
        walk_at "w"
        refine w_push W k.1 fun H2 W => ?_
        exact k.2 _ W
def spDoPlain (c : Cn) (cls : Err → Addr) : Sp := spOf c cls (fun b : Str => [.str b]) doPlain (fun _ => .non)
theorem sc_do_plain : FnScope ["self", "name", "needs", "leaves", "found"] ["self", "name"] (defScope (inClass (top 38) 12)) := ⟨rfl, rfl, rfl, by decide +kernel, rfl, by decide +kernel, by decide +kernel⟩
theorem ok_do_plain {f : Addr} {fd : FuncData} (F : FnT K "do_plain" "Machine.do_plain" (inClass (top 38) 12) [] [] f fd) (g : Gb w K mg) (T : HCls K c) (R : Er P w K mg base cls) {fes : Array DictEntry} {fn : Nat} (FD : KDict K w (He.ga K "FACES") fes fn)
    (M_need2 : MethOk P w K mg base c.CH "need" 4 (spNeed c cls) [])
    (F_left_by : CallOk P w K mg base "left_by" 2 spLeftBy []) : FnOk P w K mg base (L2N.CX P w) 5 f fd ["self", "name"] (spDoPlain c cls) := by
  refine F.ok sc_do_plain (fun vs H Q E h => ?_) (fun cdv A outer s H vs Q E hr h => ?_)
  · obtain ⟨p, S, U, L, H0, b, rfl, _⟩ := h
    rfl
  · obtain ⟨p, S, U, L, H0, b, rfl, W, k⟩ := h
    try dsimp only at k
    refine ⟨_, (pss_cons (ps_asg (pe_ix (ix_kd FD) (pe_gR g.rFACES) (pv 1) (fun _ _ => rfl)) (pg_tup rfl (pgs_cons (pg_name (i := 2) sc_do_plain.nd rfl (Or.inl rfl)) (pgs_cons (pg_name (i := 3) sc_do_plain.nd rfl (Or.inl rfl)) pgs_nil))))
      (pss_cons (ps_expr (pe_mM M_need2 T.cH (hr.mono (by first | decide | omega)) (L2N.passes_call (L2N.takes_of rfl rfl rfl rfl) fun _ _ _ _ z => z) (pv 0) (pa_cons (pv 2) (pa_cons (pe_op op_sub (pv 3) (pv 2)) pa_nil))))
      (pss_cons (ps_set (i := 4) sc_do_plain.nd rfl (Or.inl rfl) (pe_fM F_left_by (hr.mono (by first | decide | omega)) (L2N.passes_call (L2N.takes_of rfl rfl rfl rfl) fun _ _ _ _ z => z) (pa_cons (pv 1) (pa_cons (pe_slice sl_list (pe_fld (pv 0) rfl) (po_some (pe_op op_sub (pe_callB call_ln (by rfl) g.len PySem.boot_len (pa_cons (pe_fld (pv 0) rfl) pa_nil)) (pv 2))) po_none) pa_nil))))
      (pss_cons (ps_if (pt_cmpR op_isN1 (pv 4) pe_non (nomark _)) (pss_one (ps_rw R.byNought rfl (hr.mono (by first | decide | omega)) (L2N.takes_of rfl rfl rfl rfl) (pe_fld (pv 0) rfl))) pss_nil)
      (pss_one (ps_asg (pv 4) (pg_cut (pe_fld (pv 0) rfl) (po_some (pe_op op_sub (pe_callB call_ln (by rfl) g.len PySem.boot_len (pa_cons (pe_fld (pv 0) rfl) pa_nil)) (pv 2))) po_none))))))), ?_⟩
    try dsimp only [cxOf_K]
    unfold doPlain at k
    cases e1 : faces.lookup b with
    | none =>
      rw [e1] at k
      exact k.elim
    | some nl =>
      obtain ⟨n, l⟩ := nl
      rw [e1] at k
      dsimp only at k
      obtain ⟨t, t1, t2⟩ := g.hFACES b n l e1
      walk_at "w"
      refine ⟨b, _, .ref t, rfl, rfl, t1, rfl, ?_⟩
      refine w_tup2 (t2 _) rfl ?_
      walk_at "w"
      refine c_need W k fun H1 W h1 h2 k => ?_
      obtain ⟨hf, k⟩ := k.must
      replace k := k.get
      unfold fitsBy at hf
      rw [Bool.and_eq_true, decide_eq_true_iff] at hf
      have hn := faces_n e1
      have hlen : (S.stack.drop (S.stack.length - n.toNat)).length = n.toNat := by rw [List.length_drop]; omega
      have hll := hf.1
      unfold LIM at hll
      walk_at "w"
      refine w_slL (SqL.of W.stack) fun q hq => ?_
      rw [cutV_from (by omega), iv_drop, show ((S.stack.length : Int) - n).toNat = S.stack.length - n.toNat by omega]
      have W1 := W.newF (u := .lst (iv (S.stack.drop (S.stack.length - n.toNat)))) hq
      have hq0 := W.fresh hq
      have hl1 := leftBy_len (z := b) (xs := S.stack.drop (S.stack.length - n.toNat))
      walk_at "w"
      refine ⟨b, q, _, rfl, upd_same, by rw [hlen]; omega, leftOk_of e1 (by rw [hlen]; omega) (fun h3 x hx => ?_), ?_⟩
      · have h4 := List.all_eq_true.mp hf.2 x (by
          refine List.mem_of_mem_drop (i := (S.stack.length - n.toNat) - (S.stack.length - 2)) ?_
          rw [List.drop_drop, show S.stack.length - 2 + (S.stack.length - n.toNat - (S.stack.length - 2)) = S.stack.length - n.toNat by omega]
          exact hx)
        rw [Bool.and_eq_true, decide_eq_true_iff, decide_eq_true_iff] at h4
        exact h4
      · generalize upd H1 q (.lst (iv (S.stack.drop (S.stack.length - n.toNat)))) = H2 at W1 ⊢
        cases el : leftBy b (S.stack.drop (S.stack.length - n.toNat)) with
        | none =>
          rw [el] at k
          intro H3 s3
          have W2 := W1.up s3
          walk_at "w"
          refine iteT ?_
          walk_at "w"
          exact fun d hd => fin_err k (W2.shrink hq0) rfl hd rfl
        | some ys =>
          rw [el] at k hl1
          intro H3 r s3 hr hr3
          have W2 := W1.gain s3 hr hr3
          have hr0 := W1.fresh hr
          walk_at "w"
          refine iteF ?_
          walk_at "w"
          refine w_cutS W2 upd_same (by omega) (by have := hl1 ys rfl; rw [hlen] at this; unfold LIM; omega) fun H4 W3 => ?_
          rw [show ((S.stack.length : Int) - n).toNat = S.stack.length - n.toNat by omega] at W3
          exact k _ ((W3.shrink hr0).shrink hq0)
end
end WH
set_option Elab.async false
set_option linter.all false
set_option maxRecDepth 100000
set_option maxHeartbeats 2000000
namespace WH
open PySem PySem.Spec PyProof.Rows L2
/-! ### a word is changed -/
theorem optV_inj : ∀ {a b : Option Int}, optV a = optV b → a = b
  | none, none, _ => rfl
  | some a, some b, h => by rw [V.int.inj h]
  | none, some b, h => nomatch h
  | some a, none, h => nomatch h
theorem kstr_inj {a b : Kind} (h : a.str = b.str) : a = b := by
  by_cases e : a = b
  · exact e
  · exact absurd h (kind_ne e)
theorem eF_inj {a b : Ent} (h : eF a = eF b) : a = b := by
  unfold eF at h
  simp only [List.cons.injEq, Prod.mk.injEq, true_and, and_true] at h
  obtain ⟨h1, h2, h3, h4, h5, _, h7, h8, h9⟩ := h
  cases a
  cases b
  simp only [Ent.mk.injEq]
  exact ⟨V.int.inj h1, V.str.inj h2, kstr_inj (V.str.inj h3), V.int.inj h4, V.int.inj h5, V.int.inj h7, optV_inj h8, V.bl.inj h9⟩
theorem All2.setAt {α β : Type} {R R' : α → β → Prop} : ∀ {as : List α} {bs : List β} {i : Nat} {a : α} {b0 : β}, All2 R as bs → as[i]? = some a → (∀ j a' b', as[j]? = some a' → j ≠ i → R a' b' → R' a' b') → R' a b0 → All2 R' as (bs.set i b0)
  | _, _, _, _, _, .nil, h, _, _ => by simp at h
  | _, _, 0, a, b0, .cons r t, h, f, q => by
    simp at h
    subst h
    exact .cons q (t.imp fun a' b' ha hb r => by
      obtain ⟨j, hj⟩ := List.getElem?_of_mem ha
      exact f (j + 1) a' b' (by simpa using hj) (by omega) r)
  | _, _, i + 1, a, b0, .cons r t, h, f, q => by
    refine .cons (f 0 _ _ rfl (by omega) r) (t.setAt (i := i) (a := a) (by simpa using h) (fun j a' b' hj hne r => f (j + 1) a' b' (by simpa using hj) (by omega) r) q)
/-- a word's place in the book -/
def BookAt (c : Cn) (p : Addr) (S : MS) (U : List Seen) (L : Ls) (H0 H : Hp) (b : Addr × Addr) (i : Nat) (e : Ent) : Prop := ∃ hs G, Sep H0 hs H ∧ HouseP c p S U G hs ∧ G.L = L ∧ G.es[i]? = some b ∧ S.book[i]? = some e
section
variable {K : PySem.W.Frag} {c : Cn} {p : Addr} {S : MS} {U : List Seen} {L : Ls} {G : Gh} {H0 H h : Hp} {b : Addr × Addr} {i : Nat} {e : Ent} {Q : VK} {R : Hp → Prop}
theorem BookAt.own (B : BookAt c p S U L H0 H b i e) : HOwn c p S U L H0 H := by
  obtain ⟨hs, G, s, P, e1, _, _⟩ := B
  exact ⟨hs, G, s, P, e1⟩
theorem BookAt.ent (B : BookAt c p S U L H0 H b i e) : entV c H b e := by
  obtain ⟨hs, G, s, P, e1, h1, h2⟩ := B
  obtain ⟨b', h3, h4⟩ := P.ents.get h2
  rw [h1] at h3
  cases h3
  exact s.own _ _ h4
theorem HouseP.ent_set {be : Option Int} {n : Bool} (P : HouseP c p S U G h) (hb : G.es[i]? = some b) (he : S.book[i]? = some e) :
    HouseP c p { S with book := S.book.set i { e with beyond := be, now := n } } U G (upd h b.1 (.ins c.CE b.2 (eF { e with beyond := be, now := n }))) := by
  obtain ⟨b', h3, h4⟩ := P.ents.get he
  rw [hb] at h3
  cases h3
  have hh : h b.1 = some (.ins c.CE b.2 (eF e)) := h4
  have nl : ∀ {a : Addr} {ys : List V}, h a = some (.lst ys) → upd h b.1 (.ins c.CE b.2 (eF { e with beyond := be, now := n })) a = some (.lst ys) := fun q => by
    rw [upd_ne (ne_of q hh fun z => by cases z)]
    exact q
  have nt : ∀ {a : Addr} {ys : List V}, h a = some (.tup ys) → upd h b.1 (.ins c.CE b.2 (eF { e with beyond := be, now := n })) a = some (.tup ys) := fun q => by
    rw [upd_ne (ne_of q hh fun z => by cases z)]
    exact q
  exact {
    ob := by
      rw [upd_ne (ne_of P.ob hh fun z => by
        injection z with z1
        exact c.ne z1)]
      exact P.ob
    cells := nl P.cells
    stack := nl P.stack
    back := nl P.back
    told := nl P.told
    words := nl P.words
    ties := by
      obtain ⟨ts, h1, h2⟩ := P.ties
      exact ⟨ts, nl h1, h2.imp fun _ _ _ _ r => nt r⟩
    op := by
      have h := P.op
      cases eo : S.opened with
      | none =>
        rw [eo] at h
        exact h
      | some z =>
        rw [eo] at h
        obtain ⟨t, e1, e2⟩ := h
        exact ⟨t, e1, nt e2⟩
    book := nl P.book
    ents := by
      refine P.ents.setAt hb (fun j a' b' hj hne r => ?_) upd_same
      have ne : a'.1 ≠ b.1 := by
        intro q
        have e1 : (G.es.map (·.1))[j]? = some a'.1 := by rw [List.getElem?_map, hj]; rfl
        have e2 : (G.es.map (·.1))[i]? = some b.1 := by rw [List.getElem?_map, hb]; rfl
        rw [q] at e1
        obtain ⟨l1, v1⟩ := List.getElem?_eq_some_iff.mp e1
        obtain ⟨l2, v2⟩ := List.getElem?_eq_some_iff.mp e2
        rcases Nat.lt_trichotomy j i with z | z | z
        · exact List.pairwise_iff_getElem.mp P.nd j i l1 l2 z (v1.trans v2.symm)
        · exact hne z
        · exact List.pairwise_iff_getElem.mp P.nd i j l2 l1 z (v2.trans v1.symm)
      unfold entV at r ⊢
      rw [upd_ne ne]
      exact r
    nd := P.nd
    ne := P.ne
    un := fun u hu => by
      have r := P.un u hu
      rcases u with u | u
      rotate_left
      · exact nt r
      obtain ⟨b', n', r⟩ := r
      unfold entV at r
      by_cases q : u.1.1 = b.1
      · rw [q, hh] at r
        injection r with r1
        injection r1 with _ r2 r3
        have r4 := eF_inj r3
        refine ⟨be, n, ?_⟩
        unfold entV
        rw [q, upd_same, ← r2, r4]
      · refine ⟨b', n', ?_⟩
        unfold entV
        rw [upd_ne q]
        exact r }
theorem w_bookLast (W : HOwn c p S U L H0 H) (he : S.book.getLast? = some e) (q : ∀ b, BookAt c p S U L H0 H b (S.book.length - 1) e → Q (.ref b.1) H) : rIxL K (.ref L.lk) (.int (-1)) H Q := by
  obtain ⟨hs, G, s, P, rfl⟩ := W
  have he' : S.book[S.book.length - 1]? = some e := by rw [← List.getLast?_eq_getElem?]; exact he
  obtain ⟨b, h3, h4⟩ := P.ents.get he'
  have hl := P.ents.len
  refine w_ixL (s.own _ _ P.book) (at_last ?_) (q b ⟨hs, G, s, P, rfl, h3, he'⟩)
  rw [List.getLast?_eq_getElem?]
  have e1 : (refs G.es).length = S.book.length := (List.length_map ..).trans hl
  rw [e1]
  unfold refs
  rw [List.getElem?_map, h3]
  rfl
theorem w_st_beyond {x : Int} (B : BookAt c p S U L H0 H b i e) (T : HCls K c) (q : ∀ H1, HOwn c p { S with book := S.book.set i { e with beyond := some x } } U L H0 H1 → R H1) : rSfld K "beyond" (.int x) (.ref b.1) H R := by
  have he := B.ent
  obtain ⟨hs, G, s, P, e1, h1, h2⟩ := B
  refine ⟨b.1, c.CE, b.2, eF e, rfl, he, T.cE, T.nE _ (by decide +kernel), eF_len, q _ ?_⟩
  have e2 := eP_beyond (e := e) (x := some x)
  have e3 : optV (some x) = V.int x := rfl
  rw [e3] at e2
  rw [e2]
  obtain ⟨b', h3, h4⟩ := P.ents.get h2
  rw [h1] at h3
  cases h3
  exact ⟨_, G, s.put h4, P.ent_set (be := some x) (n := e.now) h1 h2, e1⟩
theorem w_st_now {x : Bool} (B : BookAt c p S U L H0 H b i e) (T : HCls K c) (q : ∀ H1, HOwn c p { S with book := S.book.set i { e with now := x } } U L H0 H1 → R H1) : rSfld K "is_now" (.bl x) (.ref b.1) H R := by
  have he := B.ent
  obtain ⟨hs, G, s, P, e1, h1, h2⟩ := B
  refine ⟨b.1, c.CE, b.2, eF e, rfl, he, T.cE, T.nE _ (by decide +kernel), eF_len, q _ ?_⟩
  rw [eP_now]
  obtain ⟨b', h3, h4⟩ := P.ents.get h2
  rw [h1] at h3
  cases h3
  exact ⟨_, G, s.put h4, P.ent_set (be := e.beyond) (n := x) h1 h2, e1⟩
theorem set_end {α : Type} {xs : List α} {x y : α} (h : xs.getLast? = some x) : xs.set (xs.length - 1) y = xs.dropLast ++ [y] := by
  have e := last_app h
  have hl : xs.length - 1 = xs.dropLast.length := by rw [List.length_dropLast]
  rw [hl]
  generalize xs.dropLast = ys at e ⊢
  subst e
  rw [List.set_append_right _ _ (Nat.le_refl _), Nat.sub_self]
  rfl
theorem flat_rep {α : Type} {a : α} : ∀ n : Nat, (List.replicate n [a]).flatten = List.replicate n a
  | 0 => rfl
  | n + 1 => by
    rw [List.replicate_succ, List.flatten_cons, flat_rep n]
    rfl
theorem lim2 {a b : Nat} (h : a < LIM) (hb : b ≤ 1000000) : a + b ≤ 2 * LIM := by
  unfold LIM at *
  omega
theorem topD {S : MS} {x : Int} (h : S.stack.getLast? = some x) : top' S = x := lastD h
theorem w_cext' {b : Addr} {xs : List Int} {k : VK} (W : HOwn c p S U L H0 H) (hb : H b = some (.lst (iv xs))) (hz : S.cells.length + xs.length ≤ 2 * LIM) (q : ∀ H1, HOwn c p { S with cells := S.cells ++ xs } U L H0 H1 → k .non H1) : rExtend (.ref L.lc) [.ref b] H k := w_cext W hb hz q
end
local macro_rules | `(tactic| walk_at "w") => `(tactic| repeat (with_reducible first
  | (refine is_te ?_; first | refine w_var (by with_unfolding_all rfl) ?_ | refine w_c ?_ | refine w_op ?_ | refine w_cb ?_ | refine w_call ?_ | refine w_self (by assumption) (by with_unfolding_all rfl) (by decide +kernel) ?_ | refine w_ife ?_ | (refine is_fld ?_; first | refine w_cells (by assumption) (by assumption) (by with_unfolding_all rfl) ?_ | refine w_stack (by assumption) (by assumption) (by with_unfolding_all rfl) ?_ | refine w_back (by assumption) (by assumption) (by with_unfolding_all rfl) ?_ | refine w_most_cells (by assumption) (by assumption) (by with_unfolding_all rfl) ?_ | refine w_most_stack (by assumption) (by assumption) (by with_unfolding_all rfl) ?_ | refine w_book (by assumption) (by assumption) (by with_unfolding_all rfl) ?_ | refine w_spot (by assumption) (by assumption) (by with_unfolding_all rfl) ?_ | refine w_left (by assumption) (by assumption) (by with_unfolding_all rfl) ?_ | refine w_at (by assumption) (by assumption) (by with_unfolding_all rfl) ?_ | refine w_told (by assumption) (by assumption) (by with_unfolding_all rfl) ?_ | refine w_words (by assumption) (by assumption) (by with_unfolding_all rfl) ?_ | refine w_mode (by assumption) (by assumption) (by with_unfolding_all rfl) ?_ | refine w_ties (by assumption) (by assumption) (by with_unfolding_all rfl) ?_ | refine w_many_deeds (by assumption) (by assumption) (by with_unfolding_all rfl) ?_ | refine w_steps (by assumption) (by assumption) (by with_unfolding_all rfl) ?_ | refine w_fld ?_) | refine w_lst ?_ | refine w_tup ?_ | refine w_bm ?_ | refine w_bm0 ?_ | refine w_un ?_ | refine w_sl ?_ | refine w_chain ?_)
  | (refine is_ta ?_; first | refine w_cons ?_ | refine w_nil ?_)
  | refine w_gn ?_
  | (refine is_ts ?_; first | refine w_seq ?_ | refine w_asg ?_ | refine w_ifs ?_ | refine w_drop ?_ | refine w_next ?_ | refine w_ret ?_ | refine w_retN ?_ | refine w_sfld ?_ | refine w_augS ?_ | refine w_aug_spot (by assumption) (by assumption) (by with_unfolding_all rfl) ?_ | refine w_aug_left (by assumption) (by assumption) (by with_unfolding_all rfl) ?_ | refine w_aug_at (by assumption) (by assumption) (by with_unfolding_all rfl) ?_)
  | (refine is_tt ?_; first | refine w_test ?_ | refine w_and ?_ | refine w_or ?_ | refine w_not ?_ | refine w_tB ?_)
  | (refine is_r2 ?_; first | refine w_i0 ?_ | refine w_eqt ?_ | refine w_eqi ?_ | refine w_net ?_ | refine w_nei ?_ | refine w_isN ?_ | refine w_notN ?_ | refine w_rAdd ?_ | refine w_rSub ?_ | refine w_ipI ?_)
  | (refine is_ty ?_; first | refine w_tyS' (by assumption) ?_ | refine w_tyC (by assumption) ?_ | refine w_tyB (by assumption) ?_ | refine w_tyT (by assumption) ?_ | refine w_tyK (by assumption) ?_ | refine w_tyI (by assumption) ?_)
  | (refine is_ln ?_; first | refine w_lnS (by assumption) ?_ | refine w_lnC (by assumption) ?_ | refine w_lnB (by assumption) ?_ | refine w_lnT (by assumption) ?_ | refine w_lnW (by assumption) ?_ | refine w_lnK (by assumption) ?_)
  | (refine is_rf ?_; first | refine e_kind (by assumption) (by assumption) ?_ | refine e_name (by assumption) (by assumption) ?_ | refine e_number (by assumption) (by assumption) ?_ | refine e_start (by assumption) (by assumption) ?_ | refine e_end (by assumption) (by assumption) ?_ | refine e_was (by assumption) (by assumption) ?_ | refine e_worth (by assumption) (by assumption) ?_ | refine e_beyond (by assumption) (by assumption) ?_ | refine e_is_now (by assumption) (by assumption) ?_)
  | refine w_bl ?_ | refine w_mkw ?_ | refine w_mknw ?_ | refine w_part1 ?_ | refine w_neg ?_ | refine w_smk ?_ | refine w_smkn ?_ | refine w_noP ?_ | refine w_part ?_ | refine w_gcut ?_ | refine w_gsub ?_))

section
variable {P : Program} {w : World} {K : PySem.W.Frag} {mg : Str → Option Value} {base : Heap} {c : Cn} {cls : Err → Addr}
def spDoSide (c : Cn) (cls : Err → Addr) : Sp := spOf c cls (fun b : Str => [.str b]) doSide (fun _ => .non)
theorem sc_do_side : FnScope ["self", "name"] ["self", "name"] (defScope (inClass (top 38) 15)) := ⟨rfl, rfl, rfl, by decide +kernel, rfl, by decide +kernel, by decide +kernel⟩
theorem ok_do_side {f : Addr} {fd : FuncData} (F : FnT K "do_side" "Machine.do_side" (inClass (top 38) 15) [] [] f fd) (T : HCls K c) (R : Er P w K mg base cls)
    (M_need1 : MethOk P w K mg base c.CH "need" 4 (spNeed c cls) [.int 0])
    (M_need_side2 : MethOk P w K mg base c.CH "need_side" 4 (spNeedSide c cls) [])
    (M_need2 : MethOk P w K mg base c.CH "need" 4 (spNeed c cls) [])
    (M_need_side1 : MethOk P w K mg base c.CH "need_side" 4 (spNeedSide c cls) [.int 0]) : FnOk P w K mg base (L2N.CX P w) 5 f fd ["self", "name"] (spDoSide c cls) := by
  refine F.ok sc_do_side (fun vs H Q E h => ?_) (fun cdv A outer s H vs Q E hr h => ?_)
  · obtain ⟨p, S, U, L, H0, b, rfl, _⟩ := h
    rfl
  · obtain ⟨p, S, U, L, H0, b, rfl, W, k⟩ := h
    try dsimp only at k
    refine ⟨_, (pss_one (ps_if (pt_cmpR op_eq (pv 1) pe_str (nomark _)) (pss_cons (ps_expr (pe_mM M_need1 T.cH (hr.mono (by first | decide | omega)) (L2N.passes_call (L2N.takes_of rfl rfl rfl rfl) fun _ _ _ _ z => z) (pv 0) (pa_cons pe_int pa_nil)))
      (pss_cons (ps_expr (pe_mM M_need_side2 T.cH (hr.mono (by first | decide | omega)) (L2N.passes_call (L2N.takes_of rfl rfl rfl rfl) fun _ _ _ _ z => z) (pv 0) (pa_cons pe_int (pa_cons pe_int pa_nil))))
      (pss_one (ps_expr (pe_bm PySem.F.plainAttrs_list PySem.F.slot_list_append PySem.F.type_list_append mt_append (pe_fld (pv 0) rfl) (pa_cons (pe_bm0 PySem.F.plainAttrs_list PySem.F.slot_list_pop PySem.F.type_list_pop mt_pop (pe_fld (pv 0) rfl)) pa_nil)))))) (pss_cons (ps_expr (pe_mM M_need2 T.cH (hr.mono (by first | decide | omega)) (L2N.passes_call (L2N.takes_of rfl rfl rfl rfl) fun _ _ _ _ z => z) (pv 0) (pa_cons pe_int (pa_cons pe_int pa_nil))))
      (pss_cons (ps_expr (pe_mM M_need_side1 T.cH (hr.mono (by first | decide | omega)) (L2N.passes_call (L2N.takes_of rfl rfl rfl rfl) fun _ _ _ _ z => z) (pv 0) (pa_cons pe_int pa_nil)))
      (pss_cons (ps_expr (pe_bm PySem.F.plainAttrs_list PySem.F.slot_list_append PySem.F.type_list_append mt_append (pe_fld (pv 0) rfl) (pa_cons (pe_ix ix_list (pe_fld (pv 0) rfl) (pe_un un_neg pe_int) (fun _ _ => rfl)) pa_nil)))
      (pss_one (ps_if (pt_cmpR op_eq (pv 1) pe_str (nomark _)) (pss_one (ps_expr (pe_bm0 PySem.F.plainAttrs_list PySem.F.slot_list_pop PySem.F.type_list_pop mt_pop (pe_fld (pv 0) rfl)))) pss_nil))))))), ?_⟩
    try dsimp only [cxOf_K]
    unfold doSide at k
    walk_at "w"
    refine ite_dec (fun h1 => ?_) (fun h1 => ?_)
    · rw [if_pos h1] at k
      walk_at "w"
      refine c_need W k fun H1 W hs _ k => ?_
      walk_at "w"
      refine c_needSide W k fun H1 W _ hb k => ?_
      obtain ⟨x, hx, k⟩ := k.pop
      walk_at "w"
      refine w_pop W hx fun H2 W => ?_
      walk_at "w"
      refine w_bpush W (by show S.back.length < 1000000; omega) fun H3 W => ?_
      exact k _ W
    · rw [if_neg h1] at k
      walk_at "w"
      refine c_need W k fun H1 W _ hs k => ?_
      walk_at "w"
      refine c_needSide W k fun H1 W hb _ k => ?_
      obtain ⟨x, hx⟩ := last_some hb
      replace k := k.get
      rw [lastD hx] at k
      obtain ⟨hp, k⟩ := k.push
      walk_at "w"
      refine w_backTop W hx ?_
      walk_at "w"
      refine w_push W hp fun H2 W => ?_
      walk_at "w"
      refine ite_dec (fun h2 => ?_) (fun h2 => ?_)
      · rw [if_pos h2] at k
        walk_at "w"
        refine w_bpop W hx fun H3 W => ?_
        exact k _ W
      · rw [if_neg h2] at k
        walk_at "w"
        exact k _ W
def spDoPaired (c : Cn) (cls : Err → Addr) : Sp := spOf c cls (fun b : Str => [.str b]) doPaired (fun _ => .non)
theorem sc_do_paired : FnScope ["self", "name", "number"] ["self", "name"] (defScope (inClass (top 38) 13)) := ⟨rfl, rfl, rfl, by decide +kernel, rfl, by decide +kernel, by decide +kernel⟩
theorem ok_do_paired {f : Addr} {fd : FuncData} (F : FnT K "do_paired" "Machine.do_paired" (inClass (top 38) 13) [] [] f fd) (T : HCls K c) (R : Er P w K mg base cls)
    (M_need_cell1 : MethOk P w K mg base c.CH "need_cell" 4 (spNeedCell c cls) [])
    (M_need2 : MethOk P w K mg base c.CH "need" 4 (spNeed c cls) [])
    (M_need1 : MethOk P w K mg base c.CH "need" 4 (spNeed c cls) [.int 0])
    (M_do_loop1 : MethOk P w K mg base c.CH "do_loop" 5 (spDoLoop c cls) []) : FnOk P w K mg base (L2N.CX P w) 6 f fd ["self", "name"] (spDoPaired c cls) := by
  refine F.ok sc_do_paired (fun vs H Q E h => ?_) (fun cdv A outer s H vs Q E hr h => ?_)
  · obtain ⟨p, S, U, L, H0, b, rfl, _⟩ := h
    rfl
  · obtain ⟨p, S, U, L, H0, b, rfl, W, k⟩ := h
    try dsimp only at k
    refine ⟨_, (pss_cons (ps_expr (pe_mM M_need_cell1 T.cH (hr.mono (by first | decide | omega)) (L2N.passes_call (L2N.takes_of rfl rfl rfl rfl) fun _ _ _ _ z => z) (pv 0) (pa_cons (pe_fld (pv 0) rfl) pa_nil)))
      (pss_cons (ps_set (i := 2) sc_do_paired.nd rfl (Or.inl rfl) (pe_ix ix_list (pe_fld (pv 0) rfl) (pe_fld (pv 0) rfl) (fun _ _ => rfl)))
      (pss_one (ps_if (pt_cmpR op_eq (pv 1) pe_str (nomark _)) (pss_cons (ps_expr (pe_mM M_need2 T.cH (hr.mono (by first | decide | omega)) (L2N.passes_call (L2N.takes_of rfl rfl rfl rfl) fun _ _ _ _ z => z) (pv 0) (pa_cons pe_int (pa_cons pe_int pa_nil))))
      (pss_cons (ps_expr (pe_bm PySem.F.plainAttrs_list PySem.F.slot_list_append PySem.F.type_list_append mt_append (pe_fld (pv 0) rfl) (pa_cons (pv 2) pa_nil)))
      (pss_one (ps_fldaug (pv 0) pe_int in_add)))) (pss_one (ps_if (pt_cmpR op_eq (pv 1) pe_str (nomark _)) (pss_one (ps_fld (pv 0) (pv 2) rfl)) (pss_one (ps_if (pt_cmpR op_eq (pv 1) pe_str (nomark _)) (pss_cons (ps_expr (pe_mM M_need1 T.cH (hr.mono (by first | decide | omega)) (L2N.passes_call (L2N.takes_of rfl rfl rfl rfl) fun _ _ _ _ z => z) (pv 0) (pa_cons pe_int pa_nil)))
      (pss_one (ps_fld (pv 0) (pe_ifExp (pt_cmpR op_eq (pe_bm0 PySem.F.plainAttrs_list PySem.F.slot_list_pop PySem.F.type_list_pop mt_pop (pe_fld (pv 0) rfl)) pe_int (nomark _)) (pv 2) (pe_op op_add (pe_fld (pv 0) rfl) pe_int)) rfl))) (pss_one (ps_expr (pe_mM M_do_loop1 T.cH (hr.mono (by first | decide | omega)) (L2N.passes_call (L2N.takes_of rfl rfl rfl rfl) fun _ _ _ _ z => z) (pv 0) (pa_cons (pv 2) pa_nil)))))))))))), ?_⟩
    try dsimp only [cxOf_K]
    unfold doPaired at k
    replace k := k.get
    walk_at "w"
    refine c_needCell W k fun H1 W h1 h2 k => ?_
    walk_at "w"
    refine w_cellAt W h1 h2 ?_
    walk_at "w"
    refine ite_dec (fun h3 => ?_) (fun h3 => ?_)
    · rw [if_pos h3] at k
      walk_at "w"
      refine c_need W k fun H1 W _ _ k => ?_
      obtain ⟨hp, k⟩ := k.push
      walk_at "w"
      refine w_push W hp fun H2 W => ?_
      walk_at "w"
      refine w_fl_spot W fun H3 W _ => ?_
      exact k _ W
    rw [if_neg h3] at k
    walk_at "w"
    refine ite_dec (fun h4 => ?_) (fun h4 => ?_)
    · rw [if_pos h4] at k
      walk_at "w"
      refine w_st_spot W T fun H3 W _ => ?_
      exact k _ W
    rw [if_neg h4] at k
    walk_at "w"
    refine ite_dec (fun h5 => ?_) (fun h5 => ?_)
    · rw [if_pos h5] at k
      walk_at "w"
      refine c_need W k fun H1 W _ _ k => ?_
      obtain ⟨x, hx, k⟩ := k.pop
      walk_at "w"
      refine w_pop W hx fun H2 W => ?_
      walk_at "w"
      refine ite_dec (fun h6 => ?_) (fun h6 => ?_)
      · rw [if_pos h6] at k
        walk_at "w"
        refine w_st_spot W T fun H3 W _ => ?_
        exact k _ W
      · rw [if_neg h6] at k
        walk_at "w"
        refine w_st_spot W T fun H3 W _ => ?_
        exact k _ W
    rw [if_neg h5] at k
    walk_at "w"
    exact ⟨p, S, U, L, H0, _, rfl, W, k⟩
def spDoCells (c : Cn) (cls : Err → Addr) : Sp := spOf c cls (fun b : Str => [.str b]) doCells (fun _ => .non)
theorem sc_do_cells : FnScope ["self", "name", "address", "worth"] ["self", "name"] (defScope (inClass (top 38) 16)) := ⟨rfl, rfl, rfl, by decide +kernel, rfl, by decide +kernel, by decide +kernel⟩
theorem ok_do_cells {f : Addr} {fd : FuncData} (F : FnT K "do_cells" "Machine.do_cells" (inClass (top 38) 16) [] [] f fd) (g : Gb w K mg) (T : HCls K c) (R : Er P w K mg base cls)
    (M_need2 : MethOk P w K mg base c.CH "need" 4 (spNeed c cls) [])
    (M_need1 : MethOk P w K mg base c.CH "need" 4 (spNeed c cls) [.int 0])
    (M_need_cell1 : MethOk P w K mg base c.CH "need_cell" 4 (spNeedCell c cls) [])
    (F_rounded : CallOk P w K mg base "rounded" 1 spRounded [])
    (M_need_room1 : MethOk P w K mg base c.CH "need_room" 4 (spNeedRoom c cls) []) : FnOk P w K mg base (L2N.CX P w) 5 f fd ["self", "name"] (spDoCells c cls) := by
  refine F.ok sc_do_cells (fun vs H Q E h => ?_) (fun cdv A outer s H vs Q E hr h => ?_)
  · obtain ⟨p, S, U, L, H0, b, rfl, _⟩ := h
    rfl
  · obtain ⟨p, S, U, L, H0, b, rfl, W, k⟩ := h
    try dsimp only at k
    refine ⟨_, (pss_one (ps_if (pt_cmpR op_eq (pv 1) pe_str (nomark _)) (pss_cons (ps_expr (pe_mM M_need2 T.cH (hr.mono (by first | decide | omega)) (L2N.passes_call (L2N.takes_of rfl rfl rfl rfl) fun _ _ _ _ z => z) (pv 0) (pa_cons pe_int (pa_cons pe_int pa_nil))))
      (pss_one (ps_expr (pe_bm PySem.F.plainAttrs_list PySem.F.slot_list_append PySem.F.type_list_append mt_append (pe_fld (pv 0) rfl) (pa_cons (pe_callB call_ln (by rfl) g.len PySem.boot_len (pa_cons (pe_fld (pv 0) rfl) pa_nil)) pa_nil))))) (pss_one (ps_if (pt_cmpR op_in_seq (pv 1) (pe_tup (pa_cons pe_str (pa_cons pe_str (pa_cons pe_str pa_nil)))) (by rfl)) (pss_cons (ps_expr (pe_mM M_need1 T.cH (hr.mono (by first | decide | omega)) (L2N.passes_call (L2N.takes_of rfl rfl rfl rfl) fun _ _ _ _ z => z) (pv 0) (pa_cons (pe_ifExp (pt_cmpR op_eq (pv 1) pe_str (nomark _)) pe_int pe_int) pa_nil)))
      (pss_cons (ps_expr (pe_mM M_need_cell1 T.cH (hr.mono (by first | decide | omega)) (L2N.passes_call (L2N.takes_of rfl rfl rfl rfl) fun _ _ _ _ z => z) (pv 0) (pa_cons (pe_ix ix_list (pe_fld (pv 0) rfl) (pe_un un_neg pe_int) (fun _ _ => rfl)) pa_nil)))
      (pss_cons (ps_set (i := 2) sc_do_cells.nd rfl (Or.inl rfl) (pe_bm0 PySem.F.plainAttrs_list PySem.F.slot_list_pop PySem.F.type_list_pop mt_pop (pe_fld (pv 0) rfl)))
      (pss_one (ps_if (pt_cmpR op_eq (pv 1) pe_str (nomark _)) (pss_one (ps_expr (pe_bm PySem.F.plainAttrs_list PySem.F.slot_list_append PySem.F.type_list_append mt_append (pe_fld (pv 0) rfl) (pa_cons (pe_ix ix_list (pe_fld (pv 0) rfl) (pv 2) (fun _ _ => rfl)) pa_nil)))) (pss_cons (ps_set (i := 3) sc_do_cells.nd rfl (Or.inl rfl) (pe_op op_add (pe_bm0 PySem.F.plainAttrs_list PySem.F.slot_list_pop PySem.F.type_list_pop mt_pop (pe_fld (pv 0) rfl)) (pe_ifExp (pt_cmpR op_eq (pv 1) pe_str (nomark _)) (pe_ix ix_list (pe_fld (pv 0) rfl) (pv 2) (fun _ _ => rfl)) pe_int)))
      (pss_one (ps_asg (pe_fM F_rounded (hr.mono (by first | decide | omega)) (L2N.passes_call (L2N.takes_of rfl rfl rfl rfl) fun _ _ _ _ z => z) (pa_cons (pv 3) pa_nil)) (pg_sub (pe_fld (pv 0) rfl) (pv 2) set_list))))))))) (pss_cons (ps_expr (pe_mM M_need1 T.cH (hr.mono (by first | decide | omega)) (L2N.passes_call (L2N.takes_of rfl rfl rfl rfl) fun _ _ _ _ z => z) (pv 0) (pa_cons pe_int pa_nil)))
      (pss_cons (ps_expr (pe_mM M_need_room1 T.cH (hr.mono (by first | decide | omega)) (L2N.passes_call (L2N.takes_of rfl rfl rfl rfl) fun _ _ _ _ z => z) (pv 0) (pa_cons (pe_ifExp (pt_cmpR op_eq (pv 1) pe_str (nomark _)) (pe_ix ix_list (pe_fld (pv 0) rfl) (pe_un un_neg pe_int) (fun _ _ => rfl)) pe_int) pa_nil)))
      (pss_cons (ps_set (i := 3) sc_do_cells.nd rfl (Or.inl rfl) (pe_bm0 PySem.F.plainAttrs_list PySem.F.slot_list_pop PySem.F.type_list_pop mt_pop (pe_fld (pv 0) rfl)))
      (pss_one (ps_expr (pe_bm PySem.F.plainAttrs_list PySem.F.slot_list_extend PySem.F.type_list_extend mt_extend (pe_fld (pv 0) rfl) (pa_cons (pe_ifExp (pt_cmpR op_eq (pv 1) pe_str (nomark _)) (pe_op op_rep (pe_lst (pa_cons pe_int pa_nil)) (pv 3)) (pe_lst (pa_cons (pv 3) pa_nil))) pa_nil))))))))))), ?_⟩
    try dsimp only [cxOf_K]
    unfold doCells at k
    walk_at "w"
    refine ite_dec (fun h1 => ?_) (fun h1 => ?_)
    · rw [if_pos h1] at k
      walk_at "w"
      refine c_need W k fun H1 W hs _ k => ?_
      obtain ⟨hp, k⟩ := Ends.push1 k.get
      walk_at "w"
      refine w_push W hp fun H2 W => ?_
      exact k _ W
    rw [if_neg h1] at k
    walk_at "w"
    refine w_inW (ks := ["@", "!", "+!"]) (by decide) fun q hq => ?_
    have W1 := W.skip (u := .tup ((["@", "!", "+!"] : List Str).map V.str)) hq
    generalize upd H q (.tup ((["@", "!", "+!"] : List Str).map V.str)) = H1 at W1
    walk_at "w"
    refine ite_dec (fun h2 => ?_) (fun h2 => ?_)
    · rw [if_pos (by simpa using h2)] at k
      walk_at "w"
      refine ite_dec (fun h3 => ?_) (fun h3 => ?_)
      · rw [if_pos h3] at k
        walk_at "w"
        refine c_need W1 k fun H2 W hs _ k => ?_
        replace k := k.get
        obtain ⟨x, hx⟩ := last_some hs
        rw [topD hx] at k
        walk_at "w"
        refine w_stackTop W hx ?_
        walk_at "w"
        refine c_needCell W k fun H3 W ha1 ha2 k => ?_
        obtain ⟨x', hx', k⟩ := k.pop
        rw [hx] at hx'
        cases hx'
        rw [if_pos h3] at k
        obtain ⟨hp, k⟩ := Ends.push1 k.get
        walk_at "w"
        refine w_pop W hx fun H4 W => ?_
        walk_at "w"
        refine ite_dec (fun _ => ?_) (fun h => (h h3).elim)
        walk_at "w"
        refine w_cellAt W ha1 ha2 ?_
        walk_at "w"
        refine w_push W hp fun H5 W => ?_
        exact k _ W
      · rw [if_neg h3] at k
        walk_at "w"
        refine c_need W1 k fun H2 W hs _ k => ?_
        replace k := k.get
        obtain ⟨x, y, hx, hy, _⟩ := two_last hs
        rw [topD hx] at k
        walk_at "w"
        refine w_stackTop W hx ?_
        walk_at "w"
        refine c_needCell W k fun H3 W ha1 ha2 k => ?_
        obtain ⟨x', hx', k⟩ := k.pop
        rw [hx] at hx'
        cases hx'
        rw [if_neg h3] at k
        obtain ⟨y', hy', k⟩ := k.pop
        dsimp only at hy'
        rw [hy] at hy'
        cases hy'
        replace k := k.get
        dsimp only at k
        walk_at "w"
        refine w_pop W hx fun H4 W => ?_
        walk_at "w"
        refine ite_dec (fun h => (h3 h).elim) (fun _ => ?_)
        walk_at "w"
        refine w_pop W hy fun H5 W => ?_
        walk_at "w"
        have fin : ∀ H6 z, HOwn c p { S with stack := S.stack.dropLast.dropLast } U L H0 H6 → (z = y + (if b = "+!" then cellAt S x else 0)) → rSetL (.ref L.lc) (.int x) (.int (rounded z)) H6 fun H7 => Q .non H7 := by
          intro H6 z W6 ez
          have hx1 : x.toNat < S.cells.length := by omega
          refine ⟨L.lc, _, x, x.toNat, rfl, rfl, W6.cells, ?_, ?_⟩
          · rw [iv_len]
            unfold ixN
            rw [if_pos ha1]
            first
              | rfl
              | (rw [if_pos hx1])
              | (rw [if_pos (by omega)])
          · have e5 : (iv S.cells).set x.toNat (.int (rounded z)) = iv (S.cells.set x.toNat (rounded z)) := (List.map_set ..).symm
            rw [e5]
            refine k _ ?_
            have W7 := W6.cells_set (xs := S.cells.set x.toNat (rounded z))
            subst ez
            exact W7
        refine ite_dec (fun h5 => ?_) (fun h5 => ?_)
        · walk_at "w"
          refine w_cellAt W ha1 ha2 ?_
          walk_at "w"
          refine ⟨_, rfl, ?_⟩
          dsimp only
          walk_at "w"
          refine fin _ _ W ?_
          rw [if_pos h5]
          rfl
        · walk_at "w"
          refine ⟨_, rfl, ?_⟩
          dsimp only
          walk_at "w"
          refine fin _ _ W ?_
          rw [if_neg h5]
    · rw [if_neg (by simpa using h2)] at k
      walk_at "w"
      refine c_need W1 k fun H1 W hs _ k => ?_
      replace k := k.get
      obtain ⟨x, hx⟩ := last_some hs
      rw [topD hx] at k
      walk_at "w"
      refine ite_dec (fun h3 => ?_) (fun h3 => ?_)
      · rw [if_pos h3] at k
        walk_at "w"
        refine w_stackTop W hx ?_
        walk_at "w"
        refine c_needRoom W k fun H2 W ha1 ha2 k => ?_
        obtain ⟨x', hx', k⟩ := k.pop
        rw [hx] at hx'
        cases hx'
        obtain ⟨hm, k⟩ := k.must
        rw [Bool.and_eq_true, Bool.and_eq_true, decide_eq_true_iff, decide_eq_true_iff, decide_eq_true_iff] at hm
        obtain ⟨_, hm1, hm2⟩ := hm
        have hm3 : x < 1000000 := hm1.resolve_right fun h => h h3
        rw [if_pos h3] at k
        walk_at "w"
        refine w_pop W hx fun H3 W => ?_
        walk_at "w"
        refine ite_dec (fun _ => ?_) (fun h => (h h3).elim)
        walk_at "w"
        refine ⟨by show 1 ≤ sizeLine; decide, fun q hq => ?_⟩
        have W1 := W.newF (u := .lst [.int 0]) hq
        have hq0 := W.fresh hq
        generalize upd H3 q (.lst [.int 0]) = H4 at W1 ⊢
        walk_at "w"
        refine ⟨q, x, [.int 0], rfl, rfl, W1.same _ _ upd_same, by omega, by omega, by show 1 * x.toNat ≤ sizeLine; exact Nat.le_trans (show 1 * x.toNat ≤ 1000000 by omega) (by decide), fun r hr => ?_⟩
        have e6 : (List.replicate x.toNat [V.int 0]).flatten = iv (List.replicate x.toNat 0) := by
          unfold iv
          rw [List.map_replicate]
          exact flat_rep x.toNat
        rw [e6]
        have W2 := W1.newF (u := .lst (iv (List.replicate x.toNat 0))) hr
        have hr0 := W1.fresh hr
        walk_at "w"
        refine w_cext' (xs := List.replicate x.toNat 0) W2 upd_same (lim2 hm2 (by rw [List.length_replicate]; omega)) fun H5 W => ?_
        exact k _ ((W.shrink hr0).shrink hq0)
      · rw [if_neg h3] at k
        walk_at "w"
        refine c_needRoom W k fun H2 W ha1 ha2 k => ?_
        obtain ⟨x', hx', k⟩ := k.pop
        rw [hx] at hx'
        cases hx'
        obtain ⟨hm, k⟩ := k.must
        rw [Bool.and_eq_true, Bool.and_eq_true, decide_eq_true_iff, decide_eq_true_iff, decide_eq_true_iff] at hm
        obtain ⟨_, _, hm2⟩ := hm
        rw [if_neg h3] at k
        walk_at "w"
        refine w_pop W hx fun H3 W => ?_
        walk_at "w"
        refine ite_dec (fun h => (h3 h).elim) (fun _ => ?_)
        walk_at "w"
        refine ⟨by show 1 ≤ sizeLine; decide, fun q hq => ?_⟩
        have W1 := W.newF (u := .lst (iv [x])) hq
        have hq0 := W.fresh hq
        walk_at "w"
        refine w_cext' (xs := [x]) W1 upd_same (lim2 hm2 (Nat.le_of_ble_eq_true rfl)) fun H5 W => ?_
        exact k _ (W.shrink hq0)
def spGiveDeeds (c : Cn) (cls : Err → Addr) : Sp := spOf c cls (fun b : Unit => []) (fun _ => giveDeeds) (fun _ => .non)
theorem sc_give_deeds : FnScope ["self", "newest"] ["self"] (defScope (inClass (top 38) 18)) := ⟨rfl, rfl, rfl, by decide +kernel, rfl, by decide +kernel, by decide +kernel⟩
theorem ok_give_deeds {f : Addr} {fd : FuncData} (F : FnT K "give_deeds" "Machine.give_deeds" (inClass (top 38) 18) [] [] f fd) (T : HCls K c) (R : Er P w K mg base cls)
    (M_need_side1 : MethOk P w K mg base c.CH "need_side" 4 (spNeedSide c cls) [.int 0]) : FnOk P w K mg base (L2N.CX P w) 5 f fd ["self"] (spGiveDeeds c cls) := by
  refine F.ok sc_give_deeds (fun vs H Q E h => ?_) (fun cdv A outer s H vs Q E hr h => ?_)
  · obtain ⟨p, S, U, L, H0, b, rfl, _⟩ := h
    rfl
  · obtain ⟨p, S, U, L, H0, b, rfl, W, k⟩ := h
    try dsimp only at k
    refine ⟨_, (pss_cons (ps_expr (pe_mM M_need_side1 T.cH (hr.mono (by first | decide | omega)) (L2N.passes_call (L2N.takes_of rfl rfl rfl rfl) fun _ _ _ _ z => z) (pv 0) (pa_cons pe_int pa_nil)))
      (pss_cons (ps_if (PW.pt (pw_or (pt_cmpR (op_eqE (Nat.lt_of_succ_lt (hu_of hr))) (pe_fld (pv 0) rfl) (pe_lst pa_nil) (nomark _)) (pw_or1 (pt_cmpR op_ne (pe_fld (pe_ix ix_list (pe_fld (pv 0) rfl) (pe_un un_neg pe_int) (fun _ _ => rfl)) rfl) pe_str (nomark _))))) (pss_one (ps_rw R.unfit rfl (hr.mono (by first | decide | omega)) (L2N.takes_of rfl rfl rfl rfl) (pe_fld (pv 0) rfl))) pss_nil)
      (pss_cons (ps_set (i := 1) sc_give_deeds.nd rfl (Or.inl rfl) (pe_ix ix_list (pe_fld (pv 0) rfl) (pe_un un_neg pe_int) (fun _ _ => rfl)))
      (pss_cons (ps_fld (pv 1) (pe_fld (pv 0) rfl) rfl)
      (pss_one (ps_fld (pv 0) (pe_bm0 PySem.F.plainAttrs_list PySem.F.slot_list_pop PySem.F.type_list_pop mt_pop (pe_fld (pv 0) rfl)) rfl)))))), ?_⟩
    try dsimp only [cxOf_K]
    unfold giveDeeds at k
    walk_at "w"
    refine c_needSide W k fun H1 W h1 h2 k => ?_
    replace k := k.get
    obtain ⟨x, hx⟩ := last_some h1
    walk_at "w"
    refine ⟨Nat.zero_le _, fun q hq => ?_⟩
    have W1 := W.newF (u := .lst []) hq
    have hq0 := W.fresh hq
    have hq2 : upd H1 q (.lst []) q = some (.lst []) := upd_same
    generalize upd H1 q (.lst []) = H2 at W1 hq2 ⊢
    obtain ⟨es, b1, b2⟩ := W1.book
    refine ⟨_, _, _, rfl, rfl, b1, hq2, ?_⟩
    cases el : S.book.getLast? with
    | none =>
      rw [el] at k
      have e0 : S.book = [] := List.getLast?_eq_none_iff.mp el
      walk_at "w"
      refine ite_dec (fun _ => ?_) (fun h => ?_)
      · refine iteT ?_
        walk_at "w"
        exact fun d hd => fin_err k (W1.shrink hq0) rfl hd rfl
      · refine (h ?_).elim
        have := b2.len
        rw [e0] at this
        rw [List.length_eq_zero_iff.mp this]
        rfl
    | some e =>
      rw [el] at k
      dsimp only at k
      walk_at "w"
      refine ite_dec (fun h => ?_) (fun _ => ?_)
      · exfalso
        have := b2.len
        have h2 : es = [] := List.map_eq_nil_iff.mp h
        rw [h2] at this
        rw [List.length_eq_zero_iff.mp this.symm] at el
        cases el
      · walk_at "w"
        refine w_bookLast W1 el fun b B => ?_
        have he := B.ent
        walk_at "w"
        refine ite_ndec (fun h3 => ?_) (fun h3 => ?_)
        · rw [if_neg (fun h => h3 (by rw [h]; rfl))] at k
          walk_at "w"
          exact fun d hd => fin_err k (W1.shrink hq0) rfl hd rfl
        · rw [if_pos (kstr_inj (b := .cell) h3)] at k
          walk_at "w"
          refine w_bookLast W1 el fun b B => ?_
          walk_at "w"
          refine w_st_beyond B T fun H3 W3 => ?_
          rw [set_end el] at W3
          walk_at "w"
          refine w_bpop W3 hx fun H4 W4 => ?_
          walk_at "w"
          refine w_st_spot W4 T fun H5 W5 _ => ?_
          rw [← lastD hx] at W5
          exact k _ (W5.shrink hq0)
end
end WH
set_option Elab.async false
set_option linter.all false
set_option maxRecDepth 100000
set_option maxHeartbeats 2000000
namespace WH
open PySem PySem.Spec PyProof.Rows L2
local macro_rules | `(tactic| walk_at "w") => `(tactic| repeat (with_reducible first
  | (refine is_te ?_; first | refine w_var (by with_unfolding_all rfl) ?_ | refine w_c ?_ | refine w_op ?_ | refine w_cb ?_ | refine w_call ?_ | refine w_self (by assumption) (by with_unfolding_all rfl) (by decide +kernel) ?_ | refine w_ife ?_ | (refine is_fld ?_; first | refine w_cells (by assumption) (by assumption) (by with_unfolding_all rfl) ?_ | refine w_stack (by assumption) (by assumption) (by with_unfolding_all rfl) ?_ | refine w_back (by assumption) (by assumption) (by with_unfolding_all rfl) ?_ | refine w_most_cells (by assumption) (by assumption) (by with_unfolding_all rfl) ?_ | refine w_most_stack (by assumption) (by assumption) (by with_unfolding_all rfl) ?_ | refine w_book (by assumption) (by assumption) (by with_unfolding_all rfl) ?_ | refine w_spot (by assumption) (by assumption) (by with_unfolding_all rfl) ?_ | refine w_left (by assumption) (by assumption) (by with_unfolding_all rfl) ?_ | refine w_at (by assumption) (by assumption) (by with_unfolding_all rfl) ?_ | refine w_told (by assumption) (by assumption) (by with_unfolding_all rfl) ?_ | refine w_words (by assumption) (by assumption) (by with_unfolding_all rfl) ?_ | refine w_mode (by assumption) (by assumption) (by with_unfolding_all rfl) ?_ | refine w_ties (by assumption) (by assumption) (by with_unfolding_all rfl) ?_ | refine w_many_deeds (by assumption) (by assumption) (by with_unfolding_all rfl) ?_ | refine w_steps (by assumption) (by assumption) (by with_unfolding_all rfl) ?_ | refine w_fld ?_) | refine w_lst ?_ | refine w_tup ?_ | refine w_bm ?_ | refine w_bm0 ?_ | refine w_un ?_ | refine w_sl ?_ | refine w_chain ?_)
  | (refine is_ta ?_; first | refine w_cons ?_ | refine w_nil ?_)
  | refine w_gn ?_
  | (refine is_ts ?_; first | refine w_seq ?_ | refine w_asg ?_ | refine w_ifs ?_ | refine w_drop ?_ | refine w_next ?_ | refine w_ret ?_ | refine w_retN ?_ | refine w_sfld ?_ | refine w_augS ?_ | refine w_aug_spot (by assumption) (by assumption) (by with_unfolding_all rfl) ?_ | refine w_aug_left (by assumption) (by assumption) (by with_unfolding_all rfl) ?_ | refine w_aug_at (by assumption) (by assumption) (by with_unfolding_all rfl) ?_)
  | (refine is_tt ?_; first | refine w_test ?_ | refine w_and ?_ | refine w_or ?_ | refine w_not ?_ | refine w_tB ?_)
  | (refine is_r2 ?_; first | refine w_i0 ?_ | refine w_eqt ?_ | refine w_eqi ?_ | refine w_net ?_ | refine w_nei ?_ | refine w_isN ?_ | refine w_notN ?_ | refine w_rAdd ?_ | refine w_rSub ?_ | refine w_ipI ?_)
  | (refine is_ty ?_; first | refine w_tyS' (by assumption) ?_ | refine w_tyC (by assumption) ?_ | refine w_tyB (by assumption) ?_ | refine w_tyT (by assumption) ?_ | refine w_tyK (by assumption) ?_ | refine w_tyI (by assumption) ?_)
  | (refine is_ln ?_; first | refine w_lnS (by assumption) ?_ | refine w_lnC (by assumption) ?_ | refine w_lnB (by assumption) ?_ | refine w_lnT (by assumption) ?_ | refine w_lnW (by assumption) ?_ | refine w_lnK (by assumption) ?_)
  | (refine is_rf ?_; first | refine e_kind (by assumption) (by assumption) ?_ | refine e_name (by assumption) (by assumption) ?_ | refine e_number (by assumption) (by assumption) ?_ | refine e_start (by assumption) (by assumption) ?_ | refine e_end (by assumption) (by assumption) ?_ | refine e_was (by assumption) (by assumption) ?_ | refine e_worth (by assumption) (by assumption) ?_ | refine e_beyond (by assumption) (by assumption) ?_ | refine e_is_now (by assumption) (by assumption) ?_)
  | refine w_bl ?_ | refine w_mkw ?_ | refine w_mknw ?_ | refine w_part1 ?_ | refine w_neg ?_ | refine w_smk ?_ | refine w_smkn ?_ | refine w_noP ?_ | refine w_part ?_ | refine w_gcut ?_ | refine w_gsub ?_))

section
variable {P : Program} {w : World} {K : PySem.W.Frag} {mg : Str → Option Value} {base : Heap} {c : Cn} {cls : Err → Addr}
end
section
variable {α β : Type} {c : Cn} {cls : Err → Addr} {p : Addr} {U : List Seen} {L : Ls} {H0 H0' H : Hp} {post : α → MS → Prop} {E : XK} {S : MS}
theorem HOwn.less0 (W : HOwn c p S U L H0' H) (s : Same H0 H0') : HOwn c p S U L H0 H := by
  obtain ⟨hs, G, z, P, e⟩ := W
  refine ⟨hs, G, ⟨fun b => ?_, fun b v q => z.fr b v (s b v q), z.own⟩, P, e⟩
  rcases z.dj b with q | q
  · exact .inl (s.free q)
  · exact .inr q
theorem Ends.frame {o : Out α} (k : WH.Ends c cls p U L H0 post E o) (s : Same H0 H0') : WH.Ends c cls p U L H0' post E o := by
  cases o with
  | ok a S' => exact k
  | err e S' =>
    refine fun H d h W => k H d (s.free h) (W.less0 fun b v q => ?_)
    by_cases z : b = d
    · rw [z, upd_same] at q ⊢
      exact q
    · rw [upd_ne z] at q ⊢
      exact s _ _ q
  | stuck => exact k
theorem find_at {q : α → Bool} : ∀ {l : List α} {i : Nat} {a : α}, l[i]? = some a → q a = true → (∀ (j : Nat) (b : α), j < i → l[j]? = some b → q b = false) → l.find? q = some a
  | [], i, a, h, _, _ => by simp at h
  | x :: r, 0, a, h, hq, _ => by
    simp at h
    subst h
    rw [List.find?_cons_of_pos hq]
  | x :: r, i + 1, a, h, hq, hn => by
    have h1 := hn 0 x (by omega) rfl
    rw [List.find?_cons_of_neg (by rw [h1]; decide)]
    exact find_at (i := i) (by simpa using h) hq fun j b hj hb => hn (j + 1) b (by omega) (by simpa using hb)
theorem find_no {q : α → Bool} : ∀ {l : List α}, (∀ (j : Nat) (b : α), l[j]? = some b → q b = false) → l.find? q = none
  | [], _ => rfl
  | x :: r, h => by
    have h1 := h 0 x rfl
    rw [List.find?_cons_of_neg (by rw [h1]; decide)]
    exact find_no fun j b hb => h (j + 1) b (by simpa using hb)
end
section
variable {P : Program} {w : World} {K : PySem.W.Frag} {mg : Str → Option Value} {base : Heap} {c : Cn} {cls : Err → Addr}
/-! ### a house's own -/
theorem HOwn.picks {p : Addr} {S : MS} {U : List Seen} {L : Ls} {H0 H : Hp} (W : HOwn c p S U L H0 H) : ∃ es : List (Addr × Addr), H L.lk = some (.lst (refs es)) ∧ es.length = S.book.length ∧ ∀ (i : Nat) e, S.book[i]? = some e → ∃ b, es[i]? = some b ∧ entV c H b e ∧ HOwn c p S (sE b e :: U) L H0 H := by
  obtain ⟨hs, G, s, P, rfl⟩ := W
  refine ⟨G.es, s.own _ _ P.book, P.ents.len, fun i e h => ?_⟩
  obtain ⟨b, h1, h2⟩ := P.ents.get h
  refine ⟨b, h1, s.own _ _ h2, hs, G, s, { P with un := fun v hv => ?_ }, rfl⟩
  rcases List.mem_cons.mp hv with q | q
  · subst q
    exact ⟨e.beyond, e.now, h2⟩
  · exact P.un v q
def spLay (c : Cn) (cls : Err → Addr) : Sp := fun vs H Q E => ∃ (p : Addr) (S : MS) (U : List Seen) (L : Ls) (H0 : Hp) (a : Addr) (xs : List Int), vs = [.ref p, .ref a] ∧ HOwn c p S U L H0 H ∧ H0 a = some (.lst (iv xs)) ∧ xs.length ≤ 10 ∧
  Ends c cls p U L H0 (fun _ S' => ∀ H, HOwn c p S' U L H0 H → Q .non H) E (lay xs S)
theorem sc_lay : FnScope ["self", "some"] ["self", "some"] (defScope (inClass (top 48) 14)) := ⟨rfl, rfl, rfl, by decide +kernel, rfl, by decide +kernel, by decide +kernel⟩
theorem ok_lay {f : Addr} {fd : FuncData} (F : FnT K "lay" "House.lay" (inClass (top 48) 14) [] [] f fd) (g : Gb w K mg) (T : HCls K c) (R : Er P w K mg base cls)
    (M_need_room1 : MethOk P w K mg base c.CH "need_room" 4 (spNeedRoom c cls) []) : FnOk P w K mg base (L2N.CX P w) 5 f fd ["self", "some"] (spLay c cls) := by
  refine F.ok sc_lay (fun vs H Q E h => ?_) (fun cdv A outer s H vs Q E hr h => ?_)
  · obtain ⟨p, S, U, L, H0, a, xs, rfl, _⟩ := h
    rfl
  · obtain ⟨p, S, U, L, H0, a, xs, rfl, W, ha, hz, k⟩ := h
    try dsimp only at k
    refine ⟨_, (pss_cons (ps_expr (pe_mM M_need_room1 T.cH (hr.mono (by first | decide | omega)) (L2N.passes_call (L2N.takes_of rfl rfl rfl rfl) fun _ _ _ _ z => z) (pv 0) (pa_cons (pe_callB call_ln (by rfl) g.len PySem.boot_len (pa_cons (pv 1) pa_nil)) pa_nil)))
      (pss_one (ps_expr (pe_bm PySem.F.plainAttrs_list PySem.F.slot_list_extend PySem.F.type_list_extend mt_extend (pe_fld (pv 0) rfl) (pa_cons (pv 1) pa_nil))))), ?_⟩
    try dsimp only [cxOf_K]
    unfold lay at k
    walk_at "w"
    refine w_lnG (W.same _ _ ha) ?_
    rw [iv_len]
    walk_at "w"
    refine c_needRoom W k fun H1 W1 _ _ k => ?_
    obtain ⟨hm, k⟩ := k.must
    rw [decide_eq_true_iff] at hm
    walk_at "w"
    refine w_cext' (xs := xs) W1 (W1.same _ _ ha) (lim2 hm (by omega)) fun H2 W2 => ?_
    exact k _ W2
def spNextName (c : Cn) (cls : Err → Addr) : Sp := spOf c cls (fun b : Unit => []) (fun _ => nextName) (fun z => .str z)
theorem sc_next_name : FnScope ["self"] ["self"] (defScope (inClass (top 48) 15)) := ⟨rfl, rfl, rfl, by decide +kernel, rfl, by decide +kernel, by decide +kernel⟩
theorem ok_next_name {f : Addr} {fd : FuncData} (F : FnT K "next_name" "House.next_name" (inClass (top 48) 15) [] [] f fd) (g : Gb w K mg) (T : HCls K c) (R : Er P w K mg base cls) : FnOk P w K mg base (L2N.CX P w) 4 f fd ["self"] (spNextName c cls) := by
  refine F.ok sc_next_name (fun vs H Q E h => ?_) (fun cdv A outer s H vs Q E hr h => ?_)
  · obtain ⟨p, S, U, L, H0, b, rfl, _⟩ := h
    rfl
  · obtain ⟨p, S, U, L, H0, b, rfl, W, k⟩ := h
    try dsimp only at k
    refine ⟨_, (pss_cons (ps_if (pt_cmpR op_ge (pe_op op_add (pe_fld (pv 0) rfl) pe_int) (pe_callB call_ln (by rfl) g.len PySem.boot_len (pa_cons (pe_fld (pv 0) rfl) pa_nil)) (nomark _)) (pss_one (ps_rw R.noName rfl (hr.mono (by first | decide | omega)) (L2N.takes_of rfl rfl rfl rfl) (pe_fld (pv 0) rfl))) pss_nil)
      (pss_cons (ps_fldaug (pv 0) pe_int in_add)
      (pss_one (ps_ret (pe_ix ix_list (pe_fld (pv 0) rfl) (pe_fld (pv 0) rfl) (fun _ _ => rfl)))))), ?_⟩
    try dsimp only [cxOf_K]
    unfold nextName at k
    walk_at "w"
    refine ite_dec (fun h1 => ?_) (fun h1 => ?_)
    · rw [if_pos h1] at k
      walk_at "w"
      exact fun d hd => fin_err k W rfl hd rfl
    · rw [if_neg h1] at k
      by_cases h2 : 0 ≤ S.at_
      rotate_left
      · rw [if_neg h2] at k
        exact k.elim
      rw [if_pos h2] at k
      walk_at "w"
      refine w_fl_at W fun H1 W1 _ => ?_
      walk_at "w"
      have h3 : (S.at_ + 1).toNat < S.words.length := by omega
      have h4 : (S.words.map V.str)[(S.at_ + 1).toNat]? = some (.str (S.words.getD (S.at_ + 1).toNat Str.empty)) := by
        rw [List.getElem?_map, List.getElem?_eq_getElem h3, List.getD_eq_getElem?_getD, List.getElem?_eq_getElem h3]
        rfl
      have h5 := atI_nat h4
      rw [Int.toNat_of_nonneg (by omega)] at h5
      exact w_ixL W1.words h5 (k _ W1)
def spKnown (c : Cn) : Sp := fun vs H Q E => ∃ (p : Addr) (S : MS) (U : List Seen) (L : Ls) (H0 : Hp) (z : Str), vs = [.ref p, .str z] ∧ HOwn c p S U L H0 H ∧
  (match known S z with
  | none => Q .non H
  | some e => ∀ b, HOwn c p S (sE b e :: U) L H0 H → entV c H b e → Q (.ref b.1) H)
theorem sc_known : FnScope ["self", "name", "entry"] ["self", "name"] (defScope (inClass (top 48) 6)) := ⟨rfl, rfl, rfl, by decide +kernel, rfl, by decide +kernel, by decide +kernel⟩
theorem ok_known {f : Addr} {fd : FuncData} (F : FnT K "known" "House.known" (inClass (top 48) 6) [] [] f fd) (g : Gb w K mg) (T : HCls K c) (R : Er P w K mg base cls) : FnOk P w K mg base (L2N.CX P w) 3 f fd ["self", "name"] (spKnown c) := by
  refine F.ok sc_known (fun vs H Q E h => ?_) (fun cdv A outer s H vs Q E hr h => ?_)
  · obtain ⟨p, S, U, L, H0, b, rfl, _⟩ := h
    rfl
  · obtain ⟨p, S, U, L, H0, b, rfl, W, k⟩ := h
    try dsimp only at k
    refine ⟨_, (pss_cons (ps_for (passes_of rfl) rfl (pi_reversed (by rfl) g.reversed (pa_cons (pe_fld (pv 0) rfl) pa_nil)) (pg_name (i := 2) sc_known.nd rfl (Or.inl rfl)) (pss_one (ps_if (pt_cmpR op_eq (pe_fld (pv 2) rfl) (pv 1) (nomark _)) (pss_one (ps_ret (pv 2))) pss_nil)))
      (pss_one (ps_ret pe_non))), ?_⟩
    try dsimp only [cxOf_K]
    obtain ⟨es, hb, he, pk⟩ := W.picks
    refine w_seq ?_
    unfold tFor iRev
    walk_at "w"
    refine ⟨L.lk, refs es, rfl, SqL.of hb, ?_⟩
    have hl : (refs es).length = S.book.length := (List.length_map ..).trans he
    refine RT.for_Itv (fun i σ H' => H' = H ∧ (∃ o, σ = [some (.ref p), some (.str b), o]) ∧ ∀ j e', j < i → S.book.reverse[j]? = some e' → decide (e'.name = b) = false) ⟨rfl, ⟨none, rfl⟩, fun j _ h => absurd h (by omega)⟩ (fun i σ H' h => by rw [h.1]; exact SqL.of hb) (fun i x σ H' hi hx h => ?_) (fun σ H' h => ?_)
    · obtain ⟨rfl, ⟨o, rfl⟩, hn⟩ := h
      rw [hl] at hi
      rw [hl] at hx
      have h1 : S.book[S.book.length - 1 - i]? = some S.book[S.book.length - 1 - i] := List.getElem?_eq_getElem (by omega)
      have h0 : S.book.reverse[i]? = some S.book[S.book.length - 1 - i] := by
        rw [List.getElem?_reverse hi]
        exact h1
      generalize S.book[S.book.length - 1 - i] = e1 at h1 h0
      obtain ⟨b1, g2, g3, g4⟩ := pk _ _ h1
      have hx2 : x = .ref b1.1 := by
        have z : (refs es)[S.book.length - 1 - i]? = some (.ref b1.1) := by
          unfold refs
          rw [List.getElem?_map, g2]
          rfl
        rw [hx] at z
        exact Option.some.inj z
      subst hx2
      walk_at "w"
      refine ite_dec (fun h2 => ?_) (fun h2 => ?_)
      · have e0 : known S b = some e1 := find_at h0 (decide_eq_true h2) fun j e' hj hje => hn j e' hj hje
        rw [e0] at k
        walk_at "w"
        exact k b1 g4 g3
      · walk_at "w"
        refine ⟨rfl, ⟨_, rfl⟩, fun j e' hj hje => ?_⟩
        rcases Nat.lt_or_ge j i with z | z
        · exact hn j e' z hje
        · obtain rfl : j = i := by omega
          rw [h0] at hje
          cases hje
          exact decide_eq_false h2
    · obtain ⟨rfl, ⟨o, rfl⟩, hn⟩ := h
      have e0 : known S b = none := find_no fun j e' hj => hn j e' (by
        rw [hl]
        obtain ⟨l1, _⟩ := List.getElem?_eq_some_iff.mp hj
        rw [List.length_reverse] at l1
        exact l1) hj
      rw [e0] at k
      walk_at "w"
      exact k
def spNumberFor (c : Cn) (cls : Err → Addr) : Sp := spOf c cls (fun b : Str => [.str b]) numForM (fun z => .int z)
theorem sc_number_for : FnScope ["self", "name", "entry"] ["self", "name"] (defScope (inClass (top 48) 13)) := ⟨rfl, rfl, rfl, by decide +kernel, rfl, by decide +kernel, by decide +kernel⟩
theorem ok_number_for {f : Addr} {fd : FuncData} (F : FnT K "number_for" "House.number_for" (inClass (top 48) 13) [] [] f fd) (T : HCls K c) (R : Er P w K mg base cls) : FnOk P w K mg base (L2N.CX P w) 3 f fd ["self", "name"] (spNumberFor c cls) := by
  refine F.ok sc_number_for (fun vs H Q E h => ?_) (fun cdv A outer s H vs Q E hr h => ?_)
  · obtain ⟨p, S, U, L, H0, b, rfl, _⟩ := h
    rfl
  · obtain ⟨p, S, U, L, H0, b, rfl, W, k⟩ := h
    try dsimp only at k
    refine ⟨_, (pss_one (ps_ret (pe_ix ix_list (pe_lc (tt := tTest (tOp rEq (tFld K (tVar 2) "name") (tVar 1))) (te := tFld K (tVar 2) "number") (own := [("entry", 2)]) rfl sc_number_for.nd (pi_list (pe_slice sl_list (pe_fld (pv 0) rfl) po_none (po_some (pe_fld (pv 0) rfl)))) (blkOk_by (own := [("entry", 2)]) (N := ["self", "name", "entry"]) (sc := defScope (inClass (top 48) 13)) (by decide +kernel)) (fun _ _ _ _ _ => (pg_name (i := 2) sc_number_for.nd rfl (Or.inl rfl))) (fun _ _ _ _ _ => (pts_one (pt_cmpR op_eq (pe_fld (pv 2) rfl) (pv 1) (nomark _)))) (fun _ _ _ _ _ => (pe_fld (pv 2) rfl))) pe_int (fun _ _ => rfl)))), ?_⟩
    try dsimp only [cxOf_K]
    unfold numForM at k
    by_cases hd : deedsOk S = true
    rotate_left
    · rw [if_neg hd] at k
      exact k.elim
    rw [if_pos hd] at k
    unfold deedsOk at hd
    rw [Bool.and_eq_true, decide_eq_true_iff, decide_eq_true_iff] at hd
    obtain ⟨hd1, hd2⟩ := hd
    obtain ⟨es, hb, he, pk⟩ := W.picks
    have hl69 : deedEnts.length = 69 := deedEnts_len
    have hlen : 69 ≤ S.book.length := by
      have := congrArg List.length hd1
      rw [List.length_take, hl69] at this
      omega
    walk_at "w"
    show tSl _ _ _ _ _ _ _
    walk_at "w"
    refine w_slL (SqL.of hb) fun q hq => ?_
    rw [cutV_to (by omega), hd2]
    have ec : (refs es).take (69 : Int).toNat = refs (es.take 69) := (List.map_take ..).symm
    rw [ec]
    refine ⟨q, rfl, ⟨_, SqL.of upd_same⟩, ?_⟩
    have W1 := W.skip (u := .lst (refs (es.take 69))) hq
    have k1 : ∀ b e, entV c H b e → entV c (upd H q (.lst (refs (es.take 69)))) b e := fun b e h => same_new hq _ _ h
    have hq2 : upd H q (.lst (refs (es.take 69))) q = some (.lst (refs (es.take 69))) := upd_same
    generalize upd H q (.lst (refs (es.take 69))) = H1 at W1 k1 hq2 ⊢
    intro D hD
    have hDq : q ≠ D := fun e => by
      rw [e, hD] at hq2
      cases hq2
    refine lc_list (xs := refs (es.take 69)) (fun i H' => H' = upd H1 D (.lst (iv (((deedEnts.take i).filter (fun e => decide (e.name = b))).map (·.num))))) rfl (fun i H' _ h => ?_) (fun i x H' hx h => ?_) (fun H' h => ?_)
    · rw [h]
      exact SqL.of (Eq.trans (upd_ne hDq) hq2)
    · subst h
      have hi : i < 69 := by
        obtain ⟨l1, _⟩ := List.getElem?_eq_some_iff.mp hx
        have : (refs (es.take 69)).length ≤ 69 := by
          unfold refs
          rw [List.length_map, List.length_take]
          omega
        omega
      have h1 : S.book[i]? = some S.book[i] := List.getElem?_eq_getElem (by omega)
      have h0 : deedEnts[i]? = some S.book[i] := by
        rw [← hd1, List.getElem?_take_of_lt hi]
        exact h1
      generalize S.book[i] = e1 at h1 h0
      obtain ⟨b1, g2, g3, g4⟩ := pk _ _ h1
      have hx2 : x = .ref b1.1 := by
        have z : (refs (es.take 69))[i]? = some (.ref b1.1) := by
          unfold refs
          rw [List.getElem?_map, List.getElem?_take_of_lt hi, g2]
          rfl
        rw [hx] at z
        exact Option.some.inj z
      subst hx2
      have g5 := same_new (o := .lst (iv (((deedEnts.take i).filter (fun e => decide (e.name = b))).map (·.num)))) hD _ _ (k1 _ _ g3)
      have g6 : entV c (upd H1 D (.lst (iv (((deedEnts.take i).filter (fun e => decide (e.name = b))).map (·.num))))) b1 e1 := g5
      have tk : deedEnts.take (i + 1) = deedEnts.take i ++ [e1] := by
        rw [List.take_succ, h0]
        rfl
      refine w_gn ⟨rfl, ?_⟩
      walk_at "w"
      refine ite_dec (fun h2 => ?_) (fun h2 => ?_)
      · walk_at "w"
        refine ⟨_, upd_same, ?_, ?_⟩
        · rw [iv_len, List.length_map]
          exact Nat.lt_of_le_of_lt (Nat.le_trans (List.length_filter_le _ _) (List.length_take_le _ _)) (Nat.lt_of_lt_of_le hi (by decide))
        · rw [upd_upd, tk, List.filter_append, List.map_append, iv_app, List.filter_cons_of_pos (by exact decide_eq_true h2)]
          rfl
      · rw [tk, List.filter_append, List.filter_cons_of_neg (by rw [decide_eq_false h2]; decide)]
        rw [List.filter_nil, List.append_nil]
    · subst h
      have h69 : (refs (es.take 69)).length = 69 := by
        unfold refs
        rw [List.length_map, List.length_take]
        omega
      rw [h69]
      have e69 : deedEnts.take 69 = deedEnts := List.take_of_length_le (by omega)
      rw [e69]
      walk_at "w"
      cases ef : deedEnts.find? (fun e => decide (e.name = b)) with
      | none =>
        rw [ef] at k
        exact k.elim
      | some e =>
        rw [ef] at k
        have eh : (deedEnts.filter (fun e => decide (e.name = b)))[0]? = some e := by
          rw [← List.head?_eq_getElem?, List.head?_filter]
          exact ef
        refine w_ixL upd_same (atI_nat (j := 0) (iv_get (x := e.num) ?_)) (k _ (W1.skip hD))
        rw [List.getElem?_map, eh]
        rfl
end
end WH
set_option Elab.async false
set_option linter.all false
set_option maxRecDepth 100000
set_option maxHeartbeats 2000000
namespace WH
open PySem PySem.Spec PyProof.Rows L2
local macro_rules | `(tactic| walk_at "w") => `(tactic| repeat (with_reducible first
  | (refine is_te ?_; first | refine w_var (by with_unfolding_all rfl) ?_ | refine w_c ?_ | refine w_op ?_ | refine w_cb ?_ | refine w_call ?_ | refine w_self (by assumption) (by with_unfolding_all rfl) (by decide +kernel) ?_ | refine w_ife ?_ | (refine is_fld ?_; first | refine w_cells (by assumption) (by assumption) (by with_unfolding_all rfl) ?_ | refine w_stack (by assumption) (by assumption) (by with_unfolding_all rfl) ?_ | refine w_back (by assumption) (by assumption) (by with_unfolding_all rfl) ?_ | refine w_most_cells (by assumption) (by assumption) (by with_unfolding_all rfl) ?_ | refine w_most_stack (by assumption) (by assumption) (by with_unfolding_all rfl) ?_ | refine w_book (by assumption) (by assumption) (by with_unfolding_all rfl) ?_ | refine w_spot (by assumption) (by assumption) (by with_unfolding_all rfl) ?_ | refine w_left (by assumption) (by assumption) (by with_unfolding_all rfl) ?_ | refine w_at (by assumption) (by assumption) (by with_unfolding_all rfl) ?_ | refine w_told (by assumption) (by assumption) (by with_unfolding_all rfl) ?_ | refine w_words (by assumption) (by assumption) (by with_unfolding_all rfl) ?_ | refine w_mode (by assumption) (by assumption) (by with_unfolding_all rfl) ?_ | refine w_ties (by assumption) (by assumption) (by with_unfolding_all rfl) ?_ | refine w_many_deeds (by assumption) (by assumption) (by with_unfolding_all rfl) ?_ | refine w_steps (by assumption) (by assumption) (by with_unfolding_all rfl) ?_ | refine w_fld ?_) | refine w_lst ?_ | refine w_tup ?_ | refine w_bm ?_ | refine w_bm0 ?_ | refine w_un ?_ | refine w_sl ?_ | refine w_chain ?_)
  | (refine is_ta ?_; first | refine w_cons ?_ | refine w_nil ?_)
  | refine w_gn ?_
  | (refine is_ts ?_; first | refine w_seq ?_ | refine w_asg ?_ | refine w_ifs ?_ | refine w_drop ?_ | refine w_next ?_ | refine w_ret ?_ | refine w_retN ?_ | refine w_sfld ?_ | refine w_augS ?_ | refine w_aug_spot (by assumption) (by assumption) (by with_unfolding_all rfl) ?_ | refine w_aug_left (by assumption) (by assumption) (by with_unfolding_all rfl) ?_ | refine w_aug_at (by assumption) (by assumption) (by with_unfolding_all rfl) ?_)
  | (refine is_tt ?_; first | refine w_test ?_ | refine w_and ?_ | refine w_or ?_ | refine w_not ?_ | refine w_tB ?_)
  | (refine is_r2 ?_; first | refine w_i0 ?_ | refine w_eqt ?_ | refine w_eqi ?_ | refine w_net ?_ | refine w_nei ?_ | refine w_isN ?_ | refine w_notN ?_ | refine w_rAdd ?_ | refine w_rSub ?_ | refine w_ipI ?_)
  | (refine is_ty ?_; first | refine w_tyS' (by assumption) ?_ | refine w_tyC (by assumption) ?_ | refine w_tyB (by assumption) ?_ | refine w_tyT (by assumption) ?_ | refine w_tyK (by assumption) ?_ | refine w_tyI (by assumption) ?_)
  | (refine is_ln ?_; first | refine w_lnS (by assumption) ?_ | refine w_lnC (by assumption) ?_ | refine w_lnB (by assumption) ?_ | refine w_lnT (by assumption) ?_ | refine w_lnW (by assumption) ?_ | refine w_lnK (by assumption) ?_)
  | (refine is_rf ?_; first | refine e_kind (by assumption) (by assumption) ?_ | refine e_name (by assumption) (by assumption) ?_ | refine e_number (by assumption) (by assumption) ?_ | refine e_start (by assumption) (by assumption) ?_ | refine e_end (by assumption) (by assumption) ?_ | refine e_was (by assumption) (by assumption) ?_ | refine e_worth (by assumption) (by assumption) ?_ | refine e_beyond (by assumption) (by assumption) ?_ | refine e_is_now (by assumption) (by assumption) ?_)
  | refine w_bl ?_ | refine w_mkw ?_ | refine w_mknw ?_ | refine w_part1 ?_ | refine w_neg ?_ | refine w_smk ?_ | refine w_smkn ?_ | refine w_noP ?_ | refine w_part ?_ | refine w_gcut ?_ | refine w_gsub ?_))

section
variable {α β γ : Type} {c : Cn} {cls : Err → Addr} {p : Addr} {U : List Seen} {L : Ls} {H0 H0' H : Hp} {post : α → MS → Prop} {E : XK} {S : MS} {Q' : VK}
theorem c_of {g : β → List V} {m : β → M γ} {r : γ → V} {b : β} {f : γ → M α} (W : HOwn c p S U L H0 H) (k : Ends c cls p U L H0 post E ((m b >>= f) S))
    (q : ∀ a S1 H1, m b S = .ok a S1 → HOwn c p S1 U L H0 H1 → Ends c cls p U L H0 post E (f a S1) → Q' (r a) H1) : spOf c cls g m r (.ref p :: g b) H Q' E :=
  ⟨p, S, U, L, H0, b, rfl, W, k.bind.imp fun a S1 eo k1 H1 W1 => q a S1 H1 eo W1 k1⟩
theorem numForM_ok {z : Str} {x : Int} {S1 : MS} (h : numForM z S = .ok x S1) : S1 = S ∧ deedsOk S = true ∧ ∃ e, deedEnts.find? (fun e => decide (e.name = z)) = some e ∧ x = e.num := by
  unfold numForM at h
  by_cases hd : deedsOk S = true
  · rw [if_pos hd] at h
    cases ef : deedEnts.find? (fun e => decide (e.name = z)) with
    | none =>
      rw [ef] at h
      cases h
    | some e =>
      rw [ef] at h
      injection h with h1 h2
      exact ⟨h2.symm, hd, e, rfl, h1.symm⟩
  · rw [if_neg hd] at h
    cases h
theorem c_numFor {z : Str} {f : Int → M α} (W : HOwn c p S U L H0 H) (k : Ends c cls p U L H0 post E ((numForM z >>= f) S))
    (q : ∀ x H1, HOwn c p S U L H0 H1 → Ends c cls p U L H0 post E (f x S) → Q' (.int x) H1) : spNumberFor c cls [.ref p, .str z] H Q' E :=
  c_of (b := z) W k fun x S1 H1 eo W1 k1 => by
    obtain ⟨e, _⟩ := numForM_ok eo
    rw [e] at W1 k1
    exact q x H1 W1 k1
theorem lay_ok {xs : List Int} {u : Unit} {S1 : MS} (h : lay xs S = .ok u S1) : S1 = { S with cells := S.cells ++ xs } ∧ S.cells.length < LIM := by
  have h' : M.bind (needRoom xs.length) (fun _ => M.bind (must fun s => decide (s.cells.length < LIM)) fun _ => modify' fun s => { s with cells := s.cells ++ xs }) S = .ok u S1 := h
  unfold M.bind at h'
  cases e1 : needRoom xs.length S with
  | err e s =>
    rw [e1] at h'
    cases h'
  | stuck =>
    rw [e1] at h'
    cases h'
  | ok a s =>
    rw [e1] at h'
    obtain ⟨rfl, _, _⟩ := needRoom_ok e1
    unfold must at h'
    dsimp only at h'
    by_cases h2 : decide (s.cells.length < LIM) = true
    · rw [if_pos h2] at h'
      injection h' with _ h3
      exact ⟨h3.symm, of_decide_eq_true h2⟩
    · rw [if_neg h2] at h'
      cases h'
theorem c_lay {xs : List Int} {f : Unit → M α} (W : HOwn c p S U L H0 H) (k : Ends c cls p U L H0 post E ((lay xs >>= f) S)) (hl : xs.length ≤ 10)
    {a : Addr} (ha : H a = none) (q : ∀ H1, HOwn c p { S with cells := S.cells ++ xs } U L H0 H1 → Ends c cls p U L H0 post E (f () { S with cells := S.cells ++ xs }) → Q' .non H1) :
    spLay c cls [.ref p, .ref a] (upd H a (.lst (iv xs))) Q' E := by
  have h0 := W.fresh ha
  refine ⟨p, S, U, L, upd H0 a (.lst (iv xs)), a, xs, rfl, W.newF ha, upd_same, hl, (k.bind.frame (same_new h0)).imp fun u S1 eo k1 H1 W1 => ?_⟩
  obtain ⟨e, _⟩ := lay_ok eo
  rw [e] at W1 k1
  exact q H1 (W1.shrink h0) k1
/-- the last thing that is done -/
theorem c_lay1 {xs : List Int} {post : Unit → MS → Prop} (W : HOwn c p S U L H0 H) (k : Ends c cls p U L H0 post E (lay xs S)) (hl : xs.length ≤ 10)
    {a : Addr} (ha : H a = none) (q : ∀ H1 u, HOwn c p { S with cells := S.cells ++ xs } U L H0 H1 → post u { S with cells := S.cells ++ xs } → Q' .non H1) :
    spLay c cls [.ref p, .ref a] (upd H a (.lst (iv xs))) Q' E := by
  have h0 := W.fresh ha
  refine ⟨p, S, U, L, upd H0 a (.lst (iv xs)), a, xs, rfl, W.newF ha, upd_same, hl, (k.frame (same_new h0)).imp fun u S1 eo k1 H1 W1 => ?_⟩
  obtain ⟨e, _⟩ := lay_ok eo
  rw [e] at W1 k1
  exact q H1 u (W1.shrink h0) k1
theorem c_known {z : Str} (W : HOwn c p S U L H0 H) (q0 : known S z = none → Q' .non H) (q1 : ∀ e b, known S z = some e → HOwn c p S (sE b e :: U) L H0 H → entV c H b e → Q' (.ref b.1) H) : spKnown c [.ref p, .str z] H Q' E := by
  refine ⟨p, S, U, L, H0, z, rfl, W, ?_⟩
  cases e : known S z with
  | none => exact q0 e
  | some e' => exact fun b W1 h => q1 e' b e W1 h
end
section
variable {K : PySem.W.Frag} {c : Cn} {p : Addr} {S : MS} {U : List Seen} {L : Ls} {H0 H : Hp} {Q : VK} {R : Hp → Prop}
theorem w_openedR (W : HOwn c p S U L H0 H) (T : HCls K c) (q : ∀ v, opV H v S.opened → Q v H) : rFld K "opened" (.ref p) H Q := by
  obtain ⟨_, h, r⟩ := w_opened (σ := [some (.ref p)]) W T rfl q
  cases h
  exact r
theorem w_tieLast {v : Str} {i : Int} (W : HOwn c p S U L H0 H) (h : S.ties.getLast? = some (v, i)) (q : ∀ t, SqT K H t [.str v, .int i] → Q (.ref t) H) : rIxL K (.ref L.li) (.int (-1)) H Q := by
  obtain ⟨ts, h1, h2⟩ := W.ties
  have hi : S.ties[S.ties.length - 1]? = some (v, i) := by rw [← List.getLast?_eq_getElem?]; exact h
  obtain ⟨t, g1, g2⟩ := h2.get hi
  refine w_ixL h1 (at_last ?_) (q t (SqT.of g2))
  rw [List.getLast?_eq_getElem?, List.length_map, h2.len, List.getElem?_map, g1]
  rfl
theorem w_ixT' {t : Addr} {x y : V} (h : SqT K H t [x, y]) (q : Q x H) : rIxT K (.ref t) (.int 0) H Q := ⟨t, _, 0, x, rfl, rfl, h, atI_nat (j := 0) rfl, q⟩
theorem w_ixT1 {t : Addr} {x y : V} (h : SqT K H t [x, y]) (q : Q y H) : rIxT K (.ref t) (.int 1) H Q := ⟨t, _, 1, y, rfl, rfl, h, atI_nat (j := 1) rfl, q⟩
/-- held against an empty list -/
theorem w_noTies {q : Addr} (W : HOwn c p S U L H0 H) (hq : H q = some (.lst [])) (k : Q (.bl (decide (S.ties = []))) H) : rEqE (.ref L.li) (.ref q) H Q := by
  obtain ⟨ts, h1, h2⟩ := W.ties
  refine ⟨_, _, _, rfl, rfl, h1, hq, ?_⟩
  have e : decide (ts.map V.ref = []) = decide (S.ties = []) := by
    have := h2.len
    cases ts with
    | nil =>
      rw [List.length_eq_zero_iff.mp this.symm]
      rfl
    | cons a r =>
      cases es : S.ties with
      | nil =>
        rw [es] at this
        cases this
      | cons x y => rfl
  rw [e]
  exact k
theorem w_someTies {q : Addr} (W : HOwn c p S U L H0 H) (hq : H q = some (.lst [])) (k : Q (.bl (!decide (S.ties = []))) H) : rNeE (.ref L.li) (.ref q) H Q := by
  obtain ⟨ts, h1, h2⟩ := W.ties
  refine ⟨_, _, _, rfl, rfl, h1, hq, ?_⟩
  have e : decide (ts.map V.ref = []) = decide (S.ties = []) := by
    have := h2.len
    cases ts with
    | nil =>
      rw [List.length_eq_zero_iff.mp this.symm]
      rfl
    | cons a r =>
      cases es : S.ties with
      | nil =>
        rw [es] at this
        cases this
      | cons x y => rfl
  rw [e]
  exact k
end
section
variable {P : Program} {w : World} {K : PySem.W.Frag} {mg : Str → Option Value} {base : Heap} {c : Cn} {cls : Err → Addr}
def spNextKnown (c : Cn) (cls : Err → Addr) : Sp := fun vs H Q E => ∃ (p : Addr) (S : MS) (U : List Seen) (L : Ls) (H0 : Hp), vs = [.ref p] ∧ HOwn c p S U L H0 H ∧
  Ends c cls p U L H0 (fun e S' => ∀ H b, HOwn c p S' (sE b e :: U) L H0 H → entV c H b e → Q (.ref b.1) H) E (nextKnown S)
theorem sc_next_known : FnScope ["self", "name", "found"] ["self"] (defScope (inClass (top 48) 16)) := ⟨rfl, rfl, rfl, by decide +kernel, rfl, by decide +kernel, by decide +kernel⟩
theorem ok_next_known {f : Addr} {fd : FuncData} (F : FnT K "next_known" "House.next_known" (inClass (top 48) 16) [] [] f fd) (T : HCls K c) (R : Er P w K mg base cls)
    (M_next_name0 : MethOk P w K mg base c.CH "next_name" 4 (spNextName c cls) [])
    (M_known1 : MethOk P w K mg base c.CH "known" 3 (spKnown c) []) : FnOk P w K mg base (L2N.CX P w) 5 f fd ["self"] (spNextKnown c cls) := by
  refine F.ok sc_next_known (fun vs H Q E h => ?_) (fun cdv A outer s H vs Q E hr h => ?_)
  · obtain ⟨p, S, U, L, H0, rfl, _⟩ := h
    rfl
  · obtain ⟨p, S, U, L, H0, rfl, W, k⟩ := h
    try dsimp only at k
    refine ⟨_, (pss_cons (ps_set (i := 1) sc_next_known.nd rfl (Or.inl rfl) (pe_mM0 M_next_name0 T.cH (hr.mono (by first | decide | omega)) (L2N.passes_call (L2N.takes_of rfl rfl rfl rfl) fun _ _ _ _ z => z) (pv 0)))
      (pss_cons (ps_set (i := 2) sc_next_known.nd rfl (Or.inl rfl) (pe_mM M_known1 T.cH (hr.mono (by first | decide | omega)) (L2N.passes_call (L2N.takes_of rfl rfl rfl rfl) fun _ _ _ _ z => z) (pv 0) (pa_cons (pv 1) pa_nil)))
      (pss_cons (ps_if (pt_cmpR op_isN1 (pv 2) pe_non (nomark _)) (pss_one (ps_rnw (R.noWord Str.empty) rfl (hr.mono (by first | decide | omega)) (L2N.takes_of rfl rfl rfl rfl) (pe_fld (pv 0) rfl) (pv 1))) pss_nil)
      (pss_one (ps_ret (pv 2)))))), ?_⟩
    try dsimp only [cxOf_K]
    unfold nextKnown at k
    walk_at "w"
    refine c_of (b := ()) W k fun n S1 H1 eo W k => ?_
    replace k := k.get
    walk_at "w"
    refine c_known W (fun en => ?_) (fun e b en W1 he => ?_)
    · rw [en] at k
      walk_at "w"
      refine iteT ?_
      walk_at "w"
      rw [R.nws Str.empty n]
      exact fun d hd => fin_err k W rfl hd rfl
    · rw [en] at k
      walk_at "w"
      refine iteF ?_
      walk_at "w"
      exact k _ b W1 he
def spNeedTie (c : Cn) (cls : Err → Addr) : Sp := spOf c cls (fun b : Str => [.str b]) needTie (fun _ => .non)
theorem sc_need_tie : FnScope ["self", "sort"] ["self", "sort"] (defScope (inClass (top 48) 24)) := ⟨rfl, rfl, rfl, by decide +kernel, rfl, by decide +kernel, by decide +kernel⟩
theorem ok_need_tie {f : Addr} {fd : FuncData} (F : FnT K "need_tie" "House.need_tie" (inClass (top 48) 24) [] [] f fd) (T : HCls K c) (R : Er P w K mg base cls) : FnOk P w K mg base (L2N.CX P w) 4 f fd ["self", "sort"] (spNeedTie c cls) := by
  refine F.ok sc_need_tie (fun vs H Q E h => ?_) (fun cdv A outer s H vs Q E hr h => ?_)
  · obtain ⟨p, S, U, L, H0, b, rfl, _⟩ := h
    rfl
  · obtain ⟨p, S, U, L, H0, b, rfl, W, k⟩ := h
    try dsimp only at k
    refine ⟨_, (pss_one (ps_if (PW.pt (pw_or (pt_cmpR (op_eqE (Nat.lt_of_succ_lt (hu_of hr))) (pe_fld (pv 0) rfl) (pe_lst pa_nil) (nomark _)) (pw_or1 (pt_cmpR op_ne (pe_ix ix_tup (pe_ix ix_list (pe_fld (pv 0) rfl) (pe_un un_neg pe_int) (fun _ _ => rfl)) pe_int (fun _ _ => rfl)) (pv 1) (nomark _))))) (pss_one (ps_rw R.unfit rfl (hr.mono (by first | decide | omega)) (L2N.takes_of rfl rfl rfl rfl) (pe_fld (pv 0) rfl))) pss_nil)), ?_⟩
    try dsimp only [cxOf_K]
    unfold needTie at k
    walk_at "w"
    refine ⟨Nat.zero_le _, fun q hq => ?_⟩
    have W1 := W.newF (u := .lst []) hq
    have hq0 := W.fresh hq
    have hq2 : upd H q (.lst []) q = some (.lst []) := upd_same
    generalize upd H q (.lst []) = H1 at W1 hq2 ⊢
    refine w_noTies W1 hq2 ?_
    walk_at "w"
    cases el : S.ties.getLast? with
    | none =>
      rw [el] at k
      refine ite_dec (fun _ => ?_) (fun h => (h (List.getLast?_eq_none_iff.mp el)).elim)
      refine iteT ?_
      walk_at "w"
      exact fun d hd => fin_err k (W1.shrink hq0) rfl hd rfl
    | some x =>
      obtain ⟨v, i⟩ := x
      rw [el] at k
      dsimp only at k
      refine ite_dec (fun h => ?_) (fun _ => ?_)
      · rw [h] at el
        cases el
      · walk_at "w"
        refine w_tieLast W1 el fun t ht => ?_
        walk_at "w"
        refine w_ixT' ht ?_
        walk_at "w"
        refine ite_ndec (fun h => ?_) (fun h => ?_)
        · rw [if_neg h] at k
          walk_at "w"
          exact fun d hd => fin_err k (W1.shrink hq0) rfl hd rfl
        · rw [if_pos h] at k
          walk_at "w"
          exact k _ (W1.shrink hq0)
def spLayJump (c : Cn) (cls : Err → Addr) : Sp := spOf c cls (fun b : Str × Int => [.str b.1, .int b.2]) (fun b => layJump b.1 b.2) (fun x => .int x)
theorem sc_lay_jump : FnScope ["self", "name", "goal"] ["self", "name", "goal"] (defScope (inClass (top 48) 25)) := ⟨rfl, rfl, rfl, by decide +kernel, rfl, by decide +kernel, by decide +kernel⟩
theorem ok_lay_jump {f : Addr} {fd : FuncData} (F : FnT K "lay_jump" "House.lay_jump" (inClass (top 48) 25) [] [] f fd) (g : Gb w K mg) (T : HCls K c) (R : Er P w K mg base cls)
    (M_lay1 : MethOk P w K mg base c.CH "lay" 5 (spLay c cls) [])
    (M_number_for1 : MethOk P w K mg base c.CH "number_for" 3 (spNumberFor c cls) []) : FnOk P w K mg base (L2N.CX P w) 6 f fd ["self", "name", "goal"] (spLayJump c cls) := by
  refine F.ok sc_lay_jump (fun vs H Q E h => ?_) (fun cdv A outer s H vs Q E hr h => ?_)
  · obtain ⟨p, S, U, L, H0, b, rfl, _⟩ := h
    rfl
  · obtain ⟨p, S, U, L, H0, b, rfl, W, k⟩ := h
    try dsimp only at k
    refine ⟨_, (pss_cons (ps_expr (pe_mM M_lay1 T.cH (hr.mono (by first | decide | omega)) (L2N.passes_call (L2N.takes_of rfl rfl rfl rfl) fun _ _ _ _ z => z) (pv 0) (pa_cons (pe_lst (pa_cons (pe_mM M_number_for1 T.cH (hr.mono (by first | decide | omega)) (L2N.passes_call (L2N.takes_of rfl rfl rfl rfl) fun _ _ _ _ z => z) (pv 0) (pa_cons (pv 1) pa_nil)) (pa_cons (pv 2) pa_nil))) pa_nil)))
      (pss_one (ps_ret (pe_op op_sub (pe_callB call_ln (by rfl) g.len PySem.boot_len (pa_cons (pe_fld (pv 0) rfl) pa_nil)) pe_int)))), ?_⟩
    try dsimp only [cxOf_K]
    unfold layJump at k
    walk_at "w"
    refine c_numFor W k fun x H1 W k => ?_
    walk_at "w"
    refine ⟨by show 2 ≤ sizeLine; decide, fun q hq => ?_⟩
    walk_at "w"
    refine c_lay (xs := [x, b.2]) W k (by show 2 ≤ 10; decide) hq fun H2 W k => ?_
    replace k := k.get
    walk_at "w"
    exact k _ W
def spLayPostponed (c : Cn) (cls : Err → Addr) : Sp := fun vs H Q E => ∃ (p : Addr) (S : MS) (U : List Seen) (L : Ls) (H0 : Hp) (b : Addr × Addr) (e : Ent), vs = [.ref p, .ref b.1] ∧ HOwn c p S U L H0 H ∧ sE b e ∈ U ∧ entV c H b e ∧
  Ends c cls p U L H0 (fun _ S' => ∀ H, HOwn c p S' U L H0 H → Q .non H) E (layPostponed e S)
theorem sc_lay_postponed : FnScope ["self", "entry"] ["self", "entry"] (defScope (inClass (top 48) 23)) := ⟨rfl, rfl, rfl, by decide +kernel, rfl, by decide +kernel, by decide +kernel⟩
theorem ok_lay_postponed {f : Addr} {fd : FuncData} (F : FnT K "lay_postponed" "House.lay_postponed" (inClass (top 48) 23) [] [] f fd) (T : HCls K c) (R : Er P w K mg base cls)
    (M_lay1 : MethOk P w K mg base c.CH "lay" 5 (spLay c cls) [])
    (M_number_for1 : MethOk P w K mg base c.CH "number_for" 3 (spNumberFor c cls) []) : FnOk P w K mg base (L2N.CX P w) 6 f fd ["self", "entry"] (spLayPostponed c cls) := by
  refine F.ok sc_lay_postponed (fun vs H Q E h => ?_) (fun cdv A outer s H vs Q E hr h => ?_)
  · obtain ⟨p, S, U, L, H0, b, e, rfl, _⟩ := h
    rfl
  · obtain ⟨p, S, U, L, H0, b, e, rfl, W, hU, he, k⟩ := h
    try dsimp only at k
    refine ⟨_, (pss_one (ps_if (pt_val (pe_fld (pv 1) rfl)) (pss_one (ps_expr (pe_mM M_lay1 T.cH (hr.mono (by first | decide | omega)) (L2N.passes_call (L2N.takes_of rfl rfl rfl rfl) fun _ _ _ _ z => z) (pv 0) (pa_cons (pe_lst (pa_cons (pe_fld (pv 1) rfl) pa_nil)) pa_nil)))) (pss_one (ps_expr (pe_mM M_lay1 T.cH (hr.mono (by first | decide | omega)) (L2N.passes_call (L2N.takes_of rfl rfl rfl rfl) fun _ _ _ _ z => z) (pv 0) (pa_cons (pe_lst (pa_cons (pe_mM M_number_for1 T.cH (hr.mono (by first | decide | omega)) (L2N.passes_call (L2N.takes_of rfl rfl rfl rfl) fun _ _ _ _ z => z) (pv 0) (pa_cons pe_str pa_nil)) (pa_cons (pe_fld (pv 1) rfl) (pa_cons (pe_mM M_number_for1 T.cH (hr.mono (by first | decide | omega)) (L2N.passes_call (L2N.takes_of rfl rfl rfl rfl) fun _ _ _ _ z => z) (pv 0) (pa_cons pe_str pa_nil)) pa_nil)))) pa_nil)))))), ?_⟩
    try dsimp only [cxOf_K]
    unfold layPostponed at k
    walk_at "w"
    refine ite_b (fun h1 => ?_) (fun h1 => ?_)
    · rw [if_pos h1] at k
      walk_at "w"
      refine ⟨by show 1 ≤ sizeLine; decide, fun q hq => ?_⟩
      walk_at "w"
      refine c_lay1 (xs := [e.num]) W k (by show 1 ≤ 10; decide) hq fun H1 _ W k => ?_
      exact k _ W
    · rw [if_neg (by rw [h1]; decide)] at k
      walk_at "w"
      refine c_numFor W k fun x H1 W k => ?_
      obtain ⟨_, _, he1⟩ := W.seen hU
      walk_at "w"
      refine c_numFor W k fun y H2 W k => ?_
      walk_at "w"
      refine ⟨by show 3 ≤ sizeLine; decide, fun q hq => ?_⟩
      walk_at "w"
      refine c_lay1 (xs := [x, e.num, y]) W k (by show 3 ≤ 10; decide) hq fun H1 _ W k => ?_
      exact k _ W
def spDoMarking (c : Cn) (cls : Err → Addr) : Sp := spOf c cls (fun b : Str => [.str b]) doMarking (fun _ => .non)
theorem sc_do_marking : FnScope ["self", "name", "newest"] ["self", "name"] (defScope (inClass (top 48) 18)) := ⟨rfl, rfl, rfl, by decide +kernel, rfl, by decide +kernel, by decide +kernel⟩
theorem ok_do_marking {f : Addr} {fd : FuncData} (F : FnT K "do_marking" "House.do_marking" (inClass (top 48) 18) [] [] f fd) (g : Gb w K mg) (T : HCls K c) (R : Er P w K mg base cls) : FnOk P w K mg base (L2N.CX P w) 4 f fd ["self", "name"] (spDoMarking c cls) := by
  refine F.ok sc_do_marking (fun vs H Q E h => ?_) (fun cdv A outer s H vs Q E hr h => ?_)
  · obtain ⟨p, S, U, L, H0, b, rfl, _⟩ := h
    rfl
  · obtain ⟨p, S, U, L, H0, b, rfl, W, k⟩ := h
    try dsimp only at k
    refine ⟨_, (pss_one (ps_if (pt_cmpR op_eq (pv 1) pe_str (nomark _)) (pss_cons (ps_if (pt_cmpR op_isN1 (pe_fld (pv 0) rfl) pe_non (nomark _)) (pss_one (ps_rw R.unfit rfl (hr.mono (by first | decide | omega)) (L2N.takes_of rfl rfl rfl rfl) (pe_fld (pv 0) rfl))) pss_nil)
      (pss_one (ps_fld (pv 0) pe_bl rfl))) (pss_cons (ps_if (pt_cmpR op_eq (pe_callB call_ln (by rfl) g.len PySem.boot_len (pa_cons (pe_fld (pv 0) rfl) pa_nil)) (pe_fld (pv 0) rfl) (nomark _)) (pss_one (ps_rw R.unfit rfl (hr.mono (by first | decide | omega)) (L2N.takes_of rfl rfl rfl rfl) (pe_fld (pv 0) rfl))) pss_nil)
      (pss_cons (ps_set (i := 2) sc_do_marking.nd rfl (Or.inl rfl) (pe_ix ix_list (pe_fld (pv 0) rfl) (pe_un un_neg pe_int) (fun _ _ => rfl)))
      (pss_one (ps_fld (pv 2) pe_bl rfl)))))), ?_⟩
    try dsimp only [cxOf_K]
    unfold doMarking at k
    walk_at "w"
    refine ite_dec (fun h1 => ?_) (fun h1 => ?_)
    · rw [if_pos h1] at k
      walk_at "w"
      refine w_openedR W T fun v hv => ?_
      walk_at "w"
      cases eo : S.opened with
      | none =>
        rw [eo] at hv
        rw [if_pos eo] at k
        have hv' : v = .non := hv
        subst hv'
        refine iteT ?_
        walk_at "w"
        exact fun d hd => fin_err k W rfl hd rfl
      | some x =>
        rw [eo] at hv
        rw [if_neg (by rw [eo]; exact fun h => nomatch h)] at k
        obtain ⟨t, rfl, _⟩ := hv
        refine iteF ?_
        walk_at "w"
        refine w_st_mode W T fun H1 W1 _ => ?_
        exact k _ W1
    · rw [if_neg h1] at k
      walk_at "w"
      refine ite_dec (fun h2 => ?_) (fun h2 => ?_)
      · rw [if_pos h2] at k
        walk_at "w"
        exact fun d hd => fin_err k W rfl hd rfl
      · rw [if_neg h2] at k
        walk_at "w"
        cases el : S.book.getLast? with
        | none =>
          rw [el] at k
          exact k.elim
        | some e =>
          rw [el] at k
          refine w_bookLast W el fun b B => ?_
          walk_at "w"
          refine w_st_now B T fun H3 W3 => ?_
          rw [set_end el] at W3
          exact k _ W3
/-- given, lacking, by turns -/
def gSW {α : Type} (vs mz zs : List α) : List α := vs ++ (zs.take 1 ++ (mz.take 1 ++ (zs.drop 1 ++ mz.drop 1)))
/-! ### words of the book -/
def spEntryInit (c : Cn) : Sp := fun vs H Q _ => ∃ (a : Addr) (n : Int) (z : Str) (k : Kind) (st fi wo : Int) (now : Bool), vs = [.ref a, .int n, .str z, .str k.str, .int st, .int fi, .int wo, .bl now] ∧ (∃ dx, H a = some (.ins c.CE dx [])) ∧
  ∀ dx, H a = some (.ins c.CE dx []) → Q .non (upd H a (.ins c.CE dx (eF { num := n, name := z, kind := k, start := st, fin := fi, worth := wo, beyond := none, now := now })))
theorem w_stE {f : Str} {y : V} {a dx : Addr} {fs : List (Str × V)} {H : Hp} {R : Hp → Prop} (h : H a = some (.ins c.CE dx fs)) (T : HCls K c) (hf : eKeys.contains f = true) (hz : fs.length < 1000) (q : R (upd H a (.ins c.CE dx (putF f y fs)))) : rSfld K f y (.ref a) H R :=
  ⟨a, c.CE, dx, fs, rfl, h, T.cE, T.nE _ hf, hz, q⟩
theorem sc_Entry_init : FnScope ["self", "number", "name", "kind", "start", "end", "worth", "is_now"] ["self", "number", "name", "kind", "start", "end", "worth", "is_now"] (defScope (inClass (top 37) 0)) := ⟨rfl, rfl, rfl, by decide +kernel, rfl, by decide +kernel, by decide +kernel⟩
theorem ok_Entry_init {f : Addr} {fd : FuncData} (F : FnT K "__init__" "Entry.__init__" (inClass (top 37) 0) [] [("start", .int 0), ("end", .int 0), ("worth", .int 0), ("is_now", .bl false)] f fd) (T : HCls K c) (R : Er P w K mg base cls) : FnOk P w K mg base (L2N.CX P w) 1 f fd ["self", "number", "name", "kind", "start", "end", "worth", "is_now"] (spEntryInit c) := by
  refine F.ok sc_Entry_init (fun vs H Q E h => ?_) (fun cdv A outer s H vs Q E hr h => ?_)
  · obtain ⟨a, n, z, kd, st, fi, wo, now, rfl, _⟩ := h
    rfl
  · obtain ⟨a, n, z, kd, st, fi, wo, now, rfl, ha, k⟩ := h
    try dsimp only at k
    refine ⟨_, (pss_cons (ps_fld (pv 0) (pv 1) rfl)
      (pss_cons (ps_fld (pv 0) (pv 2) rfl)
      (pss_cons (ps_fld (pv 0) (pv 3) rfl)
      (pss_cons (ps_fld (pv 0) (pv 4) rfl)
      (pss_cons (ps_fld (pv 0) (pv 5) rfl)
      (pss_cons (ps_fld (pv 0) (pv 4) rfl)
      (pss_cons (ps_fld (pv 0) (pv 6) rfl)
      (pss_cons (ps_fld (pv 0) pe_non rfl)
      (pss_one (ps_fld (pv 0) (pv 7) rfl)))))))))), ?_⟩
    try dsimp only [cxOf_K]
    obtain ⟨⟨dx, ha⟩, k⟩ := And.intro ha k
    walk_at "w"
    refine w_stE ha T (by decide +kernel) (Nat.le_of_ble_eq_true rfl) ?_
    walk_at "w"
    refine w_stE upd_same T (by decide +kernel) (Nat.le_of_ble_eq_true rfl) ?_
    rw [upd_upd]
    walk_at "w"
    refine w_stE upd_same T (by decide +kernel) (Nat.le_of_ble_eq_true rfl) ?_
    rw [upd_upd]
    walk_at "w"
    refine w_stE upd_same T (by decide +kernel) (Nat.le_of_ble_eq_true rfl) ?_
    rw [upd_upd]
    walk_at "w"
    refine w_stE upd_same T (by decide +kernel) (Nat.le_of_ble_eq_true rfl) ?_
    rw [upd_upd]
    walk_at "w"
    refine w_stE upd_same T (by decide +kernel) (Nat.le_of_ble_eq_true rfl) ?_
    rw [upd_upd]
    walk_at "w"
    refine w_stE upd_same T (by decide +kernel) (Nat.le_of_ble_eq_true rfl) ?_
    rw [upd_upd]
    walk_at "w"
    refine w_stE upd_same T (by decide +kernel) (Nat.le_of_ble_eq_true rfl) ?_
    rw [upd_upd]
    walk_at "w"
    refine w_stE upd_same T (by decide +kernel) (Nat.le_of_ble_eq_true rfl) ?_
    rw [upd_upd]
    exact k dx ha
end
end WH
set_option Elab.async false
set_option linter.all false
set_option maxRecDepth 100000
set_option maxHeartbeats 2000000
namespace WH
open PySem PySem.Spec PyProof.Rows L2
local macro_rules | `(tactic| walk_at "w") => `(tactic| repeat (with_reducible first
  | (refine is_te ?_; first | refine w_var (by with_unfolding_all rfl) ?_ | refine w_c ?_ | refine w_op ?_ | refine w_cb ?_ | refine w_call ?_ | refine w_self (by assumption) (by with_unfolding_all rfl) (by decide +kernel) ?_ | refine w_ife ?_ | (refine is_fld ?_; first | refine w_cells (by assumption) (by assumption) (by with_unfolding_all rfl) ?_ | refine w_stack (by assumption) (by assumption) (by with_unfolding_all rfl) ?_ | refine w_back (by assumption) (by assumption) (by with_unfolding_all rfl) ?_ | refine w_most_cells (by assumption) (by assumption) (by with_unfolding_all rfl) ?_ | refine w_most_stack (by assumption) (by assumption) (by with_unfolding_all rfl) ?_ | refine w_book (by assumption) (by assumption) (by with_unfolding_all rfl) ?_ | refine w_spot (by assumption) (by assumption) (by with_unfolding_all rfl) ?_ | refine w_left (by assumption) (by assumption) (by with_unfolding_all rfl) ?_ | refine w_at (by assumption) (by assumption) (by with_unfolding_all rfl) ?_ | refine w_told (by assumption) (by assumption) (by with_unfolding_all rfl) ?_ | refine w_words (by assumption) (by assumption) (by with_unfolding_all rfl) ?_ | refine w_mode (by assumption) (by assumption) (by with_unfolding_all rfl) ?_ | refine w_ties (by assumption) (by assumption) (by with_unfolding_all rfl) ?_ | refine w_many_deeds (by assumption) (by assumption) (by with_unfolding_all rfl) ?_ | refine w_steps (by assumption) (by assumption) (by with_unfolding_all rfl) ?_ | refine w_fld ?_) | refine w_lst ?_ | refine w_tup ?_ | refine w_bm ?_ | refine w_bm0 ?_ | refine w_un ?_ | refine w_sl ?_ | refine w_chain ?_)
  | (refine is_ta ?_; first | refine w_cons ?_ | refine w_nil ?_)
  | refine w_gn ?_
  | (refine is_ts ?_; first | refine w_seq ?_ | refine w_asg ?_ | refine w_ifs ?_ | refine w_drop ?_ | refine w_next ?_ | refine w_ret ?_ | refine w_retN ?_ | refine w_sfld ?_ | refine w_augS ?_ | refine w_aug_spot (by assumption) (by assumption) (by with_unfolding_all rfl) ?_ | refine w_aug_left (by assumption) (by assumption) (by with_unfolding_all rfl) ?_ | refine w_aug_at (by assumption) (by assumption) (by with_unfolding_all rfl) ?_)
  | (refine is_tt ?_; first | refine w_test ?_ | refine w_and ?_ | refine w_or ?_ | refine w_not ?_ | refine w_tB ?_)
  | (refine is_r2 ?_; first | refine w_i0 ?_ | refine w_eqt ?_ | refine w_eqi ?_ | refine w_net ?_ | refine w_nei ?_ | refine w_isN ?_ | refine w_notN ?_ | refine w_rAdd ?_ | refine w_rSub ?_ | refine w_ipI ?_)
  | (refine is_ty ?_; first | refine w_tyS' (by assumption) ?_ | refine w_tyC (by assumption) ?_ | refine w_tyB (by assumption) ?_ | refine w_tyT (by assumption) ?_ | refine w_tyK (by assumption) ?_ | refine w_tyI (by assumption) ?_)
  | (refine is_ln ?_; first | refine w_lnS (by assumption) ?_ | refine w_lnC (by assumption) ?_ | refine w_lnB (by assumption) ?_ | refine w_lnT (by assumption) ?_ | refine w_lnW (by assumption) ?_ | refine w_lnK (by assumption) ?_)
  | (refine is_rf ?_; first | refine e_kind (by assumption) (by assumption) ?_ | refine e_name (by assumption) (by assumption) ?_ | refine e_number (by assumption) (by assumption) ?_ | refine e_start (by assumption) (by assumption) ?_ | refine e_end (by assumption) (by assumption) ?_ | refine e_was (by assumption) (by assumption) ?_ | refine e_worth (by assumption) (by assumption) ?_ | refine e_beyond (by assumption) (by assumption) ?_ | refine e_is_now (by assumption) (by assumption) ?_)
  | refine w_bl ?_ | refine w_mkw ?_ | refine w_mknw ?_ | refine w_part1 ?_ | refine w_neg ?_ | refine w_smk ?_ | refine w_smkn ?_ | refine w_noP ?_ | refine w_part ?_ | refine w_gcut ?_ | refine w_gsub ?_))

/-- a new word that stands in no book yet -/
def FreshE (c : Cn) (p : Addr) (S : MS) (U : List Seen) (L : Ls) (H0 H : Hp) (b : Addr × Addr) (e : Ent) : Prop := ∃ hs G, Sep H0 hs H ∧ HouseP c p S U G hs ∧ G.L = L ∧ H0 b.1 = none ∧ hs b.1 = none ∧ H b.1 = some (.ins c.CE b.2 (eF e))
def MkN (C : Addr) (n m : Nat) (sp : Sp) (gV : List V → List V → List V) (E : XK) (vs zs : List V) (H : Hp) (Q : VK) : Prop := vs.length = n ∧ zs.length = m ∧ ∀ x dx, H x = none → H dx = none → dx ≠ x →
  sp (gV (.ref x :: vs) zs) (upd (upd H dx (.own x)) x (.ins C dx [])) (fun v H3 => v = .non ∧ Q (.ref x) H3) E
section
variable {K : PySem.W.Frag} {c : Cn} {p : Addr} {S : MS} {U : List Seen} {L : Ls} {H0 H : Hp} {Q : VK} {R : Hp → Prop} {E : XK} {σ : L2.St} {e : Ent} {b : Addr × Addr} {k : VK}
theorem w_mkK {C : Addr} {n m : Nat} {sp : Sp} {gV : List V → List V → List V} {t tk : TA} (q : t σ H fun vs H1 => tk σ H1 fun zs H2 => MkN C n m sp gV E vs zs H2 Q) : tMakeK C n m sp gV E t tk σ H Q := q
theorem Sep.claim {hs : Hp} {a : Addr} {o : HO} (s : Sep H0 hs H) (h0 : H0 a = none) (h : H a = some o) (hn : hs a = none) : Sep H0 (upd hs a o) H := by
  refine ⟨fun d => ?_, s.fr, fun d v q => ?_⟩
  · by_cases z : d = a
    · rw [z]
      exact .inl h0
    · rw [upd_ne z]
      exact s.dj d
  · by_cases z : d = a
    · rw [z, upd_same] at q
      rw [z, h]
      exact q
    · rw [upd_ne z] at q
      exact s.own d v q
theorem w_newEnt (W : HOwn c p S U L H0 H) (hb : e.beyond = none) {Q' : VK} (q : ∀ b H1, FreshE c p S U L H0 H1 b e → Q' (.ref b.1) H1) {x dx : Addr} (hx : H x = none) (hdx : H dx = none) (hne : dx ≠ x) :
    spEntryInit c [.ref x, .int e.num, .str e.name, .str e.kind.str, .int e.start, .int e.fin, .int e.worth, .bl e.now] (upd (upd H dx (.own x)) x (.ins c.CE dx [])) (fun v H2 => v = .non ∧ Q' (.ref x) H2) E := by
  refine ⟨x, e.num, e.name, e.kind, e.start, e.fin, e.worth, e.now, rfl, ⟨dx, upd_same⟩, fun dx' h => ⟨rfl, ?_⟩⟩
  rw [upd_same] at h
  injection h with h1
  injection h1 with _ h2 _
  subst h2
  rw [upd_upd]
  have ee : ({ num := e.num, name := e.name, kind := e.kind, start := e.start, fin := e.fin, worth := e.worth, beyond := none, now := e.now } : Ent) = e := by
    cases e
    cases hb
    rfl
  rw [ee]
  obtain ⟨hs, G, s, P, el⟩ := W
  have hx2 : upd H dx (.own x) x = none := by
    rw [upd_ne hne.symm]
    exact hx
  exact q (x, dx) _ ⟨hs, G, (s.skip hdx).skip hx2, P, el, s.fresh0 hx, s.freshs hx, upd_same⟩
theorem w_mkEnt {n m : Nat} {gV : List V → List V → List V} {vs zs : List V} {Q' : VK} (W : HOwn c p S U L H0 H) (hb : e.beyond = none) (h1 : vs.length = n) (h2 : zs.length = m)
    (hg : ∀ x, gV (.ref x :: vs) zs = [.ref x, .int e.num, .str e.name, .str e.kind.str, .int e.start, .int e.fin, .int e.worth, .bl e.now]) (q : ∀ b H1, FreshE c p S U L H0 H1 b e → Q' (.ref b.1) H1) : MkN c.CE n m (spEntryInit c) gV E vs zs H Q' :=
  ⟨h1, h2, fun x dx hx hdx hne => by
    rw [hg]
    exact w_newEnt W hb q hx hdx hne⟩
theorem w_bookPush (F : FreshE c p S U L H0 H b e) (hz : S.book.length < LIM) (q : ∀ H1, HOwn c p { S with book := S.book ++ [e] } U L H0 H1 → k .non H1) : rAppend (.ref L.lk) [.ref b.1] H k := by
  obtain ⟨hs, G, s, P, rfl, h0, hn, h⟩ := F
  have hl : (refs G.es).length = S.book.length := (List.length_map ..).trans P.ents.len
  refine ⟨G.L.lk, refs G.es, .ref b.1, rfl, rfl, s.own _ _ P.book, by rw [hl]; exact lim_lt hz, q _ ?_⟩
  have P1 := P.beside (o := .ins c.CE b.2 (eF e)) hn
  have s1 := s.claim h0 h hn
  have e1 : refs G.es ++ [V.ref b.1] = refs (G.es ++ [b]) := by
    unfold refs
    rw [List.map_append]
    rfl
  rw [e1]
  refine ⟨_, { G with es := G.es ++ [b] }, s1.put P1.book, P1.book_set (P1.ents.app (.cons upd_same .nil)) ?_, rfl⟩
  rw [List.map_append]
  refine List.nodup_append.mpr ⟨P.nd, by simp, fun x hx y hy e => ?_⟩
  simp at hy
  subst hy
  subst e
  obtain ⟨a, ha, he⟩ := List.mem_map.mp hx
  obtain ⟨i, hi⟩ := List.getElem?_of_mem ha
  obtain ⟨e', _, g⟩ := P.ents.getL hi
  unfold entV at g
  rw [he, hn] at g
  cases g
theorem w_st_openedN (W : HOwn c p S U L H0 H) (T : HCls K c) (q : ∀ H1, HOwn c p { S with opened := none } U L H0 H1 → R H1) : rSfld K "opened" .non (.ref p) H R := by
  obtain ⟨hs, G, s, P, e⟩ := W
  refine ⟨p, c.CH, G.dx, hF S G, rfl, s.own _ _ P.ob, T.cH, T.nH _ (by decide +kernel), hF_len, q _ ?_⟩
  rw [hP_opened]
  exact ⟨_, _, s.put P.ob, P.op_set (o := none) rfl, e⟩
theorem w_st_openedT {t : Addr} {z : Str} {i : Int} (W : HOwn c p S U L H0 H) (T : HCls K c) (ht : H t = none) (q : ∀ H1, HOwn c p { S with opened := some (z, i) } U L H0 H1 → R H1) : rSfld K "opened" (.ref t) (.ref p) (upd H t (.tup [.str z, .int i])) R := by
  obtain ⟨hs, G, s, P, e⟩ := W
  have s1 := s.new (u := .tup [.str z, .int i]) ht
  have P1 := P.beside (o := .tup [.str z, .int i]) (s.freshs ht)
  refine ⟨p, c.CH, G.dx, hF S G, rfl, s1.own _ _ P1.ob, T.cH, T.nH _ (by decide +kernel), hF_len, q _ ?_⟩
  rw [hP_opened]
  exact ⟨_, _, s1.put P1.ob, P1.op_set (o := some (z, i)) ⟨t, rfl, upd_same⟩, e⟩
theorem w_tiePush {t : Addr} {z : Str} {i : Int} (W : HOwn c p S U L H0 H) (ht : H t = none) (hz : S.ties.length < LIM) (q : ∀ H1, HOwn c p { S with ties := S.ties ++ [(z, i)] } U L H0 H1 → k .non H1) : rAppend (.ref L.li) [.ref t] (upd H t (.tup [.str z, .int i])) k := by
  obtain ⟨hs, G, s, P, rfl⟩ := W
  have s1 := s.new (u := .tup [.str z, .int i]) ht
  have P1 := P.beside (o := .tup [.str z, .int i]) (s.freshs ht)
  obtain ⟨ts, h1, h2⟩ := P1.ties
  refine ⟨G.L.li, _, .ref t, rfl, rfl, s1.own _ _ h1, by rw [List.length_map, h2.len]; exact lim_lt hz, q _ ?_⟩
  have e1 : ts.map V.ref ++ [V.ref t] = (ts ++ [t]).map V.ref := by
    rw [List.map_append]
    rfl
  rw [e1]
  exact ⟨_, G, s1.put h1, P1.ties_set (h2.app (.cons upd_same .nil)), rfl⟩
theorem All2.dropLast {α β : Type} {R : α → β → Prop} {as : List α} {bs : List β} (h : All2 R as bs) : All2 R as.dropLast bs.dropLast := by
  rw [List.dropLast_eq_take, List.dropLast_eq_take, h.len]
  exact h.take _
theorem w_tiePop {z : Str} {i : Int} (W : HOwn c p S U L H0 H) (h : S.ties.getLast? = some (z, i)) (q : ∀ t H1, HOwn c p { S with ties := S.ties.dropLast } U L H0 H1 → SqT K H1 t [.str z, .int i] → k (.ref t) H1) : rPop (.ref L.li) [] H k := by
  obtain ⟨hs, G, s, P, rfl⟩ := W
  obtain ⟨ts, h1, h2⟩ := P.ties
  have hi : S.ties[S.ties.length - 1]? = some (z, i) := by rw [← List.getLast?_eq_getElem?]; exact h
  obtain ⟨t, g1, g2⟩ := h2.get hi
  refine ⟨G.L.li, _, .ref t, rfl, rfl, s.own _ _ h1, ?_, q t _ ?_ ?_⟩
  · rw [List.length_map, h2.len, List.getElem?_map, g1]
    rfl
  · have e1 : (ts.map V.ref).dropLast = ts.dropLast.map V.ref := (List.map_dropLast ..).symm
    rw [e1]
    exact ⟨_, G, s.put h1, P.ties_set h2.dropLast, rfl⟩
  · refine SqT.of ?_
    rw [upd_ne (ne_of (s.own _ _ g2) (s.own _ _ h1) fun e => by cases e)]
    exact s.own _ _ g2
theorem FreshE.own (F : FreshE c p S U L H0 H b e) : HOwn c p S U L H0 H := by
  obtain ⟨hs, G, s, P, h, _⟩ := F
  exact ⟨hs, G, s, P, h⟩
end
section
variable {P : Program} {w : World} {K : PySem.W.Frag} {mg : Str → Option Value} {base : Heap} {c : Cn} {cls : Err → Addr}
def spAddEntry (c : Cn) (cls : Err → Addr) : Sp := spOf c cls (fun b : (Str × Kind) × Int => [.str b.1.1, .str b.1.2.str, .int b.2]) (fun b => addEntry b.1.1 b.1.2 b.2) (fun _ => .non)
theorem sc_add_entry : FnScope ["self", "name", "kind", "worth"] ["self", "name", "kind", "worth"] (defScope (inClass (top 48) 19)) := ⟨rfl, rfl, rfl, by decide +kernel, rfl, by decide +kernel, by decide +kernel⟩
theorem ok_add_entry {f : Addr} {fd : FuncData} (F : FnT K "add_entry" "House.add_entry" (inClass (top 48) 19) [] [("worth", .int 0)] f fd) (g : Gb w K mg) (T : HCls K c) (R : Er P w K mg base cls)
    (M_Entry_start_worth : MakeKOk P w K mg base "Entry" c.CE 1 (spEntryInit c) 3 (["start", "worth"] : List Str) (fun vs zs => gSW vs [.int 0, .bl false] zs)) : FnOk P w K mg base (L2N.CX P w) 3 f fd ["self", "name", "kind", "worth"] (spAddEntry c cls) := by
  refine F.ok sc_add_entry (fun vs H Q E h => ?_) (fun cdv A outer s H vs Q E hr h => ?_)
  · obtain ⟨p, S, U, L, H0, b, rfl, _⟩ := h
    rfl
  · obtain ⟨p, S, U, L, H0, b, rfl, W, k⟩ := h
    try dsimp only at k
    refine ⟨_, (pss_one (ps_expr (pe_bm PySem.F.plainAttrs_list PySem.F.slot_list_append PySem.F.type_list_append mt_append (pe_fld (pv 0) rfl) (pa_cons (pe_cMK M_Entry_start_worth (hr.mono (by first | decide | omega)) (L2N.passes_call (L2N.takes_of rfl rfl rfl rfl) fun _ _ _ _ z => z) (pa_cons (pe_callB call_ln (by rfl) g.len PySem.boot_len (pa_cons (pe_fld (pv 0) rfl) pa_nil)) (pa_cons (pv 1) (pa_cons (pv 2) pa_nil))) (pk_cons (pe_callB call_ln (by rfl) g.len PySem.boot_len (pa_cons (pe_fld (pv 0) rfl) pa_nil)) (pk_cons (pv 3) pk_nil))) pa_nil)))), ?_⟩
    try dsimp only [cxOf_K]
    unfold addEntry at k
    by_cases hz : S.book.length < LIM
    rotate_left
    · rw [if_neg hz] at k
      exact k.elim
    rw [if_pos hz] at k
    walk_at "w"
    refine w_mkK ?_
    walk_at "w"
    refine w_mkEnt (e := { num := S.book.length, name := b.1.1, kind := b.1.2, start := S.cells.length, fin := 0, worth := b.2, beyond := none, now := false }) W rfl rfl rfl (fun _ => rfl) fun b1 H1 F => ?_
    walk_at "w"
    refine w_bookPush F hz fun H2 W2 => ?_
    exact k _ W2
def spEndWord (c : Cn) (cls : Err → Addr) : Sp := spOf c cls (fun b : Unit => []) (fun _ => endWord) (fun _ => .non)
theorem sc_end_word : FnScope ["self", "name", "begins", "entry"] ["self"] (defScope (inClass (top 48) 22)) := ⟨rfl, rfl, rfl, by decide +kernel, rfl, by decide +kernel, by decide +kernel⟩
theorem ok_end_word {f : Addr} {fd : FuncData} (F : FnT K "end_word" "House.end_word" (inClass (top 48) 22) [] [] f fd) (g : Gb w K mg) (T : HCls K c) (R : Er P w K mg base cls)
    (M_lay1 : MethOk P w K mg base c.CH "lay" 5 (spLay c cls) [])
    (M_number_for1 : MethOk P w K mg base c.CH "number_for" 3 (spNumberFor c cls) [])
    (M_Entry_start_end : MakeKOk P w K mg base "Entry" c.CE 1 (spEntryInit c) 3 (["start", "end"] : List Str) (fun vs zs => vs ++ zs ++ [.int 0, .bl false])) : FnOk P w K mg base (L2N.CX P w) 6 f fd ["self"] (spEndWord c cls) := by
  refine F.ok sc_end_word (fun vs H Q E h => ?_) (fun cdv A outer s H vs Q E hr h => ?_)
  · obtain ⟨p, S, U, L, H0, b, rfl, _⟩ := h
    rfl
  · obtain ⟨p, S, U, L, H0, b, rfl, W, k⟩ := h
    try dsimp only at k
    refine ⟨_, (pss_cons (ps_if (pt_cmpR (op_neE (Nat.lt_of_succ_lt (hu_of hr))) (pe_fld (pv 0) rfl) (pe_lst pa_nil) (nomark _)) (pss_one (ps_rw R.unfit rfl (hr.mono (by first | decide | omega)) (L2N.takes_of rfl rfl rfl rfl) (pe_fld (pv 0) rfl))) pss_nil)
      (pss_cons (ps_expr (pe_mM M_lay1 T.cH (hr.mono (by first | decide | omega)) (L2N.passes_call (L2N.takes_of rfl rfl rfl rfl) fun _ _ _ _ z => z) (pv 0) (pa_cons (pe_lst (pa_cons (pe_mM M_number_for1 T.cH (hr.mono (by first | decide | omega)) (L2N.passes_call (L2N.takes_of rfl rfl rfl rfl) fun _ _ _ _ z => z) (pv 0) (pa_cons pe_str pa_nil)) pa_nil)) pa_nil)))
      (pss_cons (ps_asg (pe_fld (pv 0) rfl) (pg_tup rfl (pgs_cons (pg_name (i := 1) sc_end_word.nd rfl (Or.inl rfl)) (pgs_cons (pg_name (i := 2) sc_end_word.nd rfl (Or.inl rfl)) pgs_nil))))
      (pss_cons (ps_set (i := 3) sc_end_word.nd rfl (Or.inl rfl) (pe_cMK M_Entry_start_end (hr.mono (by first | decide | omega)) (L2N.passes_call (L2N.takes_of rfl rfl rfl rfl) fun _ _ _ _ z => z) (pa_cons (pe_callB call_ln (by rfl) g.len PySem.boot_len (pa_cons (pe_fld (pv 0) rfl) pa_nil)) (pa_cons (pv 1) (pa_cons pe_str pa_nil))) (pk_cons (pv 2) (pk_cons (pe_callB call_ln (by rfl) g.len PySem.boot_len (pa_cons (pe_fld (pv 0) rfl) pa_nil)) pk_nil))))
      (pss_cons (ps_expr (pe_bm PySem.F.plainAttrs_list PySem.F.slot_list_append PySem.F.type_list_append mt_append (pe_fld (pv 0) rfl) (pa_cons (pv 3) pa_nil)))
      (pss_cons (ps_fld (pv 0) pe_non rfl)
      (pss_one (ps_fld (pv 0) pe_bl rfl)))))))), ?_⟩
    try dsimp only [cxOf_K]
    unfold endWord at k
    replace k := k.get
    walk_at "w"
    refine ⟨Nat.zero_le _, fun q hq => ?_⟩
    have W1 := W.newF (u := .lst []) hq
    have hq0 := W.fresh hq
    have hq2 : upd H q (.lst []) q = some (.lst []) := upd_same
    generalize upd H q (.lst []) = H1 at W1 hq2 ⊢
    refine w_someTies W1 hq2 ?_
    replace W1 := W1.shrink hq0
    walk_at "w"
    refine ite_ndec (fun h1 => ?_) (fun h1 => ?_)
    · rw [if_pos h1] at k
      walk_at "w"
      exact fun d hd => fin_err k W1 rfl hd rfl
    · rw [if_neg (fun h => h h1)] at k
      walk_at "w"
      refine c_numFor W1 k fun x H2 W k => ?_
      walk_at "w"
      refine ⟨by show 1 ≤ sizeLine; decide, fun q hq => ?_⟩
      walk_at "w"
      refine c_lay (xs := [x]) W k (by show 1 ≤ 10; decide) hq fun H3 W k => ?_
      replace k := k.get
      obtain ⟨hz, k⟩ := k.must
      rw [decide_eq_true_iff] at hz
      walk_at "w"
      refine w_openedR W T fun v hv => ?_
      dsimp only at hv k
      cases eo : S.opened with
      | none =>
        rw [eo] at k
        exact k.elim
      | some nb =>
        obtain ⟨n, bg⟩ := nb
        rw [eo] at hv k
        obtain ⟨t, rfl, ht⟩ := hv
        refine w_tup2 (SqT.of ht) rfl ?_
        walk_at "w"
        refine w_mkK ?_
        walk_at "w"
        refine w_mkEnt (e := { num := S.book.length, name := n, kind := .row, start := bg, fin := ((S.cells ++ [x]).length : Int), worth := 0, beyond := none, now := false }) W rfl rfl rfl (fun _ => rfl) fun b1 H4 F => ?_
        have W4 := F.own
        walk_at "w"
        refine w_bookPush F hz fun H5 W5 => ?_
        walk_at "w"
        refine w_st_openedN W5 T fun H6 W6 => ?_
        walk_at "w"
        refine w_st_mode W6 T fun H7 W7 _ => ?_
        exact k _ W7
end
end WH
set_option Elab.async false
set_option linter.all false
set_option maxRecDepth 100000
set_option maxHeartbeats 2000000
namespace WH
open PySem PySem.Spec PyProof.Rows L2
local macro_rules | `(tactic| walk_at "w") => `(tactic| repeat (with_reducible first
  | (refine is_te ?_; first | refine w_var (by with_unfolding_all rfl) ?_ | refine w_c ?_ | refine w_op ?_ | refine w_cb ?_ | refine w_call ?_ | refine w_self (by assumption) (by with_unfolding_all rfl) (by decide +kernel) ?_ | refine w_ife ?_ | (refine is_fld ?_; first | refine w_cells (by assumption) (by assumption) (by with_unfolding_all rfl) ?_ | refine w_stack (by assumption) (by assumption) (by with_unfolding_all rfl) ?_ | refine w_back (by assumption) (by assumption) (by with_unfolding_all rfl) ?_ | refine w_most_cells (by assumption) (by assumption) (by with_unfolding_all rfl) ?_ | refine w_most_stack (by assumption) (by assumption) (by with_unfolding_all rfl) ?_ | refine w_book (by assumption) (by assumption) (by with_unfolding_all rfl) ?_ | refine w_spot (by assumption) (by assumption) (by with_unfolding_all rfl) ?_ | refine w_left (by assumption) (by assumption) (by with_unfolding_all rfl) ?_ | refine w_at (by assumption) (by assumption) (by with_unfolding_all rfl) ?_ | refine w_told (by assumption) (by assumption) (by with_unfolding_all rfl) ?_ | refine w_words (by assumption) (by assumption) (by with_unfolding_all rfl) ?_ | refine w_mode (by assumption) (by assumption) (by with_unfolding_all rfl) ?_ | refine w_ties (by assumption) (by assumption) (by with_unfolding_all rfl) ?_ | refine w_many_deeds (by assumption) (by assumption) (by with_unfolding_all rfl) ?_ | refine w_steps (by assumption) (by assumption) (by with_unfolding_all rfl) ?_ | refine w_fld ?_) | refine w_lst ?_ | refine w_tup ?_ | refine w_bm ?_ | refine w_bm0 ?_ | refine w_un ?_ | refine w_sl ?_ | refine w_chain ?_)
  | (refine is_ta ?_; first | refine w_cons ?_ | refine w_nil ?_)
  | refine w_gn ?_
  | (refine is_ts ?_; first | refine w_seq ?_ | refine w_asg ?_ | refine w_ifs ?_ | refine w_drop ?_ | refine w_next ?_ | refine w_ret ?_ | refine w_retN ?_ | refine w_sfld ?_ | refine w_augS ?_ | refine w_aug_spot (by assumption) (by assumption) (by with_unfolding_all rfl) ?_ | refine w_aug_left (by assumption) (by assumption) (by with_unfolding_all rfl) ?_ | refine w_aug_at (by assumption) (by assumption) (by with_unfolding_all rfl) ?_)
  | (refine is_tt ?_; first | refine w_test ?_ | refine w_and ?_ | refine w_or ?_ | refine w_not ?_ | refine w_tB ?_)
  | (refine is_r2 ?_; first | refine w_i0 ?_ | refine w_eqt ?_ | refine w_eqi ?_ | refine w_net ?_ | refine w_nei ?_ | refine w_isN ?_ | refine w_notN ?_ | refine w_rAdd ?_ | refine w_rSub ?_ | refine w_ipI ?_)
  | (refine is_ty ?_; first | refine w_tyS' (by assumption) ?_ | refine w_tyC (by assumption) ?_ | refine w_tyB (by assumption) ?_ | refine w_tyT (by assumption) ?_ | refine w_tyK (by assumption) ?_ | refine w_tyI (by assumption) ?_)
  | (refine is_ln ?_; first | refine w_lnS (by assumption) ?_ | refine w_lnC (by assumption) ?_ | refine w_lnB (by assumption) ?_ | refine w_lnT (by assumption) ?_ | refine w_lnW (by assumption) ?_ | refine w_lnK (by assumption) ?_)
  | (refine is_rf ?_; first | refine e_kind (by assumption) (by assumption) ?_ | refine e_name (by assumption) (by assumption) ?_ | refine e_number (by assumption) (by assumption) ?_ | refine e_start (by assumption) (by assumption) ?_ | refine e_end (by assumption) (by assumption) ?_ | refine e_was (by assumption) (by assumption) ?_ | refine e_worth (by assumption) (by assumption) ?_ | refine e_beyond (by assumption) (by assumption) ?_ | refine e_is_now (by assumption) (by assumption) ?_)
  | refine w_bl ?_ | refine w_mkw ?_ | refine w_mknw ?_ | refine w_part1 ?_ | refine w_neg ?_ | refine w_smk ?_ | refine w_smkn ?_ | refine w_noP ?_ | refine w_part ?_ | refine w_gcut ?_ | refine w_gsub ?_))

section
variable {α : Type} {c : Cn} {cls : Err → Addr} {p : Addr} {U : List Seen} {L : Ls} {H0 H : Hp} {post : α → MS → Prop} {E : XK} {S : MS} {i : Int} {z : Str}
theorem Ends.popTie {f : Int → M α} (k : WH.Ends c cls p U L H0 post E ((WH.popTie >>= f) S)) : ∃ z i, S.ties.getLast? = some (z, i) ∧ WH.Ends c cls p U L H0 post E (f i { S with ties := S.ties.dropLast }) := by
  have k := k.bind
  unfold WH.popTie at k
  cases h : S.ties.getLast? with
  | some x =>
    obtain ⟨z, i⟩ := x
    rw [h] at k
    exact ⟨z, i, rfl, k⟩
  | none =>
    rw [h] at k
    exact k.elim
theorem Ends.addTie1 {post : Unit → MS → Prop} (k : WH.Ends c cls p U L H0 post E (addTie z i S)) : S.ties.length < LIM ∧ post () { S with ties := S.ties ++ [(z, i)] } := by
  unfold addTie at k
  by_cases h : S.ties.length < LIM
  · rw [if_pos h] at k
    exact ⟨h, k⟩
  · rw [if_neg h] at k
    exact k.elim
theorem Ends.close {f : Unit → M α} (k : WH.Ends c cls p U L H0 post E ((WH.close i >>= f) S)) : 0 ≤ i ∧ i < (S.cells.length : Int) ∧ WH.Ends c cls p U L H0 post E (f () { S with cells := S.cells.set i.toNat S.cells.length }) := by
  have k := k.bind
  unfold WH.close at k
  by_cases h : 0 ≤ i ∧ i < (S.cells.length : Int)
  · rw [if_pos h] at k
    exact ⟨h.1, h.2, k⟩
  · rw [if_neg h] at k
    exact k.elim
theorem Ends.close1 {post : Unit → MS → Prop} (k : WH.Ends c cls p U L H0 post E (WH.close i S)) : 0 ≤ i ∧ i < (S.cells.length : Int) ∧ post () { S with cells := S.cells.set i.toNat S.cells.length } := by
  unfold WH.close at k
  by_cases h : 0 ≤ i ∧ i < (S.cells.length : Int)
  · rw [if_pos h] at k
    exact ⟨h.1, h.2, k⟩
  · rw [if_neg h] at k
    exact k.elim
theorem Ends.tieCell {n : Nat} {f : Int → M α} (k : WH.Ends c cls p U L H0 post E ((WH.tieCell n >>= f) S)) : ∃ z i, S.ties[S.ties.length - n]? = some (z, i) ∧ n ≤ S.ties.length ∧ WH.Ends c cls p U L H0 post E (f i S) := by
  have k := k.bind
  unfold WH.tieCell at k
  cases h : S.ties[S.ties.length - n]? with
  | some x =>
    obtain ⟨z, i⟩ := x
    rw [h] at k
    dsimp only at k
    by_cases h2 : n ≤ S.ties.length
    · rw [if_pos h2] at k
      exact ⟨z, i, rfl, h2, k⟩
    · rw [if_neg h2] at k
      exact k.elim
  | none =>
    rw [h] at k
    exact k.elim
theorem w_setC {K : PySem.W.Frag} {x : Int} {R : Hp → Prop} (W : HOwn c p S U L H0 H) (h0 : 0 ≤ i) (h1 : i < (S.cells.length : Int)) (q : ∀ H1, HOwn c p { S with cells := S.cells.set i.toNat x } U L H0 H1 → R H1) : rSetL (.ref L.lc) (.int i) (.int x) H R := by
  refine ⟨L.lc, _, i, i.toNat, rfl, rfl, W.cells, ?_, q _ ?_⟩
  · rw [iv_len]
    unfold ixN
    rw [if_pos h0]
    first
      | rfl
      | (rw [if_pos (by omega)])
  · have e5 : (iv S.cells).set i.toNat (.int x) = iv (S.cells.set i.toNat x) := (List.map_set ..).symm
    rw [e5]
    exact W.cells_set
theorem w_tieAt {K : PySem.W.Frag} {n : Nat} {Q : VK} (W : HOwn c p S U L H0 H) (h : S.ties[S.ties.length - n]? = some (z, i)) (h1 : 1 ≤ n) (h2 : n ≤ S.ties.length) (q : ∀ t, SqT K H t [.str z, .int i] → Q (.ref t) H) : rIxL K (.ref L.li) (.int (-(n : Int))) H Q := by
  obtain ⟨ts, g1, g2⟩ := W.ties
  obtain ⟨t, g3, g4⟩ := g2.get h
  refine w_ixL g1 ?_ (q t (SqT.of g4))
  unfold atI ixN
  rw [List.length_map, g2.len, if_neg (by omega), if_pos (by omega)]
  show (ts.map V.ref)[(-(n : Int) + (S.ties.length : Int)).toNat]? = some (.ref t)
  rw [show (-(n : Int) + (S.ties.length : Int)).toNat = S.ties.length - n by omega, List.getElem?_map, g3]
  rfl
theorem w_disp3 {k1 k2 k3 : Str} {v1 v2 v3 v : V} {j : Nat} {σ : L2.St} {Q : VK} (hσ : σ[j]? = some (some (.str z))) (hv : valV (mergeK [] [(Sum.inr k1, v1), (Sum.inr k2, v2), (Sum.inr k3, v3)]) (Sum.inr z) = some v) (q : ∀ H1, Same H H1 → Q v H1) :
    tDGet (tDisp [(tC (.str k1), tC v1), (tC (.str k2), tC v2), (tC (.str k3), tC v3)]) (tVar j) σ H Q := by
  intro p hp
  refine w_c (w_c (w_c (w_c (w_c (w_c ?_)))))
  refine ⟨upd_same, [(Sum.inr k1, v1), (Sum.inr k2, v2), (Sum.inr k3, v3)], rfl, Nat.le_of_ble_eq_true rfl, ?_⟩
  refine ⟨_, hσ, p, v, rfl, hv ▸ DGet.k (k := Sum.inr z) upd_same, q _ ?_⟩
  rw [upd_upd]
  exact same_new hp
end
section
variable {P : Program} {w : World} {K : PySem.W.Frag} {mg : Str → Option Value} {base : Heap} {c : Cn} {cls : Err → Addr}
def spLayTied (c : Cn) (cls : Err → Addr) : Sp := spOf c cls (fun b : Str => [.str b]) layTied (fun _ => .non)
theorem sc_lay_tied : FnScope ["self", "name", "cell"] ["self", "name"] (defScope (inClass (top 48) 26)) := ⟨rfl, rfl, rfl, by decide +kernel, rfl, by decide +kernel, by decide +kernel⟩
theorem ok_lay_tied {f : Addr} {fd : FuncData} (F : FnT K "lay_tied" "House.lay_tied" (inClass (top 48) 26) [] [] f fd) (g : Gb w K mg) (T : HCls K c) (R : Er P w K mg base cls)
    (M_lay_jump2 : MethOk P w K mg base c.CH "lay_jump" 6 (spLayJump c cls) [])
    (M_need_tie1 : MethOk P w K mg base c.CH "need_tie" 4 (spNeedTie c cls) [])
    (M_lay1 : MethOk P w K mg base c.CH "lay" 5 (spLay c cls) [])
    (M_number_for1 : MethOk P w K mg base c.CH "number_for" 3 (spNumberFor c cls) []) : FnOk P w K mg base (L2N.CX P w) 7 f fd ["self", "name"] (spLayTied c cls) := by
  refine F.ok sc_lay_tied (fun vs H Q E h => ?_) (fun cdv A outer s H vs Q E hr h => ?_)
  · obtain ⟨p, S, U, L, H0, b, rfl, _⟩ := h
    rfl
  · obtain ⟨p, S, U, L, H0, b, rfl, W, k⟩ := h
    try dsimp only at k
    refine ⟨_, (pss_one (ps_if (pt_cmpR op_eq (pv 1) pe_str (nomark _)) (pss_one (ps_expr (pe_bm PySem.F.plainAttrs_list PySem.F.slot_list_append PySem.F.type_list_append mt_append (pe_fld (pv 0) rfl) (pa_cons (pe_tup (pa_cons pe_str (pa_cons (pe_mM M_lay_jump2 T.cH (hr.mono (by first | decide | omega)) (L2N.passes_call (L2N.takes_of rfl rfl rfl rfl) fun _ _ _ _ z => z) (pv 0) (pa_cons pe_str (pa_cons pe_int pa_nil))) pa_nil))) pa_nil)))) (pss_one (ps_if (pt_cmpR op_eq (pv 1) pe_str (nomark _)) (pss_cons (ps_expr (pe_mM M_need_tie1 T.cH (hr.mono (by first | decide | omega)) (L2N.passes_call (L2N.takes_of rfl rfl rfl rfl) fun _ _ _ _ z => z) (pv 0) (pa_cons pe_str pa_nil)))
      (pss_cons (ps_set (i := 2) sc_lay_tied.nd rfl (Or.inl rfl) (pe_mM M_lay_jump2 T.cH (hr.mono (by first | decide | omega)) (L2N.passes_call (L2N.takes_of rfl rfl rfl rfl) fun _ _ _ _ z => z) (pv 0) (pa_cons pe_str (pa_cons pe_int pa_nil))))
      (pss_cons (ps_asg (pe_callB call_ln (by rfl) g.len PySem.boot_len (pa_cons (pe_fld (pv 0) rfl) pa_nil)) (pg_sub (pe_fld (pv 0) rfl) (pe_ix ix_tup (pe_bm0 PySem.F.plainAttrs_list PySem.F.slot_list_pop PySem.F.type_list_pop mt_pop (pe_fld (pv 0) rfl)) pe_int (fun _ _ => rfl)) set_list))
      (pss_one (ps_expr (pe_bm PySem.F.plainAttrs_list PySem.F.slot_list_append PySem.F.type_list_append mt_append (pe_fld (pv 0) rfl) (pa_cons (pe_tup (pa_cons pe_str (pa_cons (pv 2) pa_nil))) pa_nil))))))) (pss_one (ps_if (pt_cmpR op_eq (pv 1) pe_str (nomark _)) (pss_cons (ps_expr (pe_mM M_need_tie1 T.cH (hr.mono (by first | decide | omega)) (L2N.passes_call (L2N.takes_of rfl rfl rfl rfl) fun _ _ _ _ z => z) (pv 0) (pa_cons pe_str pa_nil)))
      (pss_one (ps_asg (pe_callB call_ln (by rfl) g.len PySem.boot_len (pa_cons (pe_fld (pv 0) rfl) pa_nil)) (pg_sub (pe_fld (pv 0) rfl) (pe_ix ix_tup (pe_bm0 PySem.F.plainAttrs_list PySem.F.slot_list_pop PySem.F.type_list_pop mt_pop (pe_fld (pv 0) rfl)) pe_int (fun _ _ => rfl)) set_list)))) (pss_one (ps_if (pt_cmpR op_eq (pv 1) pe_str (nomark _)) (pss_one (ps_expr (pe_bm PySem.F.plainAttrs_list PySem.F.slot_list_append PySem.F.type_list_append mt_append (pe_fld (pv 0) rfl) (pa_cons (pe_tup (pa_cons pe_str (pa_cons (pe_callB call_ln (by rfl) g.len PySem.boot_len (pa_cons (pe_fld (pv 0) rfl) pa_nil)) pa_nil))) pa_nil)))) (pss_one (ps_if (pt_cmpR op_eq (pv 1) pe_str (nomark _)) (pss_cons (ps_expr (pe_mM M_lay1 T.cH (hr.mono (by first | decide | omega)) (L2N.passes_call (L2N.takes_of rfl rfl rfl rfl) fun _ _ _ _ z => z) (pv 0) (pa_cons (pe_lst (pa_cons (pe_mM M_number_for1 T.cH (hr.mono (by first | decide | omega)) (L2N.passes_call (L2N.takes_of rfl rfl rfl rfl) fun _ _ _ _ z => z) (pv 0) (pa_cons pe_str pa_nil)) pa_nil)) pa_nil)))
      (pss_one (ps_expr (pe_bm PySem.F.plainAttrs_list PySem.F.slot_list_append PySem.F.type_list_append mt_append (pe_fld (pv 0) rfl) (pa_cons (pe_tup (pa_cons pe_str (pa_cons (pe_callB call_ln (by rfl) g.len PySem.boot_len (pa_cons (pe_fld (pv 0) rfl) pa_nil)) pa_nil))) pa_nil))))) (pss_one (ps_if (pt_cmpR op_eq (pv 1) pe_str (nomark _)) (pss_cons (ps_expr (pe_mM M_need_tie1 T.cH (hr.mono (by first | decide | omega)) (L2N.passes_call (L2N.takes_of rfl rfl rfl rfl) fun _ _ _ _ z => z) (pv 0) (pa_cons pe_str pa_nil)))
      (pss_one (ps_expr (pe_bm PySem.F.plainAttrs_list PySem.F.slot_list_append PySem.F.type_list_append mt_append (pe_fld (pv 0) rfl) (pa_cons (pe_tup (pa_cons pe_str (pa_cons (pe_mM M_lay_jump2 T.cH (hr.mono (by first | decide | omega)) (L2N.passes_call (L2N.takes_of rfl rfl rfl rfl) fun _ _ _ _ z => z) (pv 0) (pa_cons pe_str (pa_cons pe_int pa_nil))) pa_nil))) pa_nil))))) (pss_one (ps_if (pt_cmpR op_eq (pv 1) pe_str (nomark _)) (pss_cons (ps_expr (pe_mM M_need_tie1 T.cH (hr.mono (by first | decide | omega)) (L2N.passes_call (L2N.takes_of rfl rfl rfl rfl) fun _ _ _ _ z => z) (pv 0) (pa_cons pe_str pa_nil)))
      (pss_cons (ps_expr (pe_mM M_lay_jump2 T.cH (hr.mono (by first | decide | omega)) (L2N.passes_call (L2N.takes_of rfl rfl rfl rfl) fun _ _ _ _ z => z) (pv 0) (pa_cons pe_str (pa_cons (pe_ix ix_tup (pe_ix ix_list (pe_fld (pv 0) rfl) (pe_un un_neg pe_int) (fun _ _ => rfl)) pe_int (fun _ _ => rfl)) pa_nil))))
      (pss_cons (ps_asg (pe_callB call_ln (by rfl) g.len PySem.boot_len (pa_cons (pe_fld (pv 0) rfl) pa_nil)) (pg_sub (pe_fld (pv 0) rfl) (pe_ix ix_tup (pe_bm0 PySem.F.plainAttrs_list PySem.F.slot_list_pop PySem.F.type_list_pop mt_pop (pe_fld (pv 0) rfl)) pe_int (fun _ _ => rfl)) set_list))
      (pss_one (ps_expr (pe_bm0 PySem.F.plainAttrs_list PySem.F.slot_list_pop PySem.F.type_list_pop mt_pop (pe_fld (pv 0) rfl))))))) (pss_cons (ps_expr (pe_mM M_need_tie1 T.cH (hr.mono (by first | decide | omega)) (L2N.passes_call (L2N.takes_of rfl rfl rfl rfl) fun _ _ _ _ z => z) (pv 0) (pa_cons (pe_ifExp (pt_cmpR op_eq (pv 1) pe_str (nomark _)) pe_str pe_str) pa_nil)))
      (pss_cons (ps_expr (pe_mM M_lay_jump2 T.cH (hr.mono (by first | decide | omega)) (L2N.passes_call (L2N.takes_of rfl rfl rfl rfl) fun _ _ _ _ z => z) (pv 0) (pa_cons (pe_dget (hu_of hr) (pe_disp (pps_cons pe_str pe_str (pps_cons pe_str pe_str (pps_cons pe_str pe_str pps_nil))) (by rfl) (by rfl) (fun z => by cases z) (by decide)) (pv 1) (fun _ _ => rfl)) (pa_cons (pe_ix ix_tup (pe_ix ix_list (pe_fld (pv 0) rfl) (pe_un un_neg pe_int) (fun _ _ => rfl)) pe_int (fun _ _ => rfl)) pa_nil))))
      (pss_one (ps_expr (pe_bm0 PySem.F.plainAttrs_list PySem.F.slot_list_pop PySem.F.type_list_pop mt_pop (pe_fld (pv 0) rfl)))))))))))))))))))), ?_⟩
    try dsimp only [cxOf_K]
    unfold layTied at k
    walk_at "w"
    refine ite_dec (fun h1 => ?_) (fun h1 => ?_)
    · rw [if_pos h1] at k
      walk_at "w"
      refine c_of (b := (("(bare)" : Str), (0 : Int))) W k fun x S1 H1 _ W k => ?_
      obtain ⟨hz, k⟩ := Ends.addTie1 k
      walk_at "w"
      refine ⟨by show 2 ≤ sizeLine; decide, fun q hq => ?_⟩
      walk_at "w"
      refine w_tiePush W hq hz fun H2 W => ?_
      exact k _ W
    rw [if_neg h1] at k
    walk_at "w"
    refine ite_dec (fun h1 => ?_) (fun h1 => ?_)
    · rw [if_pos h1] at k
      walk_at "w"
      refine c_of (b := ("if" : Str)) W k fun _ S1 H1 _ W k => ?_
      walk_at "w"
      refine c_of (b := (("(jump)" : Str), (0 : Int))) W k fun x S1 H1 _ W k => ?_
      obtain ⟨v, i, hl, k⟩ := Ends.popTie k
      obtain ⟨c1, c2, k⟩ := Ends.close k
      obtain ⟨hz, k⟩ := Ends.addTie1 k
      walk_at "w"
      refine w_tiePop (K := K) W hl fun t H2 W ht => ?_
      walk_at "w"
      refine w_ixT1 ht ?_
      walk_at "w"
      refine w_setC (K := K) W c1 c2 fun H3 W => ?_
      walk_at "w"
      refine ⟨by show 2 ≤ sizeLine; decide, fun q hq => ?_⟩
      walk_at "w"
      refine w_tiePush W hq hz fun H2 W => ?_
      exact k _ W
    rw [if_neg h1] at k
    walk_at "w"
    refine ite_dec (fun h1 => ?_) (fun h1 => ?_)
    · rw [if_pos h1] at k
      walk_at "w"
      refine c_of (b := ("if" : Str)) W k fun _ S1 H1 _ W k => ?_
      obtain ⟨v, i, hl, k⟩ := Ends.popTie k
      obtain ⟨c1, c2, k⟩ := Ends.close1 k
      walk_at "w"
      refine w_tiePop (K := K) W hl fun t H2 W ht => ?_
      walk_at "w"
      refine w_ixT1 ht ?_
      walk_at "w"
      refine w_setC (K := K) W c1 c2 fun H3 W => ?_
      exact k _ W
    rw [if_neg h1] at k
    walk_at "w"
    refine ite_dec (fun h1 => ?_) (fun h1 => ?_)
    · rw [if_pos h1] at k
      obtain ⟨hz, k⟩ := Ends.addTie1 k.get
      walk_at "w"
      refine ⟨by show 2 ≤ sizeLine; decide, fun q hq => ?_⟩
      walk_at "w"
      refine w_tiePush W hq hz fun H2 W => ?_
      exact k _ W
    rw [if_neg h1] at k
    walk_at "w"
    refine ite_dec (fun h1 => ?_) (fun h1 => ?_)
    · rw [if_pos h1] at k
      walk_at "w"
      refine c_numFor W k fun x H1 W k => ?_
      walk_at "w"
      refine ⟨by show 1 ≤ sizeLine; decide, fun q hq => ?_⟩
      walk_at "w"
      refine c_lay (xs := [x]) W k (by show 1 ≤ 10; decide) hq fun H3 W k => ?_
      obtain ⟨hz, k⟩ := Ends.addTie1 k.get
      walk_at "w"
      refine ⟨by show 2 ≤ sizeLine; decide, fun q hq => ?_⟩
      walk_at "w"
      refine w_tiePush W hq hz fun H2 W => ?_
      exact k _ W
    rw [if_neg h1] at k
    walk_at "w"
    refine ite_dec (fun h1 => ?_) (fun h1 => ?_)
    · rw [if_pos h1] at k
      walk_at "w"
      refine c_of (b := ("begin" : Str)) W k fun _ S1 H1 _ W k => ?_
      walk_at "w"
      refine c_of (b := (("(bare)" : Str), (0 : Int))) W k fun x S1 H1 _ W k => ?_
      obtain ⟨hz, k⟩ := Ends.addTie1 k
      walk_at "w"
      refine ⟨by show 2 ≤ sizeLine; decide, fun q hq => ?_⟩
      walk_at "w"
      refine w_tiePush W hq hz fun H2 W => ?_
      exact k _ W
    rw [if_neg h1] at k
    walk_at "w"
    refine ite_dec (fun h1 => ?_) (fun h1 => ?_)
    · rw [if_pos h1] at k
      walk_at "w"
      refine c_of (b := ("while" : Str)) W k fun _ S1 H1 _ W k => ?_
      obtain ⟨v, i, hl, h2, k⟩ := Ends.tieCell k
      walk_at "w"
      refine w_tieAt (n := 2) W hl (by decide) h2 fun t ht => ?_
      walk_at "w"
      refine w_ixT1 ht ?_
      walk_at "w"
      refine c_of (b := (("(jump)" : Str), i)) W k fun x S1 H1 _ W k => ?_
      obtain ⟨v, i, hl, k⟩ := Ends.popTie k
      obtain ⟨c1, c2, k⟩ := Ends.close k
      obtain ⟨v', i', hl', k⟩ := Ends.popTie k
      walk_at "w"
      refine w_tiePop (K := K) W hl fun t H2 W ht => ?_
      walk_at "w"
      refine w_ixT1 ht ?_
      walk_at "w"
      refine w_setC (K := K) W c1 c2 fun H3 W => ?_
      walk_at "w"
      refine w_tiePop (K := K) W hl' fun t H2 W ht => ?_
      exact k _ W
    rw [if_neg h1] at k
    obtain ⟨hm, k⟩ := k.must
    rw [decide_eq_true_iff] at hm
    rcases hm with rfl | rfl | rfl
    · rw [if_neg (by decide), if_pos rfl] at k
      walk_at "w"
      refine ite_dec (fun h => absurd h (by decide)) (fun _ => ?_)
      walk_at "w"
      refine c_of (b := ("begin" : Str)) W k fun _ S1 H1 _ W k => ?_
      obtain ⟨v, i, hl, h2, k⟩ := Ends.tieCell k
      walk_at "w"
      refine w_disp3 (by with_unfolding_all rfl) (v := .str "(bare)") (by kernel_rfl) fun H2 s2 => ?_
      have W := W.up s2
      walk_at "w"
      refine w_tieAt (n := 1) W hl (by decide) h2 fun t ht => ?_
      walk_at "w"
      refine w_ixT1 ht ?_
      walk_at "w"
      refine c_of (b := (("(bare)" : Str), i)) W k fun x S1 H1 _ W k => ?_
      obtain ⟨v', i', hl', k⟩ := Ends.popTie k
      walk_at "w"
      refine w_tiePop (K := K) W hl' fun t H2 W ht => ?_
      exact k _ W
    · rw [if_neg (by decide), if_neg (by decide), if_pos rfl] at k
      walk_at "w"
      refine ite_dec (fun h => absurd h (by decide)) (fun _ => ?_)
      walk_at "w"
      refine c_of (b := ("begin" : Str)) W k fun _ S1 H1 _ W k => ?_
      obtain ⟨v, i, hl, h2, k⟩ := Ends.tieCell k
      walk_at "w"
      refine w_disp3 (by with_unfolding_all rfl) (v := .str "(jump)") (by kernel_rfl) fun H2 s2 => ?_
      have W := W.up s2
      walk_at "w"
      refine w_tieAt (n := 1) W hl (by decide) h2 fun t ht => ?_
      walk_at "w"
      refine w_ixT1 ht ?_
      walk_at "w"
      refine c_of (b := (("(jump)" : Str), i)) W k fun x S1 H1 _ W k => ?_
      obtain ⟨v', i', hl', k⟩ := Ends.popTie k
      walk_at "w"
      refine w_tiePop (K := K) W hl' fun t H2 W ht => ?_
      exact k _ W
    · rw [if_pos rfl, if_neg (by decide), if_neg (by decide)] at k
      walk_at "w"
      refine ite_dec (fun _ => ?_) (fun h => absurd rfl h)
      walk_at "w"
      refine c_of (b := ("do" : Str)) W k fun _ S1 H1 _ W k => ?_
      obtain ⟨v, i, hl, h2, k⟩ := Ends.tieCell k
      walk_at "w"
      refine w_disp3 (by with_unfolding_all rfl) (v := .str "(loop)") (by kernel_rfl) fun H2 s2 => ?_
      have W := W.up s2
      walk_at "w"
      refine w_tieAt (n := 1) W hl (by decide) h2 fun t ht => ?_
      walk_at "w"
      refine w_ixT1 ht ?_
      walk_at "w"
      refine c_of (b := (("(loop)" : Str), i)) W k fun x S1 H1 _ W k => ?_
      obtain ⟨v', i', hl', k⟩ := Ends.popTie k
      walk_at "w"
      refine w_tiePop (K := K) W hl' fun t H2 W ht => ?_
      exact k _ W
end
end WH
set_option Elab.async false
set_option linter.all false
set_option maxRecDepth 100000
set_option maxHeartbeats 2000000
namespace WH
open PySem PySem.Spec PyProof.Rows L2
local macro_rules | `(tactic| walk_at "w") => `(tactic| repeat (with_reducible first
  | (refine is_te ?_; first | refine w_var (by with_unfolding_all rfl) ?_ | refine w_c ?_ | refine w_op ?_ | refine w_cb ?_ | refine w_call ?_ | refine w_self (by assumption) (by with_unfolding_all rfl) (by decide +kernel) ?_ | refine w_ife ?_ | (refine is_fld ?_; first | refine w_cells (by assumption) (by assumption) (by with_unfolding_all rfl) ?_ | refine w_stack (by assumption) (by assumption) (by with_unfolding_all rfl) ?_ | refine w_back (by assumption) (by assumption) (by with_unfolding_all rfl) ?_ | refine w_most_cells (by assumption) (by assumption) (by with_unfolding_all rfl) ?_ | refine w_most_stack (by assumption) (by assumption) (by with_unfolding_all rfl) ?_ | refine w_book (by assumption) (by assumption) (by with_unfolding_all rfl) ?_ | refine w_spot (by assumption) (by assumption) (by with_unfolding_all rfl) ?_ | refine w_left (by assumption) (by assumption) (by with_unfolding_all rfl) ?_ | refine w_at (by assumption) (by assumption) (by with_unfolding_all rfl) ?_ | refine w_told (by assumption) (by assumption) (by with_unfolding_all rfl) ?_ | refine w_words (by assumption) (by assumption) (by with_unfolding_all rfl) ?_ | refine w_mode (by assumption) (by assumption) (by with_unfolding_all rfl) ?_ | refine w_ties (by assumption) (by assumption) (by with_unfolding_all rfl) ?_ | refine w_many_deeds (by assumption) (by assumption) (by with_unfolding_all rfl) ?_ | refine w_steps (by assumption) (by assumption) (by with_unfolding_all rfl) ?_ | refine w_fld ?_) | refine w_lst ?_ | refine w_tup ?_ | refine w_bm ?_ | refine w_bm0 ?_ | refine w_un ?_ | refine w_sl ?_ | refine w_chain ?_)
  | (refine is_ta ?_; first | refine w_cons ?_ | refine w_nil ?_)
  | refine w_gn ?_
  | (refine is_ts ?_; first | refine w_seq ?_ | refine w_asg ?_ | refine w_ifs ?_ | refine w_drop ?_ | refine w_next ?_ | refine w_ret ?_ | refine w_retN ?_ | refine w_sfld ?_ | refine w_augS ?_ | refine w_aug_spot (by assumption) (by assumption) (by with_unfolding_all rfl) ?_ | refine w_aug_left (by assumption) (by assumption) (by with_unfolding_all rfl) ?_ | refine w_aug_at (by assumption) (by assumption) (by with_unfolding_all rfl) ?_)
  | (refine is_tt ?_; first | refine w_test ?_ | refine w_and ?_ | refine w_or ?_ | refine w_not ?_ | refine w_tB ?_)
  | (refine is_r2 ?_; first | refine w_i0 ?_ | refine w_eqt ?_ | refine w_eqi ?_ | refine w_net ?_ | refine w_nei ?_ | refine w_isN ?_ | refine w_notN ?_ | refine w_rAdd ?_ | refine w_rSub ?_ | refine w_ipI ?_)
  | (refine is_ty ?_; first | refine w_tyS' (by assumption) ?_ | refine w_tyC (by assumption) ?_ | refine w_tyB (by assumption) ?_ | refine w_tyT (by assumption) ?_ | refine w_tyK (by assumption) ?_ | refine w_tyI (by assumption) ?_)
  | (refine is_ln ?_; first | refine w_lnS (by assumption) ?_ | refine w_lnC (by assumption) ?_ | refine w_lnB (by assumption) ?_ | refine w_lnT (by assumption) ?_ | refine w_lnW (by assumption) ?_ | refine w_lnK (by assumption) ?_)
  | (refine is_rf ?_; first | refine e_kind (by assumption) (by assumption) ?_ | refine e_name (by assumption) (by assumption) ?_ | refine e_number (by assumption) (by assumption) ?_ | refine e_start (by assumption) (by assumption) ?_ | refine e_end (by assumption) (by assumption) ?_ | refine e_was (by assumption) (by assumption) ?_ | refine e_worth (by assumption) (by assumption) ?_ | refine e_beyond (by assumption) (by assumption) ?_ | refine e_is_now (by assumption) (by assumption) ?_)
  | refine w_bl ?_ | refine w_mkw ?_ | refine w_mknw ?_ | refine w_part1 ?_ | refine w_neg ?_ | refine w_smk ?_ | refine w_smkn ?_ | refine w_noP ?_ | refine w_part ?_ | refine w_gcut ?_ | refine w_gsub ?_))

section
variable {K : PySem.W.Frag} {c : Cn} {p : Addr} {S : MS} {U : List Seen} {L : Ls} {H0 H : Hp} {Q : VK} {σ : L2.St} {E : XK}
def CallN (n q : Nat) (sp : Sp) (gV : List V → List V → List V) (E : XK) (p : Addr) (vs zs : List V) (H : Hp) (Q : VK) : Prop := vs.length + 1 = n ∧ zs.length = q ∧ sp (gV (.ref p :: vs) zs) H Q E
theorem w_selfN {m : Str} {n q' : Nat} {sp : Sp} {gV : List V → List V → List V} {t tk : TA} (W : HOwn c p S U L H0 H) (hσ : σ[0]? = some (some (.ref p))) (hm : hKeys.contains m = false) (q : t σ H fun vs H2 => tk σ H2 fun zs H3 => CallN n q' sp gV E p vs zs H3 Q) : tMethN c.CH m n q' sp gV E (tVar 0) t tk σ H Q := by
  obtain ⟨G, e, ho⟩ := W.ob
  exact ⟨_, hσ, p, G.dx, _, rfl, ho, lookup_no hm, q⟩
end
section
variable {P : Program} {w : World} {K : PySem.W.Frag} {mg : Str → Option Value} {base : Heap} {c : Cn} {cls : Err → Addr}
def spDoLaying (c : Cn) (cls : Err → Addr) : Sp := spOf c cls (fun b : Str => [.str b]) doLaying (fun _ => .non)
theorem sc_do_laying : FnScope ["self", "name"] ["self", "name"] (defScope (inClass (top 48) 21)) := ⟨rfl, rfl, rfl, by decide +kernel, rfl, by decide +kernel, by decide +kernel⟩
theorem ok_do_laying {f : Addr} {fd : FuncData} (F : FnT K "do_laying" "House.do_laying" (inClass (top 48) 21) [] [] f fd) (g : Gb w K mg) (T : HCls K c) (R : Er P w K mg base cls)
    (M_end_word0 : MethOk P w K mg base c.CH "end_word" 6 (spEndWord c cls) [])
    (M_lay1 : MethOk P w K mg base c.CH "lay" 5 (spLay c cls) [])
    (M_need1 : MethOk P w K mg base c.CH "need" 4 (spNeed c cls) [.int 0])
    (M_number_for1 : MethOk P w K mg base c.CH "number_for" 3 (spNumberFor c cls) [])
    (M_lay_postponed1 : MethOk P w K mg base c.CH "lay_postponed" 6 (spLayPostponed c cls) [])
    (M_next_known0 : MethOk P w K mg base c.CH "next_known" 5 (spNextKnown c cls) [])
    (M_lay_tied1 : MethOk P w K mg base c.CH "lay_tied" 7 (spLayTied c cls) []) : FnOk P w K mg base (L2N.CX P w) 8 f fd ["self", "name"] (spDoLaying c cls) := by
  refine F.ok sc_do_laying (fun vs H Q E h => ?_) (fun cdv A outer s H vs Q E hr h => ?_)
  · obtain ⟨p, S, U, L, H0, b, rfl, _⟩ := h
    rfl
  · obtain ⟨p, S, U, L, H0, b, rfl, W, k⟩ := h
    try dsimp only at k
    refine ⟨_, (pss_cons (ps_if (pt_not (pt_val (pe_fld (pv 0) rfl))) (pss_one (ps_rw R.onlyWithin rfl (hr.mono (by first | decide | omega)) (L2N.takes_of rfl rfl rfl rfl) (pe_fld (pv 0) rfl))) pss_nil)
      (pss_one (ps_if (pt_cmpR op_eq (pv 1) pe_str (nomark _)) (pss_one (ps_expr (pe_mM0 M_end_word0 T.cH (hr.mono (by first | decide | omega)) (L2N.passes_call (L2N.takes_of rfl rfl rfl rfl) fun _ _ _ _ z => z) (pv 0)))) (pss_one (ps_if (pt_cmpR op_eq (pv 1) pe_str (nomark _)) (pss_one (ps_fld (pv 0) pe_bl rfl)) (pss_one (ps_if (pt_cmpR op_eq (pv 1) pe_str (nomark _)) (pss_one (ps_expr (pe_mM M_lay1 T.cH (hr.mono (by first | decide | omega)) (L2N.passes_call (L2N.takes_of rfl rfl rfl rfl) fun _ _ _ _ z => z) (pv 0) (pa_cons (pe_lst (pa_cons (pe_callB call_ln (by rfl) g.len PySem.boot_len (pa_cons (pe_fld (pv 0) rfl) pa_nil)) pa_nil)) pa_nil)))) (pss_one (ps_if (pt_cmpR op_eq (pv 1) pe_str (nomark _)) (pss_cons (ps_expr (pe_mM M_need1 T.cH (hr.mono (by first | decide | omega)) (L2N.passes_call (L2N.takes_of rfl rfl rfl rfl) fun _ _ _ _ z => z) (pv 0) (pa_cons pe_int pa_nil)))
      (pss_cons (ps_expr (pe_mM M_lay1 T.cH (hr.mono (by first | decide | omega)) (L2N.passes_call (L2N.takes_of rfl rfl rfl rfl) fun _ _ _ _ z => z) (pv 0) (pa_cons (pe_lst (pa_cons (pe_mM M_number_for1 T.cH (hr.mono (by first | decide | omega)) (L2N.passes_call (L2N.takes_of rfl rfl rfl rfl) fun _ _ _ _ z => z) (pv 0) (pa_cons pe_str pa_nil)) (pa_cons (pe_ix ix_list (pe_fld (pv 0) rfl) (pe_un un_neg pe_int) (fun _ _ => rfl)) pa_nil))) pa_nil)))
      (pss_one (ps_expr (pe_bm0 PySem.F.plainAttrs_list PySem.F.slot_list_pop PySem.F.type_list_pop mt_pop (pe_fld (pv 0) rfl)))))) (pss_one (ps_if (pt_cmpR op_eq (pv 1) pe_str (nomark _)) (pss_one (ps_expr (pe_mM M_lay_postponed1 T.cH (hr.mono (by first | decide | omega)) (L2N.passes_call (L2N.takes_of rfl rfl rfl rfl) fun _ _ _ _ z => z) (pv 0) (pa_cons (pe_mM0 M_next_known0 T.cH (hr.mono (by first | decide | omega)) (L2N.passes_call (L2N.takes_of rfl rfl rfl rfl) fun _ _ _ _ z => z) (pv 0)) pa_nil)))) (pss_one (ps_if (pt_cmpR op_eq (pv 1) pe_str (nomark _)) (pss_one (ps_expr (pe_mM M_lay1 T.cH (hr.mono (by first | decide | omega)) (L2N.passes_call (L2N.takes_of rfl rfl rfl rfl) fun _ _ _ _ z => z) (pv 0) (pa_cons (pe_lst (pa_cons (pe_mM M_number_for1 T.cH (hr.mono (by first | decide | omega)) (L2N.passes_call (L2N.takes_of rfl rfl rfl rfl) fun _ _ _ _ z => z) (pv 0) (pa_cons pe_str pa_nil)) pa_nil)) pa_nil)))) (pss_one (ps_expr (pe_mM M_lay_tied1 T.cH (hr.mono (by first | decide | omega)) (L2N.passes_call (L2N.takes_of rfl rfl rfl rfl) fun _ _ _ _ z => z) (pv 0) (pa_cons (pv 1) pa_nil))))))))))))))))), ?_⟩
    try dsimp only [cxOf_K]
    unfold doLaying at k
    replace k := k.get
    walk_at "w"
    refine ite_b (fun h0 => ?_) (fun h0 => ?_)
    · have hm : S.mode = false := by
        cases h : S.mode with
        | false => rfl
        | true =>
          rw [h] at h0
          cases h0
      rw [if_pos hm] at k
      walk_at "w"
      exact fun d hd => fin_err k W rfl hd rfl
    have hm : ¬ S.mode = false := by
      intro h
      rw [h] at h0
      cases h0
    rw [if_neg hm] at k
    walk_at "w"
    refine ite_dec (fun h1 => ?_) (fun h1 => ?_)
    · rw [if_pos h1] at k
      walk_at "w"
      exact ⟨p, S, U, L, H0, (), rfl, W, k⟩
    rw [if_neg h1] at k
    walk_at "w"
    refine ite_dec (fun h1 => ?_) (fun h1 => ?_)
    · rw [if_pos h1] at k
      walk_at "w"
      refine w_st_mode W T fun H1 W _ => ?_
      exact k _ W
    rw [if_neg h1] at k
    walk_at "w"
    refine ite_dec (fun h1 => ?_) (fun h1 => ?_)
    · rw [if_pos h1] at k
      walk_at "w"
      refine ⟨by show 1 ≤ sizeLine; decide, fun q hq => ?_⟩
      walk_at "w"
      refine c_lay1 (xs := [(S.book.length : Int)]) W k (by show 1 ≤ 10; decide) hq fun H1 _ W k => ?_
      exact k _ W
    rw [if_neg h1] at k
    walk_at "w"
    refine ite_dec (fun h1 => ?_) (fun h1 => ?_)
    · rw [if_pos h1] at k
      walk_at "w"
      refine c_need W k fun H1 W hs _ k => ?_
      obtain ⟨y, hy⟩ := last_some hs
      walk_at "w"
      refine c_numFor W k fun x H1 W k => ?_
      replace k := k.get
      rw [topD hy] at k
      walk_at "w"
      refine w_stackTop W hy ?_
      walk_at "w"
      refine ⟨by show 2 ≤ sizeLine; decide, fun q hq => ?_⟩
      walk_at "w"
      refine c_lay (xs := [x, y]) W k (by show 2 ≤ 10; decide) hq fun H3 W k => ?_
      obtain ⟨y', hy', k⟩ := k.pop
      walk_at "w"
      refine w_pop W hy' fun H4 W => ?_
      exact k _ W
    rw [if_neg h1] at k
    walk_at "w"
    refine ite_dec (fun h1 => ?_) (fun h1 => ?_)
    · rw [if_pos h1] at k
      walk_at "w"
      refine ⟨p, S, U, L, H0, rfl, W, k.bind.imp fun e S1 _ k H1 b1 W1 he => ?_⟩
      walk_at "w"
      exact ⟨p, S1, _, L, H0, b1, e, rfl, W1, List.mem_cons_self, he, k.more.imp fun _ S2 _ q H2 W2 => q H2 W2.less⟩
    rw [if_neg h1] at k
    walk_at "w"
    refine ite_dec (fun h1 => ?_) (fun h1 => ?_)
    · rw [if_pos h1] at k
      walk_at "w"
      refine c_numFor W k fun x H1 W k => ?_
      walk_at "w"
      refine ⟨by show 1 ≤ sizeLine; decide, fun q hq => ?_⟩
      walk_at "w"
      refine c_lay1 (xs := [x]) W k (by show 1 ≤ 10; decide) hq fun H1 _ W k => ?_
      exact k _ W
    rw [if_neg h1] at k
    walk_at "w"
    exact ⟨p, S, U, L, H0, _, rfl, W, k⟩
def spDoMaking (c : Cn) (cls : Err → Addr) : Sp := spOf c cls (fun b : Str => [.str b]) doMaking (fun _ => .non)
theorem sc_do_making : FnScope ["self", "name", "found"] ["self", "name"] (defScope (inClass (top 48) 20)) := ⟨rfl, rfl, rfl, by decide +kernel, rfl, by decide +kernel, by decide +kernel⟩
theorem ok_do_making {f : Addr} {fd : FuncData} (F : FnT K "do_making" "House.do_making" (inClass (top 48) 20) [] [] f fd) (g : Gb w K mg) (T : HCls K c) (R : Er P w K mg base cls)
    (M_next_known0 : MethOk P w K mg base c.CH "next_known" 5 (spNextKnown c cls) [])
    (M_forget_from1 : MethOk P w K mg base c.CH "forget_from" 4 (spForgetFrom c cls) [])
    (M_next_name0 : MethOk P w K mg base c.CH "next_name" 4 (spNextName c cls) [])
    (M_need1 : MethOk P w K mg base c.CH "need" 4 (spNeed c cls) [.int 0])
    (M_add_entry_worth : MethKOk P w K mg base c.CH "add_entry" 3 (spAddEntry c cls) 3 (["worth"] : List Str) (fun vs zs => vs ++ zs))
    (M_add_entry2 : MethOk P w K mg base c.CH "add_entry" 3 (spAddEntry c cls) [.int 0])
    (M_need_room1 : MethOk P w K mg base c.CH "need_room" 4 (spNeedRoom c cls) []) : FnOk P w K mg base (L2N.CX P w) 6 f fd ["self", "name"] (spDoMaking c cls) := by
  refine F.ok sc_do_making (fun vs H Q E h => ?_) (fun cdv A outer s H vs Q E hr h => ?_)
  · obtain ⟨p, S, U, L, H0, b, rfl, _⟩ := h
    rfl
  · obtain ⟨p, S, U, L, H0, b, rfl, W, k⟩ := h
    try dsimp only at k
    refine ⟨_, (pss_cons (ps_if (pt_cmpR op_notN1 (pe_fld (pv 0) rfl) pe_non (nomark _)) (pss_one (ps_rw R.unfit rfl (hr.mono (by first | decide | omega)) (L2N.takes_of rfl rfl rfl rfl) (pe_fld (pv 0) rfl))) pss_nil)
      (pss_one (ps_if (pt_cmpR op_eq (pv 1) pe_str (nomark _)) (pss_cons (ps_set (i := 2) sc_do_making.nd rfl (Or.inl rfl) (pe_mM0 M_next_known0 T.cH (hr.mono (by first | decide | omega)) (L2N.passes_call (L2N.takes_of rfl rfl rfl rfl) fun _ _ _ _ z => z) (pv 0)))
      (pss_cons (ps_if (pt_cmpR op_eq (pe_fld (pv 2) rfl) pe_str (nomark _)) (pss_one (ps_rw R.noForget rfl (hr.mono (by first | decide | omega)) (L2N.takes_of rfl rfl rfl rfl) (pe_fld (pv 0) rfl))) pss_nil)
      (pss_one (ps_expr (pe_mM M_forget_from1 T.cH (hr.mono (by first | decide | omega)) (L2N.passes_call (L2N.takes_of rfl rfl rfl rfl) fun _ _ _ _ z => z) (pv 0) (pa_cons (pe_fld (pv 2) rfl) pa_nil)))))) (pss_one (ps_if (pt_cmpR op_eq (pv 1) pe_str (nomark _)) (pss_cons (ps_fld (pv 0) (pe_tup (pa_cons (pe_mM0 M_next_name0 T.cH (hr.mono (by first | decide | omega)) (L2N.passes_call (L2N.takes_of rfl rfl rfl rfl) fun _ _ _ _ z => z) (pv 0)) (pa_cons (pe_callB call_ln (by rfl) g.len PySem.boot_len (pa_cons (pe_fld (pv 0) rfl) pa_nil)) pa_nil))) rfl)
      (pss_one (ps_fld (pv 0) pe_bl rfl))) (pss_one (ps_if (pt_cmpR op_eq (pv 1) pe_str (nomark _)) (pss_cons (ps_expr (pe_mM M_need1 T.cH (hr.mono (by first | decide | omega)) (L2N.passes_call (L2N.takes_of rfl rfl rfl rfl) fun _ _ _ _ z => z) (pv 0) (pa_cons pe_int pa_nil)))
      (pss_cons (ps_set (i := 1) sc_do_making.nd rfl (Or.inl rfl) (pe_mM0 M_next_name0 T.cH (hr.mono (by first | decide | omega)) (L2N.passes_call (L2N.takes_of rfl rfl rfl rfl) fun _ _ _ _ z => z) (pv 0)))
      (pss_one (ps_expr (pe_mMK M_add_entry_worth T.cH (hr.mono (by first | decide | omega)) (L2N.passes_call (L2N.takes_of rfl rfl rfl rfl) fun _ _ _ _ z => z) (pv 0) (pa_cons (pv 1) (pa_cons pe_str pa_nil)) (pk_cons (pe_bm0 PySem.F.plainAttrs_list PySem.F.slot_list_pop PySem.F.type_list_pop mt_pop (pe_fld (pv 0) rfl)) pk_nil)))))) (pss_one (ps_if (pt_cmpR op_eq (pv 1) pe_str (nomark _)) (pss_one (ps_expr (pe_mM M_add_entry2 T.cH (hr.mono (by first | decide | omega)) (L2N.passes_call (L2N.takes_of rfl rfl rfl rfl) fun _ _ _ _ z => z) (pv 0) (pa_cons (pe_mM0 M_next_name0 T.cH (hr.mono (by first | decide | omega)) (L2N.passes_call (L2N.takes_of rfl rfl rfl rfl) fun _ _ _ _ z => z) (pv 0)) (pa_cons pe_str pa_nil))))) (pss_cons (ps_expr (pe_mM M_need_room1 T.cH (hr.mono (by first | decide | omega)) (L2N.passes_call (L2N.takes_of rfl rfl rfl rfl) fun _ _ _ _ z => z) (pv 0) (pa_cons (pe_callTy call_in1 (by rfl) g.int (by decide +kernel) (pa_cons (pe_cmpR op_eq (pv 1) pe_str (nomark _)) pa_nil)) pa_nil)))
      (pss_cons (ps_expr (pe_mM M_add_entry2 T.cH (hr.mono (by first | decide | omega)) (L2N.passes_call (L2N.takes_of rfl rfl rfl rfl) fun _ _ _ _ z => z) (pv 0) (pa_cons (pe_mM0 M_next_name0 T.cH (hr.mono (by first | decide | omega)) (L2N.passes_call (L2N.takes_of rfl rfl rfl rfl) fun _ _ _ _ z => z) (pv 0)) (pa_cons pe_str pa_nil))))
      (pss_one (ps_expr (pe_bm PySem.F.plainAttrs_list PySem.F.slot_list_extend PySem.F.type_list_extend mt_extend (pe_fld (pv 0) rfl) (pa_cons (pe_op op_rep (pe_lst (pa_cons pe_int pa_nil)) (pe_callTy call_in1 (by rfl) g.int (by decide +kernel) (pa_cons (pe_cmpR op_eq (pv 1) pe_str (nomark _)) pa_nil))) pa_nil))))))))))))))), ?_⟩
    try dsimp only [cxOf_K]
    unfold doMaking at k
    replace k := k.get
    walk_at "w"
    refine w_openedR W T fun v hv => ?_
    walk_at "w"
    cases eo : S.opened with
    | some x =>
      rw [eo] at hv
      rw [if_pos (by rw [eo]; exact fun h => nomatch h)] at k
      obtain ⟨t, rfl, _⟩ := hv
      refine ite_ndec (fun _ => ?_) (fun h => nomatch h)
      walk_at "w"
      exact fun d hd => fin_err k W rfl hd rfl
    | none =>
      rw [eo] at hv
      rw [if_neg (fun h => h eo)] at k
      have hv' : v = .non := hv
      subst hv'
      refine ite_ndec (fun h => absurd rfl h) (fun _ => ?_)
      walk_at "w"
      refine ite_dec (fun h1 => ?_) (fun h1 => ?_)
      · rw [if_pos h1] at k
        walk_at "w"
        refine ⟨p, S, U, L, H0, rfl, W, k.bind.imp fun e S1 _ k H1 b1 W1 he => ?_⟩
        walk_at "w"
        refine ite_dec (fun h2 => ?_) (fun h2 => ?_)
        · rw [if_pos (kstr_inj (b := .deed) h2)] at k
          walk_at "w"
          exact fun d hd => fin_err k W1.less rfl hd rfl
        · rw [if_neg (fun h => h2 (by rw [h]; rfl))] at k
          walk_at "w"
          exact ⟨p, S1, U, L, H0, e.num, rfl, W1.less, k⟩
      rw [if_neg h1] at k
      walk_at "w"
      refine ite_dec (fun h1 => ?_) (fun h1 => ?_)
      · rw [if_pos h1] at k
        walk_at "w"
        refine c_of (b := ()) W k fun n S1 H1 _ W k => ?_
        walk_at "w"
        refine ⟨by show 2 ≤ sizeLine; decide, fun q hq => ?_⟩
        walk_at "w"
        refine w_st_openedT W T hq fun H2 W => ?_
        walk_at "w"
        refine w_st_mode W T fun H3 W _ => ?_
        exact k _ W
      rw [if_neg h1] at k
      walk_at "w"
      refine ite_dec (fun h1 => ?_) (fun h1 => ?_)
      · rw [if_pos h1] at k
        walk_at "w"
        refine c_need W k fun H1 W hs _ k => ?_
        walk_at "w"
        refine c_of (b := ()) W k fun n S1 H1 _ W k => ?_
        obtain ⟨x, hx, k⟩ := k.pop
        walk_at "w"
        refine w_selfN W (by with_unfolding_all rfl) (by decide +kernel) ?_
        walk_at "w"
        refine w_pop W hx fun H2 W => ?_
        walk_at "w"
        refine ⟨rfl, rfl, ?_⟩
        exact ⟨p, _, U, L, H0, ((n, .fixed), x), rfl, W, k⟩
      rw [if_neg h1] at k
      walk_at "w"
      refine ite_dec (fun h1 => ?_) (fun h1 => ?_)
      · rw [if_pos h1] at k
        walk_at "w"
        refine c_of (b := ()) W k fun n S1 H1 _ W k => ?_
        walk_at "w"
        exact ⟨p, S1, U, L, H0, ((n, .mark), 0), rfl, W, k⟩
      rw [if_neg h1] at k
      have e1 : (if decide (b = "variable") = true then (1 : Int) else 0) = if b = "variable" then 1 else 0 := by
        by_cases h : b = "variable"
        · rw [if_pos h, if_pos (decide_eq_true h)]
        · rw [if_neg h, if_neg (by rw [decide_eq_false h]; decide)]
      walk_at "w"
      refine w_in1b ?_
      rw [e1]
      walk_at "w"
      refine c_needRoom W k fun H1 W _ _ k => ?_
      walk_at "w"
      refine c_of (b := ()) W k fun n S1 H1 _ W k => ?_
      walk_at "w"
      refine c_of (b := ((n, Kind.cell), (0 : Int))) W k fun _ S2 H1 _ W k => ?_
      obtain ⟨hz, k⟩ := k.must
      rw [decide_eq_true_iff] at hz
      walk_at "w"
      refine ⟨by show 1 ≤ sizeLine; decide, fun q hq => ?_⟩
      have W1 := W.newF (u := .lst [.int 0]) hq
      have hq0 := W.fresh hq
      generalize upd H1 q (.lst [.int 0]) = H4 at W1 ⊢
      walk_at "w"
      refine w_in1b ?_
      rw [e1]
      by_cases hv : b = "variable"
      · rw [if_pos hv] at k ⊢
        refine ⟨q, 1, [.int 0], rfl, rfl, W1.same _ _ upd_same, by decide, by decide, by show 1 * 1 ≤ sizeLine; decide, fun r hr => ?_⟩
        have W2 := W1.newF (u := .lst (iv [0])) hr
        have hr0 := W1.fresh hr
        walk_at "w"
        refine w_cext' (xs := [0]) W2 upd_same (lim2 hz (by decide)) fun H5 W => ?_
        exact k _ ((W.shrink hr0).shrink hq0)
      · rw [if_neg hv] at k ⊢
        refine ⟨q, 0, [.int 0], rfl, rfl, W1.same _ _ upd_same, by decide, by decide, by show 1 * 0 ≤ sizeLine; decide, fun r hr => ?_⟩
        have W2 := W1.newF (u := .lst (iv [])) hr
        have hr0 := W1.fresh hr
        walk_at "w"
        refine w_cext' (xs := []) W2 upd_same (lim2 hz (by decide)) fun H5 W => ?_
        exact k _ ((W.shrink hr0).shrink hq0)
/-! ### deeds that tell -/
def spDoTelling (c : Cn) (cls : Err → Addr) : Sp := spOf c cls (fun b : Str => [.str b]) doTelling (fun _ => .non)
theorem sc_do_telling : FnScope ["self", "name"] ["self", "name"] (defScope (inClass (top 48) 17)) := ⟨rfl, rfl, rfl, by decide +kernel, rfl, by decide +kernel, by decide +kernel⟩
theorem ok_do_telling {f : Addr} {fd : FuncData} (F : FnT K "do_telling" "House.do_telling" (inClass (top 48) 17) [] [] f fd) (g : Gb w K mg) (T : HCls K c) (R : Er P w K mg base cls)
    (M_do_making1 : MethOk P w K mg base c.CH "do_making" 6 (spDoMaking c cls) [])
    (M_need2 : MethOk P w K mg base c.CH "need" 4 (spNeed c cls) [])
    (M_next_known0 : MethOk P w K mg base c.CH "next_known" 5 (spNextKnown c cls) [])
    (F_truth : CallOk P w K mg base "truth" 1 spTruth [])
    (M_do_marking1 : MethOk P w K mg base c.CH "do_marking" 4 (spDoMarking c cls) [])
    (M_next_name0 : MethOk P w K mg base c.CH "next_name" 4 (spNextName c cls) [])
    (M_do_laying1 : MethOk P w K mg base c.CH "do_laying" 8 (spDoLaying c cls) []) : FnOk P w K mg base (L2N.CX P w) 9 f fd ["self", "name"] (spDoTelling c cls) := by
  refine F.ok sc_do_telling (fun vs H Q E h => ?_) (fun cdv A outer s H vs Q E hr h => ?_)
  · obtain ⟨p, S, U, L, H0, b, rfl, _⟩ := h
    rfl
  · obtain ⟨p, S, U, L, H0, b, rfl, W, k⟩ := h
    try dsimp only at k
    refine ⟨_, (pss_one (ps_if (pt_cmpR op_in_seq (pv 1) (pe_gR g.rMAKING) (by rfl)) (pss_one (ps_expr (pe_mM M_do_making1 T.cH (hr.mono (by first | decide | omega)) (L2N.passes_call (L2N.takes_of rfl rfl rfl rfl) fun _ _ _ _ z => z) (pv 0) (pa_cons (pv 1) pa_nil)))) (pss_one (ps_if (pt_cmpR op_eq (pv 1) pe_str (nomark _)) (pss_cons (ps_expr (pe_mM M_need2 T.cH (hr.mono (by first | decide | omega)) (L2N.passes_call (L2N.takes_of rfl rfl rfl rfl) fun _ _ _ _ z => z) (pv 0) (pa_cons pe_int (pa_cons pe_int pa_nil))))
      (pss_one (ps_expr (pe_bm PySem.F.plainAttrs_list PySem.F.slot_list_append PySem.F.type_list_append mt_append (pe_fld (pv 0) rfl) (pa_cons (pe_fld (pe_mM0 M_next_known0 T.cH (hr.mono (by first | decide | omega)) (L2N.passes_call (L2N.takes_of rfl rfl rfl rfl) fun _ _ _ _ z => z) (pv 0)) rfl) pa_nil))))) (pss_one (ps_if (pt_cmpR op_eq (pv 1) pe_str (nomark _)) (pss_cons (ps_expr (pe_mM M_need2 T.cH (hr.mono (by first | decide | omega)) (L2N.passes_call (L2N.takes_of rfl rfl rfl rfl) fun _ _ _ _ z => z) (pv 0) (pa_cons pe_int (pa_cons pe_int pa_nil))))
      (pss_one (ps_expr (pe_bm PySem.F.plainAttrs_list PySem.F.slot_list_append PySem.F.type_list_append mt_append (pe_fld (pv 0) rfl) (pa_cons (pe_fM F_truth (hr.mono (by first | decide | omega)) (L2N.passes_call (L2N.takes_of rfl rfl rfl rfl) fun _ _ _ _ z => z) (pa_cons (pe_fld (pv 0) rfl) pa_nil)) pa_nil))))) (pss_one (ps_if (PW.pt (pw_or (pt_cmpR op_eq (pv 1) pe_str (nomark _)) (pw_or1 (pt_cmpR op_eq (pv 1) pe_str (nomark _))))) (pss_one (ps_expr (pe_mM M_do_marking1 T.cH (hr.mono (by first | decide | omega)) (L2N.passes_call (L2N.takes_of rfl rfl rfl rfl) fun _ _ _ _ z => z) (pv 0) (pa_cons (pv 1) pa_nil)))) (pss_one (ps_if (pt_cmpR op_eq (pv 1) pe_str (nomark _)) (pss_one (ps_while (passes_of rfl) (pt_cmpR op_ne (pe_mM0 M_next_name0 T.cH (hr.mono (by first | decide | omega)) (L2N.passes_call (L2N.takes_of rfl rfl rfl rfl) fun _ _ _ _ z => z) (pv 0)) pe_str (nomark _)) (pss_one ps_pass))) (pss_one (ps_expr (pe_mM M_do_laying1 T.cH (hr.mono (by first | decide | omega)) (L2N.passes_call (L2N.takes_of rfl rfl rfl rfl) fun _ _ _ _ z => z) (pv 0) (pa_cons (pv 1) pa_nil)))))))))))))), ?_⟩
    try dsimp only [cxOf_K]
    unfold doTelling at k
    walk_at "w"
    refine w_inT (g.tMAKING _) ?_
    walk_at "w"
    refine ite_dec (fun h1 => ?_) (fun h1 => ?_)
    · rw [if_pos h1] at k
      walk_at "w"
      exact ⟨p, S, U, L, H0, b, rfl, W, k⟩
    rw [if_neg h1] at k
    walk_at "w"
    refine ite_dec (fun h1 => ?_) (fun h1 => ?_)
    · rw [if_pos h1] at k
      walk_at "w"
      refine c_need W k fun H1 W _ hs k => ?_
      walk_at "w"
      refine ⟨p, S, U, L, H0, rfl, W, k.bind.imp fun e S1 _ k H1 b1 W1 he => ?_⟩
      obtain ⟨hp, k⟩ := Ends.push1 k
      walk_at "w"
      refine w_push W1.less hp fun H2 W2 => ?_
      exact k _ W2
    rw [if_neg h1] at k
    walk_at "w"
    refine ite_dec (fun h1 => ?_) (fun h1 => ?_)
    · rw [if_pos h1] at k
      walk_at "w"
      refine c_need W k fun H1 W _ hs k => ?_
      obtain ⟨hp, k⟩ := Ends.push1 k.get
      walk_at "w"
      refine ⟨S.mode, rfl, ?_⟩
      walk_at "w"
      refine w_push W hp fun H2 W2 => ?_
      exact k _ W2
    rw [if_neg h1] at k
    walk_at "w"
    refine ite_dec (fun h1 => ?_) (fun h1 => ?_)
    · rw [if_pos (.inl h1)] at k
      refine iteT ?_
      walk_at "w"
      exact ⟨p, S, U, L, H0, b, rfl, W, k⟩
    walk_at "w"
    refine ite_dec (fun h2 => ?_) (fun h2 => ?_)
    · rw [if_pos (.inr h2)] at k
      walk_at "w"
      exact ⟨p, S, U, L, H0, b, rfl, W, k⟩
    rw [if_neg (fun h => h.elim h1 h2)] at k
    walk_at "w"
    refine ite_dec (fun h3 => ?_) (fun h3 => ?_)
    · rw [if_pos h3] at k
      replace k := k.get
      refine ⟨fun m σ' H' => σ' = [some (.ref p), some (.str b)] ∧ ∃ S', HOwn c p S' U L H0 H' ∧ Ends c cls p U L H0 (fun _ S' => ∀ H, HOwn c p S' U L H0 H → Q .non H) E (passBy m S'), ⟨_, rfl, S, W, k⟩, ?_⟩
      rintro m σ' H' ⟨rfl, S', W', k'⟩
      cases m with
      | zero => exact k'.elim
      | succ m =>
        walk_at "w"
        refine c_of (b := ()) (f := fun w => if w = ")" then pure () else passBy m) W' k' fun z S1 H1 _ W1 k1 => ?_
        walk_at "w"
        refine ite_ndec (fun h4 => ?_) (fun h4 => ?_)
        · rw [if_neg h4] at k1
          refine ⟨fun σ' H' => σ' = [some (.ref p), some (.str b)] ∧ ∃ S', HOwn c p S' U L H0 H' ∧ Ends c cls p U L H0 (fun _ S' => ∀ H, HOwn c p S' U L H0 H → Q .non H) E (passBy m S'), fun σ' H' h => ⟨m, Nat.lt_succ_self m, h⟩, ?_⟩
          exact ⟨rfl, S1, W1, k1⟩
        · rw [if_pos h4] at k1
          walk_at "w"
          exact k1 _ W1
    rw [if_neg h3] at k
    walk_at "w"
    exact ⟨p, S, U, L, H0, b, rfl, W, k⟩
end
end WH
set_option Elab.async false
set_option linter.all false
set_option maxRecDepth 100000
set_option maxHeartbeats 2000000
namespace WH
open PySem PySem.Spec PyProof.Rows L2
local macro_rules | `(tactic| walk_at "w") => `(tactic| repeat (with_reducible first
  | (refine is_te ?_; first | refine w_var (by with_unfolding_all rfl) ?_ | refine w_c ?_ | refine w_op ?_ | refine w_cb ?_ | refine w_call ?_ | refine w_self (by assumption) (by with_unfolding_all rfl) (by decide +kernel) ?_ | refine w_ife ?_ | (refine is_fld ?_; first | refine w_cells (by assumption) (by assumption) (by with_unfolding_all rfl) ?_ | refine w_stack (by assumption) (by assumption) (by with_unfolding_all rfl) ?_ | refine w_back (by assumption) (by assumption) (by with_unfolding_all rfl) ?_ | refine w_most_cells (by assumption) (by assumption) (by with_unfolding_all rfl) ?_ | refine w_most_stack (by assumption) (by assumption) (by with_unfolding_all rfl) ?_ | refine w_book (by assumption) (by assumption) (by with_unfolding_all rfl) ?_ | refine w_spot (by assumption) (by assumption) (by with_unfolding_all rfl) ?_ | refine w_left (by assumption) (by assumption) (by with_unfolding_all rfl) ?_ | refine w_at (by assumption) (by assumption) (by with_unfolding_all rfl) ?_ | refine w_told (by assumption) (by assumption) (by with_unfolding_all rfl) ?_ | refine w_words (by assumption) (by assumption) (by with_unfolding_all rfl) ?_ | refine w_mode (by assumption) (by assumption) (by with_unfolding_all rfl) ?_ | refine w_ties (by assumption) (by assumption) (by with_unfolding_all rfl) ?_ | refine w_many_deeds (by assumption) (by assumption) (by with_unfolding_all rfl) ?_ | refine w_steps (by assumption) (by assumption) (by with_unfolding_all rfl) ?_ | refine w_fld ?_) | refine w_lst ?_ | refine w_tup ?_ | refine w_bm ?_ | refine w_bm0 ?_ | refine w_un ?_ | refine w_sl ?_ | refine w_chain ?_)
  | (refine is_ta ?_; first | refine w_cons ?_ | refine w_nil ?_)
  | refine w_gn ?_
  | (refine is_ts ?_; first | refine w_seq ?_ | refine w_asg ?_ | refine w_ifs ?_ | refine w_drop ?_ | refine w_next ?_ | refine w_ret ?_ | refine w_retN ?_ | refine w_sfld ?_ | refine w_augS ?_ | refine w_aug_spot (by assumption) (by assumption) (by with_unfolding_all rfl) ?_ | refine w_aug_left (by assumption) (by assumption) (by with_unfolding_all rfl) ?_ | refine w_aug_at (by assumption) (by assumption) (by with_unfolding_all rfl) ?_)
  | (refine is_tt ?_; first | refine w_test ?_ | refine w_and ?_ | refine w_or ?_ | refine w_not ?_ | refine w_tB ?_)
  | (refine is_r2 ?_; first | refine w_i0 ?_ | refine w_eqt ?_ | refine w_eqi ?_ | refine w_net ?_ | refine w_nei ?_ | refine w_isN ?_ | refine w_notN ?_ | refine w_rAdd ?_ | refine w_rSub ?_ | refine w_ipI ?_)
  | (refine is_ty ?_; first | refine w_tyS' (by assumption) ?_ | refine w_tyC (by assumption) ?_ | refine w_tyB (by assumption) ?_ | refine w_tyT (by assumption) ?_ | refine w_tyK (by assumption) ?_ | refine w_tyI (by assumption) ?_)
  | (refine is_ln ?_; first | refine w_lnS (by assumption) ?_ | refine w_lnC (by assumption) ?_ | refine w_lnB (by assumption) ?_ | refine w_lnT (by assumption) ?_ | refine w_lnW (by assumption) ?_ | refine w_lnK (by assumption) ?_)
  | (refine is_rf ?_; first | refine e_kind (by assumption) (by assumption) ?_ | refine e_name (by assumption) (by assumption) ?_ | refine e_number (by assumption) (by assumption) ?_ | refine e_start (by assumption) (by assumption) ?_ | refine e_end (by assumption) (by assumption) ?_ | refine e_was (by assumption) (by assumption) ?_ | refine e_worth (by assumption) (by assumption) ?_ | refine e_beyond (by assumption) (by assumption) ?_ | refine e_is_now (by assumption) (by assumption) ?_)
  | refine w_bl ?_ | refine w_mkw ?_ | refine w_mknw ?_ | refine w_part1 ?_ | refine w_neg ?_ | refine w_smk ?_ | refine w_smkn ?_ | refine w_noP ?_ | refine w_part ?_ | refine w_gcut ?_ | refine w_gsub ?_))

section
variable {K : PySem.W.Frag} {c : Cn} {p : Addr} {S : MS} {U : List Seen} {L : Ls} {H0 H : Hp} {k : VK} {x : Int} {xs : List Int}
theorem w_popE (W : HOwn c p S U L H0 H) (h : S.stack.getLast? = some x) (q : ∀ H1, HOwn c p { S with stack := S.stack.dropLast } U L H0 H1 → (∀ b e, entV c H b e → entV c H1 b e) → k (.int x) H1) : rPop (.ref L.ls) [] H k :=
  ⟨L.ls, _, _, rfl, rfl, W.stack, by rw [← List.getLast?_eq_getElem?]; exact iv_last h, q _ (by rw [iv_dropLast]; exact W.stack_set) fun _ _ g => entV_put W.stack lst_ins g⟩
theorem w_bext {b : Addr} (W : HOwn c p S U L H0 H) (hb : H b = some (.lst (iv xs))) (hz : S.back.length + xs.length ≤ 2 * LIM) (q : ∀ H1, HOwn c p { S with back := S.back ++ xs } U L H0 H1 → k .non H1) : rExtend (.ref L.lb) [.ref b] H k :=
  ⟨L.lb, b, _, _, rfl, rfl, W.back, hb, by rw [iv_len, iv_len]; exact lim_le hz, q _ (by rw [← iv_app]; exact W.back_set)⟩
end
section
variable {P : Program} {w : World} {K : PySem.W.Frag} {mg : Str → Option Value} {base : Heap} {c : Cn} {cls : Err → Addr}
/-- a word is gone into -/
def spGo (c : Cn) (cls : Err → Addr) (go : Ent → M Unit) : Sp := fun vs H Q E => ∃ (p : Addr) (S : MS) (U : List Seen) (L : Ls) (H0 : Hp) (b : Addr × Addr) (e : Ent), vs = [.ref p, .ref b.1] ∧ HOwn c p S U L H0 H ∧ sE b e ∈ U ∧ entV c H b e ∧
  Ends c cls p U L H0 (fun _ S' => ∀ H, HOwn c p S' U L H0 H → Q .non H) E (go e S)
def spDoOther (c : Cn) (cls : Err → Addr) (go : Ent → M Unit) : Sp := spOf c cls (fun b : Str => [.str b]) (doOther go) (fun _ => .non)
theorem sc_do_other : FnScope ["self", "name", "entry"] ["self", "name"] (defScope (inClass (top 38) 17)) := ⟨rfl, rfl, rfl, by decide +kernel, rfl, by decide +kernel, by decide +kernel⟩
theorem ok_do_other {f : Addr} {fd : FuncData} (F : FnT K "do_other" "Machine.do_other" (inClass (top 38) 17) [] [] f fd) (T : HCls K c) (R : Er P w K mg base cls) {n : Nat} {go : Ent → M Unit}
    (M_need1 : MethOk P w K mg base c.CH "need" 4 (spNeed c cls) [.int 0])
    (M_need_side1 : MethOk P w K mg base c.CH "need_side" 4 (spNeedSide c cls) [.int 0])
    (M_entry1 : MethOk P w K mg base c.CH "entry" 4 (spEntry c cls) [])
    (M_go_into1 : MethOk P w K mg base c.CH "go_into" (n + 9) (spGo c cls go) [])
    (M_need_side2 : MethOk P w K mg base c.CH "need_side" 4 (spNeedSide c cls) [])
    (M_give_deeds0 : MethOk P w K mg base c.CH "give_deeds" 5 (spGiveDeeds c cls) [])
    (M_do_telling1 : MethOk P w K mg base c.CH "do_telling" 9 (spDoTelling c cls) []) : FnOk P w K mg base (L2N.CX P w) (n + 10) f fd ["self", "name"] (spDoOther c cls go) := by
  refine F.ok sc_do_other (fun vs H Q E h => ?_) (fun cdv A outer s H vs Q E hr h => ?_)
  · obtain ⟨p, S, U, L, H0, b, rfl, _⟩ := h
    rfl
  · obtain ⟨p, S, U, L, H0, b, rfl, W, k⟩ := h
    try dsimp only at k
    refine ⟨_, (pss_one (ps_if (pt_cmpR op_eq (pv 1) pe_str (nomark _)) (pss_cons (ps_expr (pe_mM M_need1 T.cH (hr.mono (by first | decide | omega)) (L2N.passes_call (L2N.takes_of rfl rfl rfl rfl) fun _ _ _ _ z => z) (pv 0) (pa_cons pe_int pa_nil)))
      (pss_one (ps_expr (pe_bm PySem.F.plainAttrs_list PySem.F.slot_list_append PySem.F.type_list_append mt_append (pe_fld (pv 0) rfl) (pa_cons (pe_bm0 PySem.F.plainAttrs_list PySem.F.slot_list_pop PySem.F.type_list_pop mt_pop (pe_fld (pv 0) rfl)) pa_nil))))) (pss_one (ps_if (pt_cmpR op_eq (pv 1) pe_str (nomark _)) (pss_cons (ps_expr (pe_mM M_need_side1 T.cH (hr.mono (by first | decide | omega)) (L2N.passes_call (L2N.takes_of rfl rfl rfl rfl) fun _ _ _ _ z => z) (pv 0) (pa_cons pe_int pa_nil)))
      (pss_one (ps_fld (pv 0) (pe_bm0 PySem.F.plainAttrs_list PySem.F.slot_list_pop PySem.F.type_list_pop mt_pop (pe_fld (pv 0) rfl)) rfl))) (pss_one (ps_if (pt_cmpR op_eq (pv 1) pe_str (nomark _)) (pss_cons (ps_expr (pe_mM M_need1 T.cH (hr.mono (by first | decide | omega)) (L2N.passes_call (L2N.takes_of rfl rfl rfl rfl) fun _ _ _ _ z => z) (pv 0) (pa_cons pe_int pa_nil)))
      (pss_cons (ps_set (i := 2) sc_do_other.nd rfl (Or.inl rfl) (pe_mM M_entry1 T.cH (hr.mono (by first | decide | omega)) (L2N.passes_call (L2N.takes_of rfl rfl rfl rfl) fun _ _ _ _ z => z) (pv 0) (pa_cons (pe_ix ix_list (pe_fld (pv 0) rfl) (pe_un un_neg pe_int) (fun _ _ => rfl)) pa_nil)))
      (pss_cons (ps_expr (pe_bm0 PySem.F.plainAttrs_list PySem.F.slot_list_pop PySem.F.type_list_pop mt_pop (pe_fld (pv 0) rfl)))
      (pss_one (ps_expr (pe_mM M_go_into1 T.cH (hr.mono (by first | decide | omega)) (L2N.passes_call (L2N.takes_of rfl rfl rfl rfl) fun _ _ _ _ z => z) (pv 0) (pa_cons (pv 2) pa_nil))))))) (pss_one (ps_if (pt_cmpR op_eq (pv 1) pe_str (nomark _)) (pss_cons (ps_expr (pe_mM M_need1 T.cH (hr.mono (by first | decide | omega)) (L2N.passes_call (L2N.takes_of rfl rfl rfl rfl) fun _ _ _ _ z => z) (pv 0) (pa_cons pe_int pa_nil)))
      (pss_cons (ps_expr (pe_mM M_need_side2 T.cH (hr.mono (by first | decide | omega)) (L2N.passes_call (L2N.takes_of rfl rfl rfl rfl) fun _ _ _ _ z => z) (pv 0) (pa_cons pe_int (pa_cons pe_int pa_nil))))
      (pss_cons (ps_expr (pe_bm PySem.F.plainAttrs_list PySem.F.slot_list_extend PySem.F.type_list_extend mt_extend (pe_fld (pv 0) rfl) (pa_cons (pe_slice sl_list (pe_fld (pv 0) rfl) (po_some (pe_un un_neg pe_int)) po_none) pa_nil)))
      (pss_one (ps_asg (pe_lst pa_nil) (pg_cut (pe_fld (pv 0) rfl) (po_some (pe_un un_neg pe_int)) po_none)))))) (pss_one (ps_if (pt_cmpR op_eq (pv 1) pe_str (nomark _)) (pss_one (ps_expr (pe_mM0 M_give_deeds0 T.cH (hr.mono (by first | decide | omega)) (L2N.passes_call (L2N.takes_of rfl rfl rfl rfl) fun _ _ _ _ z => z) (pv 0)))) (pss_one (ps_expr (pe_mM M_do_telling1 T.cH (hr.mono (by first | decide | omega)) (L2N.passes_call (L2N.takes_of rfl rfl rfl rfl) fun _ _ _ _ z => z) (pv 0) (pa_cons (pv 1) pa_nil)))))))))))))), ?_⟩
    try dsimp only [cxOf_K]
    unfold doOther at k
    walk_at "w"
    refine ite_dec (fun h1 => ?_) (fun h1 => ?_)
    · rw [if_pos h1] at k
      walk_at "w"
      refine c_need W k fun H1 W _ _ k => ?_
      obtain ⟨x, hx, k⟩ := k.pop
      obtain ⟨hm, k⟩ := k.must
      rw [decide_eq_true_iff] at hm
      walk_at "w"
      refine w_pop W hx fun H2 W => ?_
      walk_at "w"
      refine w_tpush W hm fun H3 W => ?_
      exact k _ W
    rw [if_neg h1] at k
    walk_at "w"
    refine ite_dec (fun h1 => ?_) (fun h1 => ?_)
    · rw [if_pos h1] at k
      walk_at "w"
      refine c_needSide W k fun H1 W hs _ k => ?_
      obtain ⟨x, hx⟩ := last_some hs
      walk_at "w"
      refine w_bpop W hx fun H2 W => ?_
      walk_at "w"
      refine w_st_spot W T fun H3 W _ => ?_
      rw [← lastD hx] at W
      exact k _ W
    rw [if_neg h1] at k
    walk_at "w"
    refine ite_dec (fun h1 => ?_) (fun h1 => ?_)
    · rw [if_pos h1] at k
      walk_at "w"
      refine c_need W k fun H1 W hs _ k => ?_
      replace k := k.get
      obtain ⟨x, hx⟩ := last_some hs
      rw [topD hx] at k
      walk_at "w"
      refine w_stackTop W hx ?_
      walk_at "w"
      refine c_entry W k fun H2 b1 e W he _ _ k => ?_
      obtain ⟨x', hx', k⟩ := k.pop
      walk_at "w"
      refine w_popE W hx' fun H3 W hk => ?_
      walk_at "w"
      exact ⟨p, _, _, L, H0, b1, e, rfl, W, List.mem_cons_self, hk _ _ he, k.more.imp fun _ S2 _ q H2 W2 => q H2 W2.less⟩
    rw [if_neg h1] at k
    walk_at "w"
    refine ite_dec (fun h1 => ?_) (fun h1 => ?_)
    · rw [if_pos h1] at k
      walk_at "w"
      refine c_need W k fun H1 W hs _ k => ?_
      walk_at "w"
      refine c_needSide W k fun H1 W _ hb k => ?_
      obtain ⟨hm, k⟩ := k.must
      rw [decide_eq_true_iff] at hm
      walk_at "w"
      refine w_slL (SqL.of W.stack) fun q hq => ?_
      rw [cutV_back2, iv_len, iv_drop]
      have W1 := W.newF (u := .lst (iv (S.stack.drop (S.stack.length - 2)))) hq
      have hq0 := W.fresh hq
      walk_at "w"
      refine w_bext (xs := S.stack.drop (S.stack.length - 2)) W1 upd_same (by rw [List.length_drop]; unfold LIM; omega) fun H3 W2 => ?_
      replace W2 := W2.shrink hq0
      walk_at "w"
      refine ⟨Nat.zero_le _, fun q2 hq2 => ?_⟩
      have W3 := W2.newF (u := .lst []) hq2
      have hq3 := W2.fresh hq2
      generalize upd H3 q2 (.lst []) = H4 at W3 ⊢
      walk_at "w"
      refine w_cutS2 (ys := []) W3 upd_same ?_ fun H5 W4 => ?_
      · show S.stack.length + 0 ≤ 2 * LIM
        omega
      rw [List.append_nil] at W4
      exact k _ (W4.shrink hq3)
    rw [if_neg h1] at k
    walk_at "w"
    refine ite_dec (fun h1 => ?_) (fun h1 => ?_)
    · rw [if_pos h1] at k
      walk_at "w"
      exact ⟨p, S, U, L, H0, (), rfl, W, k⟩
    rw [if_neg h1] at k
    walk_at "w"
    exact ⟨p, S, U, L, H0, b, rfl, W, k⟩
def spDo (c : Cn) (cls : Err → Addr) (go : Ent → M Unit) : Sp := spOf c cls (fun b : Str => [.str b]) (doDeed go) (fun _ => .non)
theorem lookup_isSome {z : Str} : ∀ {fs : List (Str × Int × Int)}, (fs.lookup z = none ∧ ¬ z ∈ fs.map (·.1)) ∨ (∃ n l, fs.lookup z = some (n, l) ∧ z ∈ fs.map (·.1))
  | [] => .inl ⟨rfl, by simp⟩
  | (k, n, l) :: r => by
    have e : ((k, n, l) :: r).lookup z = (match z == k with | true => some (n, l) | false => r.lookup z) := rfl
    rw [e]
    cases h : z == k with
    | true =>
      have e2 : z = k := by simpa using h
      refine .inr ⟨n, l, rfl, ?_⟩
      rw [e2]
      exact List.mem_cons_self
    | false =>
      have e2 : z ≠ k := by simpa using h
      rcases lookup_isSome (z := z) (fs := r) with ⟨h1, h2⟩ | ⟨n', l', h1, h2⟩
      · refine .inl ⟨h1, fun q => ?_⟩
        rcases List.mem_cons.mp q with q | q
        · exact e2 q
        · exact h2 q
      · exact .inr ⟨n', l', h1, List.mem_cons_of_mem _ h2⟩
theorem w_kin {H : Hp} {Q : VK} {z : Str} (g : Gb w K mg) (q1 : ∀ n l, faces.lookup z = some (n, l) → z ∈ faces.map (·.1) → Q (.bl true) H) (q0 : ¬ z ∈ faces.map (·.1) → Q (.bl false) H) : rKin K (He.ga K "FACES") (.str z) (.ref (He.ga K "FACES")) H Q := by
  rcases lookup_isSome (z := z) (fs := faces) with ⟨h1, h2⟩ | ⟨n, l, h1, h2⟩
  · exact ⟨z, none, rfl, rfl, g.mFACES z h1, q0 h2⟩
  · obtain ⟨t, h3, _⟩ := g.hFACES z n l h1
    exact ⟨z, some (.ref t), rfl, rfl, h3, q1 n l h1 h2⟩
theorem sc_do : FnScope ["self", "name"] ["self", "name"] (defScope (inClass (top 38) 11)) := ⟨rfl, rfl, rfl, by decide +kernel, rfl, by decide +kernel, by decide +kernel⟩
theorem ok_do {f : Addr} {fd : FuncData} (F : FnT K "do" "Machine.do" (inClass (top 38) 11) [] [] f fd) (g : Gb w K mg) (T : HCls K c) (R : Er P w K mg base cls) {fes : Array DictEntry} {fn : Nat} (FD : KDict K w (He.ga K "FACES") fes fn) {n : Nat} {go : Ent → M Unit}
    (M_do_plain1 : MethOk P w K mg base c.CH "do_plain" 5 (spDoPlain c cls) [])
    (M_do_paired1 : MethOk P w K mg base c.CH "do_paired" 6 (spDoPaired c cls) [])
    (M_do_side1 : MethOk P w K mg base c.CH "do_side" 5 (spDoSide c cls) [])
    (M_do_cells1 : MethOk P w K mg base c.CH "do_cells" 5 (spDoCells c cls) [])
    (M_do_other1 : MethOk P w K mg base c.CH "do_other" (n + 10) (spDoOther c cls go) []) : FnOk P w K mg base (L2N.CX P w) (n + 11) f fd ["self", "name"] (spDo c cls go) := by
  refine F.ok sc_do (fun vs H Q E h => ?_) (fun cdv A outer s H vs Q E hr h => ?_)
  · obtain ⟨p, S, U, L, H0, b, rfl, _⟩ := h
    rfl
  · obtain ⟨p, S, U, L, H0, b, rfl, W, k⟩ := h
    try dsimp only at k
    refine ⟨_, (pss_cons (ps_if (PW.pt (pw_and (pt_cmpR op_in_seq (pv 1) (pe_gR g.rWITHIN) (by rfl)) (pw_and1 (pt_cmpR op_eq (pe_fld (pv 0) rfl) (pe_gI g.iNOWHERE) (nomark _))))) (pss_one (ps_rw R.onlyWithin rfl (hr.mono (by first | decide | omega)) (L2N.takes_of rfl rfl rfl rfl) (pe_fld (pv 0) rfl))) pss_nil)
      (pss_one (ps_if (pt_cmpR (op_kin FD) (pv 1) (pe_gR g.rFACES) (by rfl)) (pss_one (ps_expr (pe_mM M_do_plain1 T.cH (hr.mono (by first | decide | omega)) (L2N.passes_call (L2N.takes_of rfl rfl rfl rfl) fun _ _ _ _ z => z) (pv 0) (pa_cons (pv 1) pa_nil)))) (pss_one (ps_if (pt_cmpR op_in_seq (pv 1) (pe_gR g.rPAIRED) (by rfl)) (pss_one (ps_expr (pe_mM M_do_paired1 T.cH (hr.mono (by first | decide | omega)) (L2N.passes_call (L2N.takes_of rfl rfl rfl rfl) fun _ _ _ _ z => z) (pv 0) (pa_cons (pv 1) pa_nil)))) (pss_one (ps_if (pt_cmpR op_in_seq (pv 1) (pe_gR g.rSIDEWISE) (by rfl)) (pss_one (ps_expr (pe_mM M_do_side1 T.cH (hr.mono (by first | decide | omega)) (L2N.passes_call (L2N.takes_of rfl rfl rfl rfl) fun _ _ _ _ z => z) (pv 0) (pa_cons (pv 1) pa_nil)))) (pss_one (ps_if (pt_cmpR op_in_seq (pv 1) (pe_gR g.rSTORING) (by rfl)) (pss_one (ps_expr (pe_mM M_do_cells1 T.cH (hr.mono (by first | decide | omega)) (L2N.passes_call (L2N.takes_of rfl rfl rfl rfl) fun _ _ _ _ z => z) (pv 0) (pa_cons (pv 1) pa_nil)))) (pss_one (ps_expr (pe_mM M_do_other1 T.cH (hr.mono (by first | decide | omega)) (L2N.passes_call (L2N.takes_of rfl rfl rfl rfl) fun _ _ _ _ z => z) (pv 0) (pa_cons (pv 1) pa_nil))))))))))))), ?_⟩
    try dsimp only [cxOf_K]
    unfold doDeed at k
    replace k := k.get
    walk_at "w"
    refine w_inT (g.tWITHIN _) ?_
    walk_at "w"
    by_cases hw : b ∈ within ∧ S.spot = -1
    · rw [if_pos hw] at k
      refine ite_dec (fun _ => ?_) (fun h => (h hw.1).elim)
      walk_at "w"
      refine ite_dec (fun _ => ?_) (fun h => (h hw.2).elim)
      walk_at "w"
      exact fun d hd => fin_err k W rfl hd rfl
    rw [if_neg hw] at k
    refine ite_dec (fun h1 => ?_) (fun h1 => ?_)
    · walk_at "w"
      refine ite_dec (fun h => (hw ⟨h1, h⟩).elim) (fun _ => ?_)
      walk_at "w"
      refine w_kin g (fun n l _ h2 => ?_) (fun h2 => ?_)
      · rw [if_pos h2] at k
        walk_at "w"
        refine iteT ?_
        walk_at "w"
        exact ⟨p, S, U, L, H0, b, rfl, W, k⟩
      rw [if_neg h2] at k
      walk_at "w"
      refine iteF ?_
      walk_at "w"
      refine w_inT (g.tPAIRED _) ?_
      walk_at "w"
      refine ite_dec (fun h3 => ?_) (fun h3 => ?_)
      · rw [if_pos h3] at k
        walk_at "w"
        exact ⟨p, S, U, L, H0, b, rfl, W, k⟩
      rw [if_neg h3] at k
      walk_at "w"
      refine w_inT (g.tSIDEWISE _) ?_
      walk_at "w"
      refine ite_dec (fun h3 => ?_) (fun h3 => ?_)
      · rw [if_pos h3] at k
        walk_at "w"
        exact ⟨p, S, U, L, H0, b, rfl, W, k⟩
      rw [if_neg h3] at k
      walk_at "w"
      refine w_inT (g.tSTORING _) ?_
      walk_at "w"
      refine ite_dec (fun h3 => ?_) (fun h3 => ?_)
      · rw [if_pos h3] at k
        walk_at "w"
        exact ⟨p, S, U, L, H0, b, rfl, W, k⟩
      rw [if_neg h3] at k
      walk_at "w"
      exact ⟨p, S, U, L, H0, b, rfl, W, k⟩
    · refine iteF ?_
      walk_at "w"
      refine w_kin g (fun n l _ h2 => ?_) (fun h2 => ?_)
      · rw [if_pos h2] at k
        walk_at "w"
        refine iteT ?_
        walk_at "w"
        exact ⟨p, S, U, L, H0, b, rfl, W, k⟩
      rw [if_neg h2] at k
      walk_at "w"
      refine iteF ?_
      walk_at "w"
      refine w_inT (g.tPAIRED _) ?_
      walk_at "w"
      refine ite_dec (fun h3 => ?_) (fun h3 => ?_)
      · rw [if_pos h3] at k
        walk_at "w"
        exact ⟨p, S, U, L, H0, b, rfl, W, k⟩
      rw [if_neg h3] at k
      walk_at "w"
      refine w_inT (g.tSIDEWISE _) ?_
      walk_at "w"
      refine ite_dec (fun h3 => ?_) (fun h3 => ?_)
      · rw [if_pos h3] at k
        walk_at "w"
        exact ⟨p, S, U, L, H0, b, rfl, W, k⟩
      rw [if_neg h3] at k
      walk_at "w"
      refine w_inT (g.tSTORING _) ?_
      walk_at "w"
      refine ite_dec (fun h3 => ?_) (fun h3 => ?_)
      · rw [if_pos h3] at k
        walk_at "w"
        exact ⟨p, S, U, L, H0, b, rfl, W, k⟩
      rw [if_neg h3] at k
      walk_at "w"
      exact ⟨p, S, U, L, H0, b, rfl, W, k⟩
theorem sc_go_into : FnScope ["self", "entry"] ["self", "entry"] (defScope (inClass (top 38) 8)) := ⟨rfl, rfl, rfl, by decide +kernel, rfl, by decide +kernel, by decide +kernel⟩
theorem ok_go_into {f : Addr} {fd : FuncData} (F : FnT K "go_into" "Machine.go_into" (inClass (top 38) 8) [] [] f fd) (T : HCls K c) (R : Er P w K mg base cls) {n : Nat} {go : Ent → M Unit}
    (M_do1 : MethOk P w K mg base c.CH "do" (n + 11) (spDo c cls go) [])
    (M_need2 : MethOk P w K mg base c.CH "need" 4 (spNeed c cls) [])
    (M_forget_from1 : MethOk P w K mg base c.CH "forget_from" 4 (spForgetFrom c cls) [])
    (M_go_to1 : MethOk P w K mg base c.CH "go_to" 5 (spGoTo c cls) []) : FnOk P w K mg base (L2N.CX P w) (n + 12) f fd ["self", "entry"] (spGo c cls (goWith go)) := by
  refine F.ok sc_go_into (fun vs H Q E h => ?_) (fun cdv A outer s H vs Q E hr h => ?_)
  · obtain ⟨p, S, U, L, H0, b, e, rfl, _⟩ := h
    rfl
  · obtain ⟨p, S, U, L, H0, b, e, rfl, W, hU, he, k⟩ := h
    try dsimp only at k
    refine ⟨_, (pss_one (ps_if (pt_cmpR op_eq (pe_fld (pv 1) rfl) pe_str (nomark _)) (pss_one (ps_expr (pe_mM M_do1 T.cH (hr.mono (by first | decide | omega)) (L2N.passes_call (L2N.takes_of rfl rfl rfl rfl) fun _ _ _ _ z => z) (pv 0) (pa_cons (pe_fld (pv 1) rfl) pa_nil)))) (pss_one (ps_if (pt_cmpR op_eq (pe_fld (pv 1) rfl) pe_str (nomark _)) (pss_cons (ps_expr (pe_mM M_need2 T.cH (hr.mono (by first | decide | omega)) (L2N.passes_call (L2N.takes_of rfl rfl rfl rfl) fun _ _ _ _ z => z) (pv 0) (pa_cons pe_int (pa_cons pe_int pa_nil))))
      (pss_one (ps_expr (pe_bm PySem.F.plainAttrs_list PySem.F.slot_list_append PySem.F.type_list_append mt_append (pe_fld (pv 0) rfl) (pa_cons (pe_fld (pv 1) rfl) pa_nil))))) (pss_one (ps_if (pt_cmpR op_eq (pe_fld (pv 1) rfl) pe_str (nomark _)) (pss_cons (ps_if (pt_cmpR op_notN1 (pe_fld (pv 0) rfl) pe_non (nomark _)) (pss_one (ps_rw R.unfit rfl (hr.mono (by first | decide | omega)) (L2N.takes_of rfl rfl rfl rfl) (pe_fld (pv 0) rfl))) pss_nil)
      (pss_one (ps_expr (pe_mM M_forget_from1 T.cH (hr.mono (by first | decide | omega)) (L2N.passes_call (L2N.takes_of rfl rfl rfl rfl) fun _ _ _ _ z => z) (pv 0) (pa_cons (pe_fld (pv 1) rfl) pa_nil))))) (pss_one (ps_expr (pe_mM M_go_to1 T.cH (hr.mono (by first | decide | omega)) (L2N.passes_call (L2N.takes_of rfl rfl rfl rfl) fun _ _ _ _ z => z) (pv 0) (pa_cons (pv 1) pa_nil)))))))))), ?_⟩
    try dsimp only [cxOf_K]
    unfold goWith at k
    walk_at "w"
    cases hk : e.kind with
    | deed =>
      rw [hk] at k
      have y1 : e.kind.str = "deed" := by rw [hk]; rfl
      refine ite_dec (fun _ => ?_) (fun h => (h (by rfl)).elim)
      walk_at "w"
      exact ⟨p, S, U, L, H0, e.name, rfl, W, k⟩
    | fixed =>
      rw [hk] at k
      refine ite_dec (fun h => absurd h (by decide)) (fun _ => ?_)
      walk_at "w"
      refine ite_dec (fun _ => ?_) (fun h => (h (by rw [hk]; rfl)).elim)
      walk_at "w"
      refine c_need W k fun H1 W _ _ k => ?_
      obtain ⟨hp, k⟩ := Ends.push1 k
      obtain ⟨_, _, he1⟩ := W.seen hU
      walk_at "w"
      refine w_push W hp fun H2 W => ?_
      exact k _ W
    | mark =>
      rw [hk] at k
      refine ite_dec (fun h => absurd h (by decide)) (fun _ => ?_)
      walk_at "w"
      refine ite_dec (fun h => absurd h (by rw [hk]; decide)) (fun _ => ?_)
      walk_at "w"
      refine ite_dec (fun _ => ?_) (fun h => (h (by rw [hk]; rfl)).elim)
      replace k := k.get
      walk_at "w"
      refine w_openedR W T fun v hv => ?_
      walk_at "w"
      cases eo : S.opened with
      | some x =>
        rw [eo] at hv
        rw [if_pos (by rw [eo]; exact fun h => nomatch h)] at k
        obtain ⟨t, rfl, _⟩ := hv
        refine ite_ndec (fun _ => ?_) (fun h => nomatch h)
        walk_at "w"
        exact fun d hd => fin_err k W rfl hd rfl
      | none =>
        rw [eo] at hv
        rw [if_neg (fun h => h eo)] at k
        have hv' : v = .non := hv
        subst hv'
        refine ite_ndec (fun h => absurd rfl h) (fun _ => ?_)
        walk_at "w"
        exact ⟨p, S, U, L, H0, e.num, rfl, W, k⟩
    | row =>
      rw [hk] at k
      refine ite_dec (fun h => absurd h (by decide)) (fun _ => ?_)
      walk_at "w"
      refine ite_dec (fun h => absurd h (by rw [hk]; decide)) (fun _ => ?_)
      walk_at "w"
      refine ite_dec (fun h => absurd h (by rw [hk]; decide)) (fun _ => ?_)
      walk_at "w"
      exact ⟨p, S, U, L, H0, b, e, rfl, W, hU, he, .inl hk, k⟩
    | cell =>
      rw [hk] at k
      refine ite_dec (fun h => absurd h (by decide)) (fun _ => ?_)
      walk_at "w"
      refine ite_dec (fun h => absurd h (by rw [hk]; decide)) (fun _ => ?_)
      walk_at "w"
      refine ite_dec (fun h => absurd h (by rw [hk]; decide)) (fun _ => ?_)
      walk_at "w"
      exact ⟨p, S, U, L, H0, b, e, rfl, W, hU, he, .inr hk, k⟩
end
end WH
set_option Elab.async false
set_option linter.all false
set_option maxRecDepth 100000
set_option maxHeartbeats 2000000
namespace WH
open PySem PySem.Spec PyProof.Rows L2
local macro_rules | `(tactic| walk_at "w") => `(tactic| repeat (with_reducible first
  | (refine is_te ?_; first | refine w_var (by with_unfolding_all rfl) ?_ | refine w_c ?_ | refine w_op ?_ | refine w_cb ?_ | refine w_call ?_ | refine w_self (by assumption) (by with_unfolding_all rfl) (by decide +kernel) ?_ | refine w_ife ?_ | (refine is_fld ?_; first | refine w_cells (by assumption) (by assumption) (by with_unfolding_all rfl) ?_ | refine w_stack (by assumption) (by assumption) (by with_unfolding_all rfl) ?_ | refine w_back (by assumption) (by assumption) (by with_unfolding_all rfl) ?_ | refine w_most_cells (by assumption) (by assumption) (by with_unfolding_all rfl) ?_ | refine w_most_stack (by assumption) (by assumption) (by with_unfolding_all rfl) ?_ | refine w_book (by assumption) (by assumption) (by with_unfolding_all rfl) ?_ | refine w_spot (by assumption) (by assumption) (by with_unfolding_all rfl) ?_ | refine w_left (by assumption) (by assumption) (by with_unfolding_all rfl) ?_ | refine w_at (by assumption) (by assumption) (by with_unfolding_all rfl) ?_ | refine w_told (by assumption) (by assumption) (by with_unfolding_all rfl) ?_ | refine w_words (by assumption) (by assumption) (by with_unfolding_all rfl) ?_ | refine w_mode (by assumption) (by assumption) (by with_unfolding_all rfl) ?_ | refine w_ties (by assumption) (by assumption) (by with_unfolding_all rfl) ?_ | refine w_many_deeds (by assumption) (by assumption) (by with_unfolding_all rfl) ?_ | refine w_steps (by assumption) (by assumption) (by with_unfolding_all rfl) ?_ | refine w_fld ?_) | refine w_lst ?_ | refine w_tup ?_ | refine w_bm ?_ | refine w_bm0 ?_ | refine w_un ?_ | refine w_sl ?_ | refine w_chain ?_)
  | (refine is_ta ?_; first | refine w_cons ?_ | refine w_nil ?_)
  | refine w_gn ?_
  | (refine is_ts ?_; first | refine w_seq ?_ | refine w_asg ?_ | refine w_ifs ?_ | refine w_drop ?_ | refine w_next ?_ | refine w_ret ?_ | refine w_retN ?_ | refine w_sfld ?_ | refine w_augS ?_ | refine w_aug_spot (by assumption) (by assumption) (by with_unfolding_all rfl) ?_ | refine w_aug_left (by assumption) (by assumption) (by with_unfolding_all rfl) ?_ | refine w_aug_at (by assumption) (by assumption) (by with_unfolding_all rfl) ?_)
  | (refine is_tt ?_; first | refine w_test ?_ | refine w_and ?_ | refine w_or ?_ | refine w_not ?_ | refine w_tB ?_)
  | (refine is_r2 ?_; first | refine w_i0 ?_ | refine w_eqt ?_ | refine w_eqi ?_ | refine w_net ?_ | refine w_nei ?_ | refine w_isN ?_ | refine w_notN ?_ | refine w_rAdd ?_ | refine w_rSub ?_ | refine w_ipI ?_)
  | (refine is_ty ?_; first | refine w_tyS' (by assumption) ?_ | refine w_tyC (by assumption) ?_ | refine w_tyB (by assumption) ?_ | refine w_tyT (by assumption) ?_ | refine w_tyK (by assumption) ?_ | refine w_tyI (by assumption) ?_)
  | (refine is_ln ?_; first | refine w_lnS (by assumption) ?_ | refine w_lnC (by assumption) ?_ | refine w_lnB (by assumption) ?_ | refine w_lnT (by assumption) ?_ | refine w_lnW (by assumption) ?_ | refine w_lnK (by assumption) ?_)
  | (refine is_rf ?_; first | refine e_kind (by assumption) (by assumption) ?_ | refine e_name (by assumption) (by assumption) ?_ | refine e_number (by assumption) (by assumption) ?_ | refine e_start (by assumption) (by assumption) ?_ | refine e_end (by assumption) (by assumption) ?_ | refine e_was (by assumption) (by assumption) ?_ | refine e_worth (by assumption) (by assumption) ?_ | refine e_beyond (by assumption) (by assumption) ?_ | refine e_is_now (by assumption) (by assumption) ?_)
  | refine w_bl ?_ | refine w_mkw ?_ | refine w_mknw ?_ | refine w_part1 ?_ | refine w_neg ?_ | refine w_smk ?_ | refine w_smkn ?_ | refine w_noP ?_ | refine w_part ?_ | refine w_gcut ?_ | refine w_gsub ?_))

def enterG (go : Ent → M Unit) (e : Ent) : M Unit := fun s =>
  let s1 := { s with left := s.left - 1 }
  if s1.left < 0 then .err .tooLong s1 else go e s1
def runFromG (go : Ent → M Unit) : Nat → M Unit
  | 0 => stuck
  | f + 1 => fun s => if s.spot = -1 then .ok () s else (do
    needCell s.spot
    let e ← entryAt (cellAt s s.spot)
    modify' fun s => { s with spot := s.spot + 1 }
    enterG go e
    runFromG go f : M Unit) s
def performG (go : Ent → M Unit) (e : Ent) : M Unit := do
  setSpot (-1)
  enterG go e
  runFromG go ((← get').left.toNat + 1)
theorem enterG_eq (n : Nat) : enterG (goInto n) = enter n := rfl
theorem runFromG_eq (n : Nat) : ∀ f, runFromG (goInto n) f = runFrom n f
  | 0 => rfl
  | f + 1 => by
    unfold runFromG runFrom
    rw [runFromG_eq n f]
    rfl
theorem performG_eq (n : Nat) (e : Ent) : performG (goInto n) e = perform n e := by
  unfold performG perform
  simp only [runFromG_eq]
  rfl
section
variable {P : Program} {w : World} {K : PySem.W.Frag} {mg : Str → Option Value} {base : Heap} {c : Cn} {cls : Err → Addr}
theorem sc_enter : FnScope ["self", "entry", "depth"] ["self", "entry"] (defScope (inClass (top 38) 7)) := ⟨rfl, rfl, rfl, by decide +kernel, rfl, by decide +kernel, by decide +kernel⟩
theorem ok_enter {f : Addr} {fd : FuncData} (F : FnT K "enter" "Machine.enter" (inClass (top 38) 7) [] [] f fd) (g : Gb w K mg) (T : HCls K c) (R : Er P w K mg base cls) {n : Nat} {go : Ent → M Unit}
    (M_go_into1 : MethOk P w K mg base c.CH "go_into" (n + 9) (spGo c cls go) []) : FnOk P w K mg base (L2N.CX P w) (n + 10) f fd ["self", "entry"] (spGo c cls (enterG go)) := by
  refine F.ok sc_enter (fun vs H Q E h => ?_) (fun cdv A outer s H vs Q E hr h => ?_)
  · obtain ⟨p, S, U, L, H0, b, e, rfl, _⟩ := h
    rfl
  · obtain ⟨p, S, U, L, H0, b, e, rfl, W, hU, he, k⟩ := h
    try dsimp only at k
    refine ⟨_, (pss_cons (ps_fldaug (pv 0) pe_int in_sub)
      (pss_cons (ps_if (pt_cmpR op_lt (pe_fld (pv 0) rfl) pe_int (nomark _)) (pss_one (ps_rw R.tooLong rfl (hr.mono (by first | decide | omega)) (L2N.takes_of rfl rfl rfl rfl) (pe_fld (pv 0) rfl))) pss_nil)
      (pss_cons (ps_set (i := 2) sc_enter.nd rfl (Or.inl rfl) (pe_callB call_ln (by rfl) g.len PySem.boot_len (pa_cons (pe_fld (pv 0) rfl) pa_nil)))
      (pss_cons (ps_expr (pe_mM M_go_into1 T.cH (hr.mono (by first | decide | omega)) (L2N.passes_call (L2N.takes_of rfl rfl rfl rfl) fun _ _ _ _ z => z) (pv 0) (pa_cons (pv 1) pa_nil)))
      (pss_one (ps_if (pt_cmpR op_notN1 (pe_fld (pv 0) rfl) pe_non (nomark _)) (pss_one ps_never) pss_nil)))))), ?_⟩
    try dsimp only [cxOf_K]
    unfold enterG at k
    dsimp only at k
    walk_at "w"
    refine w_fl_left W fun H1 W hk => ?_
    walk_at "w"
    refine ite_dec (fun h1 => ?_) (fun h1 => ?_)
    · rw [if_pos h1] at k
      walk_at "w"
      exact fun d hd => fin_err k W rfl hd rfl
    · rw [if_neg h1] at k
      walk_at "w"
      refine ⟨p, _, U, L, H0, b, e, rfl, W, hU, hk _ _ he, k.imp fun _ S1 _ k H2 W2 => ?_⟩
      walk_at "w"
      refine iteF ?_
      walk_at "w"
      exact k _ W2
theorem sc_perform : FnScope ["self", "entry"] ["self", "entry"] (defScope (inClass (top 38) 6)) := ⟨rfl, rfl, rfl, by decide +kernel, rfl, by decide +kernel, by decide +kernel⟩
theorem ok_perform {f : Addr} {fd : FuncData} (F : FnT K "perform" "Machine.perform" (inClass (top 38) 6) [] [] f fd) (g : Gb w K mg) (T : HCls K c) (R : Er P w K mg base cls) {n : Nat} {go : Ent → M Unit}
    (M_enter1 : MethOk P w K mg base c.CH "enter" (n + 10) (spGo c cls (enterG go)) [])
    (M_need_cell1 : MethOk P w K mg base c.CH "need_cell" 4 (spNeedCell c cls) [])
    (M_entry1 : MethOk P w K mg base c.CH "entry" 4 (spEntry c cls) []) : FnOk P w K mg base (L2N.CX P w) (n + 11) f fd ["self", "entry"] (spGo c cls (performG go)) := by
  refine F.ok sc_perform (fun vs H Q E h => ?_) (fun cdv A outer s H vs Q E hr h => ?_)
  · obtain ⟨p, S, U, L, H0, b, e, rfl, _⟩ := h
    rfl
  · obtain ⟨p, S, U, L, H0, b, e, rfl, W, hU, he, k⟩ := h
    try dsimp only at k
    refine ⟨_, (pss_cons (ps_fld (pv 0) (pe_gI g.iNOWHERE) rfl)
      (pss_cons (ps_expr (pe_mM M_enter1 T.cH (hr.mono (by first | decide | omega)) (L2N.passes_call (L2N.takes_of rfl rfl rfl rfl) fun _ _ _ _ z => z) (pv 0) (pa_cons (pv 1) pa_nil)))
      (pss_one (ps_while (passes_of rfl) (pt_cmpR op_ne (pe_fld (pv 0) rfl) (pe_gI g.iNOWHERE) (nomark _)) (pss_cons (ps_expr (pe_mM M_need_cell1 T.cH (hr.mono (by first | decide | omega)) (L2N.passes_call (L2N.takes_of rfl rfl rfl rfl) fun _ _ _ _ z => z) (pv 0) (pa_cons (pe_fld (pv 0) rfl) pa_nil)))
      (pss_cons (ps_set (i := 1) sc_perform.nd rfl (Or.inl rfl) (pe_mM M_entry1 T.cH (hr.mono (by first | decide | omega)) (L2N.passes_call (L2N.takes_of rfl rfl rfl rfl) fun _ _ _ _ z => z) (pv 0) (pa_cons (pe_ix ix_list (pe_fld (pv 0) rfl) (pe_fld (pv 0) rfl) (fun _ _ => rfl)) pa_nil)))
      (pss_cons (ps_fldaug (pv 0) pe_int in_add)
      (pss_one (ps_expr (pe_mM M_enter1 T.cH (hr.mono (by first | decide | omega)) (L2N.passes_call (L2N.takes_of rfl rfl rfl rfl) fun _ _ _ _ z => z) (pv 0) (pa_cons (pv 1) pa_nil))))))))))), ?_⟩
    try dsimp only [cxOf_K]
    unfold performG at k
    replace k := Ends.mod k
    walk_at "w"
    refine w_st_spot W T fun H1 W hk => ?_
    walk_at "w"
    refine ⟨p, _, U, L, H0, b, e, rfl, W, hU, hk _ _ he, k.bind.imp fun _ S1 _ k H2 W => ?_⟩
    replace k := k.get
    walk_at "w"
    refine ⟨fun m σ' H' => (∃ v, σ' = [some (.ref p), some v]) ∧ ∃ S', HOwn c p S' U L H0 H' ∧ Ends c cls p U L H0 (fun _ S' => ∀ H, HOwn c p S' U L H0 H → Q .non H) E (runFromG go m S'), ⟨_, ⟨_, rfl⟩, S1, W, k⟩, ?_⟩
    rintro m σ' H' ⟨⟨v, rfl⟩, S', W', k'⟩
    cases m with
    | zero => exact k'.elim
    | succ m =>
      unfold runFromG at k'
      walk_at "w"
      refine ite_ndec (fun h1 => ?_) (fun h1 => ?_)
      · rw [if_neg h1] at k'
        refine ⟨fun σ' H' => (∃ v, σ' = [some (.ref p), some v]) ∧ ∃ S', HOwn c p S' U L H0 H' ∧ Ends c cls p U L H0 (fun _ S' => ∀ H, HOwn c p S' U L H0 H → Q .non H) E (runFromG go m S'), fun σ' H' h => ⟨m, Nat.lt_succ_self m, h⟩, ?_⟩
        walk_at "w"
        refine c_needCell W' k' fun H3 W hlo hhi k => ?_
        walk_at "w"
        refine w_cellAt W hlo hhi ?_
        walk_at "w"
        refine c_entry W k fun H4 b1 e1 W he _ _ k => ?_
        walk_at "w"
        refine w_fl_spot W fun H5 W hk => ?_
        walk_at "w"
        refine ⟨p, _, _, L, H0, b1, e1, rfl, W, List.mem_cons_self, hk _ _ he, k.mod.bind.more.imp fun _ S2 _ q H2 W2 => ?_⟩
        exact ⟨⟨_, rfl⟩, _, W2.less, q⟩
      · rw [if_pos h1] at k'
        walk_at "w"
        exact k' _ W'
def oneWordG (go : Ent → M Unit) (w : Str) : M Unit := fun s => match known s w with
  | some e => if s.mode = true ∧ e.now = false then lay [e.num] s else performG go e s
  | none => if w.length ≤ LIM then (match numberOf w with
    | none => .err (.noWord w) s
    | some x => if s.mode = true then (do
      let y ← numForM "(lit)"
      lay [y, x] : M Unit) s else (do
      need 0 1
      push x : M Unit) s) else .stuck
theorem oneWordG_eq (n : Nat) (w : Str) : oneWordG (goInto n) w = oneWord n w := by
  unfold oneWordG oneWord
  simp only [performG_eq] <;> rfl
def spOneWord (c : Cn) (cls : Err → Addr) (go : Ent → M Unit) : Sp := spOf c cls (fun b : Str => [.str b]) (oneWordG go) (fun _ => .non)
theorem sc_one_word : FnScope ["self", "word", "entry", "number"] ["self", "word"] (defScope (inClass (top 48) 12)) := ⟨rfl, rfl, rfl, by decide +kernel, rfl, by decide +kernel, by decide +kernel⟩
theorem ok_one_word {f : Addr} {fd : FuncData} (F : FnT K "one_word" "House.one_word" (inClass (top 48) 12) [] [] f fd) (T : HCls K c) (R : Er P w K mg base cls) {n : Nat} {go : Ent → M Unit}
    (M_known1 : MethOk P w K mg base c.CH "known" 3 (spKnown c) [])
    (M_lay1 : MethOk P w K mg base c.CH "lay" 5 (spLay c cls) [])
    (M_perform1 : MethOk P w K mg base c.CH "perform" (n + 11) (spGo c cls (performG go)) [])
    (F_number_of : CallOk P w K mg base "number_of" 1 spNumberOf [])
    (M_number_for1 : MethOk P w K mg base c.CH "number_for" 3 (spNumberFor c cls) [])
    (M_need2 : MethOk P w K mg base c.CH "need" 4 (spNeed c cls) []) : FnOk P w K mg base (L2N.CX P w) (n + 12) f fd ["self", "word"] (spOneWord c cls go) := by
  refine F.ok sc_one_word (fun vs H Q E h => ?_) (fun cdv A outer s H vs Q E hr h => ?_)
  · obtain ⟨p, S, U, L, H0, b, rfl, _⟩ := h
    rfl
  · obtain ⟨p, S, U, L, H0, b, rfl, W, k⟩ := h
    try dsimp only at k
    refine ⟨_, (pss_cons (ps_set (i := 2) sc_one_word.nd rfl (Or.inl rfl) (pe_mM M_known1 T.cH (hr.mono (by first | decide | omega)) (L2N.passes_call (L2N.takes_of rfl rfl rfl rfl) fun _ _ _ _ z => z) (pv 0) (pa_cons (pv 1) pa_nil)))
      (pss_cons (ps_if (pt_cmpR op_notN1 (pv 2) pe_non (nomark _)) (pss_cons (ps_if (PW.pt (pw_and (pt_val (pe_fld (pv 0) rfl)) (pw_and1 (pt_not (pt_val (pe_fld (pv 2) rfl)))))) (pss_one (ps_expr (pe_mM M_lay1 T.cH (hr.mono (by first | decide | omega)) (L2N.passes_call (L2N.takes_of rfl rfl rfl rfl) fun _ _ _ _ z => z) (pv 0) (pa_cons (pe_lst (pa_cons (pe_fld (pv 2) rfl) pa_nil)) pa_nil)))) (pss_one (ps_expr (pe_mM M_perform1 T.cH (hr.mono (by first | decide | omega)) (L2N.passes_call (L2N.takes_of rfl rfl rfl rfl) fun _ _ _ _ z => z) (pv 0) (pa_cons (pv 2) pa_nil)))))
      (pss_one ps_retN)) pss_nil)
      (pss_cons (ps_set (i := 3) sc_one_word.nd rfl (Or.inl rfl) (pe_fM F_number_of (hr.mono (by first | decide | omega)) (L2N.passes_call (L2N.takes_of rfl rfl rfl rfl) fun _ _ _ _ z => z) (pa_cons (pv 1) pa_nil)))
      (pss_cons (ps_if (pt_cmpR op_isN1 (pv 3) pe_non (nomark _)) (pss_one (ps_rnw (R.noWord Str.empty) rfl (hr.mono (by first | decide | omega)) (L2N.takes_of rfl rfl rfl rfl) (pe_fld (pv 0) rfl) (pv 1))) pss_nil)
      (pss_one (ps_if (pt_val (pe_fld (pv 0) rfl)) (pss_one (ps_expr (pe_mM M_lay1 T.cH (hr.mono (by first | decide | omega)) (L2N.passes_call (L2N.takes_of rfl rfl rfl rfl) fun _ _ _ _ z => z) (pv 0) (pa_cons (pe_lst (pa_cons (pe_mM M_number_for1 T.cH (hr.mono (by first | decide | omega)) (L2N.passes_call (L2N.takes_of rfl rfl rfl rfl) fun _ _ _ _ z => z) (pv 0) (pa_cons pe_str pa_nil)) (pa_cons (pv 3) pa_nil))) pa_nil)))) (pss_cons (ps_expr (pe_mM M_need2 T.cH (hr.mono (by first | decide | omega)) (L2N.passes_call (L2N.takes_of rfl rfl rfl rfl) fun _ _ _ _ z => z) (pv 0) (pa_cons pe_int (pa_cons pe_int pa_nil))))
      (pss_one (ps_expr (pe_bm PySem.F.plainAttrs_list PySem.F.slot_list_append PySem.F.type_list_append mt_append (pe_fld (pv 0) rfl) (pa_cons (pv 3) pa_nil))))))))))), ?_⟩
    try dsimp only [cxOf_K]
    unfold oneWordG at k
    walk_at "w"
    refine c_known W (fun en => ?_) (fun e b1 en W1 he => ?_)
    · rw [en] at k
      dsimp only at k
      by_cases hz : b.length ≤ LIM
      rotate_left
      · rw [if_neg hz] at k
        exact k.elim
      rw [if_pos hz] at k
      walk_at "w"
      refine ite_ndec (fun h => absurd rfl h) (fun _ => ?_)
      walk_at "w"
      refine ⟨b, rfl, hz, ?_⟩
      cases e2 : numberOf b with
      | none =>
        rw [e2] at k
        walk_at "w"
        refine iteT ?_
        walk_at "w"
        rw [R.nws Str.empty b]
        exact fun d hd => fin_err k W rfl hd rfl
      | some x =>
        rw [e2] at k
        dsimp only at k
        walk_at "w"
        refine iteF ?_
        walk_at "w"
        refine ite_b (fun h1 => ?_) (fun h1 => ?_)
        · rw [if_pos h1] at k
          walk_at "w"
          refine c_numFor W k fun y H1 W k => ?_
          walk_at "w"
          refine ⟨by show 2 ≤ sizeLine; decide, fun q hq => ?_⟩
          walk_at "w"
          refine c_lay1 (xs := [y, x]) W k (by show 2 ≤ 10; decide) hq fun H1 _ W k => ?_
          exact k _ W
        · rw [if_neg (by rw [h1]; decide)] at k
          walk_at "w"
          refine c_need W k fun H1 W _ _ k => ?_
          obtain ⟨hp, k⟩ := Ends.push1 k
          walk_at "w"
          refine w_push W hp fun H2 W => ?_
          exact k _ W
    · rw [en] at k
      dsimp only at k
      walk_at "w"
      refine ite_ndec (fun _ => ?_) (fun h => nomatch h)
      walk_at "w"
      refine ite_b (fun h1 => ?_) (fun h1 => ?_)
      · walk_at "w"
        cases h2 : e.now with
        | false =>
          rw [if_pos ⟨h1, h2⟩] at k
          refine iteT ?_
          walk_at "w"
          refine ⟨by show 1 ≤ sizeLine; decide, fun q hq => ?_⟩
          walk_at "w"
          refine c_lay1 (xs := [e.num]) W k (by show 1 ≤ 10; decide) hq fun H1 _ W k => ?_
          walk_at "w"
          exact k _ W
        | true =>
          rw [if_neg (fun h => by rw [h2] at h; cases h.2)] at k
          refine iteF ?_
          walk_at "w"
          refine ⟨p, S, _, L, H0, b1, e, rfl, W1, List.mem_cons_self, he, k.more.imp fun _ S2 _ q H2 W2 => ?_⟩
          walk_at "w"
          exact q _ W2.less
      · rw [if_neg (fun h => by rw [h1] at h; cases h.1)] at k
        refine iteF ?_
        walk_at "w"
        refine ⟨p, S, _, L, H0, b1, e, rfl, W1, List.mem_cons_self, he, k.more.imp fun _ S2 _ q H2 W2 => ?_⟩
        walk_at "w"
        exact q _ W2.less
end
end WH
set_option Elab.async false
set_option linter.all false
set_option maxRecDepth 100000
set_option maxHeartbeats 2000000
namespace WH
open PySem PySem.Spec PyProof.Rows L2
def tTryQ (tb tf : TS) : TS := fun D σ H => tb { nx := fun σ1 H1 => tf D σ1 H1, rt := fun _ _ => False } σ H
section
variable {X : Cx} {body : List Stmt} {h₀ : ExceptHandler} {hds : List ExceptHandler} {f₀ : Stmt} {fs : List Stmt} {pos : Pos} {tb tf : TS} {tb' : List (Addr × Obj) → (Value → Shared → Prop) → TS}
/-- try: body except ..: .. finally: suite, where the body raises nothing -/
theorem ps_tryQ0 (hb : ∀ (pn : List (Addr × Obj)) (xe : Value → Shared → Prop), L2N.Takes (X.tr pn xe) (fun _ _ _ _ => False) → PassesOwn (model X.prog X.w) X.A X.env xe → PSs (X.tr pn xe) body tb)
    (hf : PSs X.nox (f₀ :: fs) tf) : PS X (.Try body (h₀ :: hds) [] (f₀ :: fs) pos) (tTryQ tb tf) := by
  refine ⟨fun pins s σ H D I h => ?_⟩
  have ok := I.ok
  have h : tb { nx := fun σ1 H1 => tf D σ1 H1, rt := fun _ _ => False } σ H := h
  refine wpAny_Try_except_finally ?_
  refine wpAny_mono ((hb (X.pn ++ pins) (fun e s₁ => wpAny (model X.prog X.w) X.A (noteFrame e X.env) (fun _ s₂ => wpAny (model X.prog X.w) X.A (setFlight e none) (fun _ s₂' => wpAny (model X.prog X.w) X.A (handleBy e X.env (h₀ :: hds))
    (fun f' s₃ => wpAny (model X.prog X.w) X.A (execs (f₀ :: fs) X.env) (fun g s' => match g with | .next => SP X pins D f' s' | g => SP X pins D g s') (notedBy (model X.prog X.w) X.A X.env (cameBackBy (model X.prog X.w) X.A X.env X.xe)) s₃)
    (FinallyRaised X.prog X.w X.A X.xe X.env (f₀ :: fs) (SP X pins D)) s₂') (FinallyRaised X.prog X.w X.A X.xe X.env (f₀ :: fs) (SP X pins D)) s₂) (FinallyRaised X.prog X.w X.A X.xe X.env (f₀ :: fs) (SP X pins D)) s₁)
    (fun u s' xx => ?_) PassesOwn.looking).run [] s σ H _ (I.toTry _) h) (fun f s1 hsp => ?_) (fun e s1 he => he)
  · obtain ⟨a, B, sI, pins', σ', H', cls, d, _, _, _, _, _, _, _, _, w⟩ := xx
    exact w.elim
  · cases f with
    | next =>
      obtain ⟨σ', H', J', q⟩ := hsp
      refine wpAny_execs_nil (wpAny_mono (hf.run pins s1 σ' H' D ((J'.ofTry ok).wish _) q) (fun g s2 q2 => ?_) fun _ _ z => False.elim z)
      have q' : SP X pins D g s2 := q2.unwish
      cases g <;> exact q'
    | brk =>
      obtain ⟨_, _, _, q⟩ := hsp
      exact False.elim q
    | cont =>
      obtain ⟨_, _, _, q⟩ := hsp
      exact False.elim q
    | ret u =>
      obtain ⟨_, _, _, _, _, q⟩ := hsp
      exact False.elim q
theorem ps_tryQ (hb : ∀ (pn : List (Addr × Obj)) (xe : Value → Shared → Prop), L2N.Takes (X.tr pn xe) (fun _ _ _ _ => False) → PassesOwn (model X.prog X.w) X.A X.env xe → PSs (X.tr pn xe) body (tb' pn xe))
    (hf : PSs X.nox (f₀ :: fs) tf) (he : ∀ pn xe, tb' pn xe = tb := by intro pn xe; first | dsimp only [Cx.tr, cxOf] | rfl) : PS X (.Try body (h₀ :: hds) [] (f₀ :: fs) pos) (tTryQ tb tf) :=
  ps_tryQ0 (fun pn xe tk hp => by
    rw [← he pn xe]
    exact hb pn xe tk hp) hf
theorem w_tryQ {D : L2.Ends} {σ : L2.St} {H : Hp} (q : tb { nx := fun σ1 H1 => tf D σ1 H1, rt := fun _ _ => False } σ H) : tTryQ tb tf D σ H := q
theorem w_tYes {σ : L2.St} {H : Hp} {R : Bool → Hp → Prop} (q : R true H) : tYes σ H R := q
end
end WH
set_option Elab.async false
set_option linter.all false
set_option maxRecDepth 100000
set_option maxHeartbeats 2000000
namespace WH
open PySem PySem.Spec PyProof.Rows L2
section
variable {c : Cn} {p l : Addr} {S : MS} {U : List Seen} {L : Ls} {H0 H : Hp} {K : PySem.W.Frag} {G : Gh} {h : Hp} {xs : List Int} {ys : List Str} {o u : HO}
/-- an object of the frame is changed -/
theorem Sep.setF {hs : Hp} {a : Addr} (s : Sep H0 hs H) (h : H0 a = some o) : Sep (upd H0 a u) hs (upd H a u) := by
  have n := s.not' h
  refine ⟨fun b => ?_, fun b v q => ?_, fun b v q => ?_⟩
  · by_cases e : b = a
    · rw [e]
      exact .inr n
    · rw [upd_ne e]
      exact s.dj b
  · by_cases e : b = a
    · rw [e, upd_same] at q
      rw [e, upd_same]
      exact q
    · rw [upd_ne e] at q
      rw [upd_ne e]
      exact s.fr b v q
  · rw [upd_ne (ne_of_none q n)]
    exact s.own b v q
theorem HOwn.setF {a : Addr} (W : HOwn c p S U L H0 H) (h : H0 a = some o) : HOwn c p S U L (upd H0 a u) (upd H a u) := by
  obtain ⟨hs, G, s, P, e⟩ := W
  exact ⟨hs, G, s.setF h, P, e⟩
/-- what the frame had becomes the house's own -/
theorem Sep.take {hs : Hp} {a : Addr} (s : Sep (upd H0 a o) hs H) (h : H0 a = none) : Sep H0 (upd hs a o) H := by
  have n := s.not' (upd_same (H := H0) (a := a) (o := o))
  refine ⟨fun b => ?_, fun b v q => ?_, fun b v q => ?_⟩
  · by_cases e : b = a
    · rw [e]
      exact .inl h
    · rcases s.dj b with z | z
      · rw [upd_ne e] at z
        exact .inl z
      · rw [upd_ne e]
        exact .inr z
  · exact s.fr b v (by rw [upd_ne (ne_of_none q h)]; exact q)
  · by_cases e : b = a
    · rw [e, upd_same] at q
      rw [e]
      cases q
      exact s.fr a o upd_same
    · rw [upd_ne e] at q
      exact s.own b v q
theorem HouseP.cells_new (P : HouseP c p S U G h) (hl : h l = none) : HouseP c p { S with cells := xs } U { G with L := { G.L with lc := l } } (upd (upd h l (.lst (iv xs))) p (.ins c.CH G.dx (hF { S with cells := xs } { G with L := { G.L with lc := l } }))) := by
  have P1 := P.beside (o := .lst (iv xs)) hl
  have nl : ∀ {a : Addr} {ys' : List V}, upd h l (.lst (iv xs)) a = some (.lst ys') → upd (upd h l (.lst (iv xs))) p (.ins c.CH G.dx (hF { S with cells := xs } { G with L := { G.L with lc := l } })) a = some (.lst ys') := fun q => by
    rw [upd_ne (ne_of q P1.ob fun z => ins_lst z.symm)]
    exact q
  have fr : ∀ {a : Addr} {ys' : List V}, h a = some (.lst ys') → l ≠ a := fun q z => by
    rw [z, q] at hl
    cases hl
  obtain ⟨ts, t1, t2⟩ := P.ties
  have nn := ne7 P.ne
  exact {
    ob := upd_same
    cells := nl upd_same
    stack := nl P1.stack
    back := nl P1.back
    told := nl P1.told
    words := nl P1.words
    ties := by
      obtain ⟨ts, h1, h2⟩ := P1.ties
      exact ⟨ts, nl h1, ties_put P1.ob ins_tup h2⟩
    op := opV_put P1.ob ins_tup P1.op
    book := nl P1.book
    ents := ents_put P1.ob (insH_insE c) P1.ents
    nd := P.nd
    ne := by
      have h1 := P.ne
      simp only [List.nodup_cons, List.mem_cons, not_or, List.not_mem_nil, not_false_eq_true, and_true, List.nodup_nil] at h1 ⊢
      have a1 := fr P.cells
      have a2 := fr P.stack
      have a3 := fr P.back
      have a4 := fr P.told
      have a5 := fr P.words
      have a6 := fr t1
      have a7 := fr P.book
      simp_all [Ne.symm]
      try (repeat' constructor) <;> (intro z; simp_all)
    un := un_put P1.ob (insH_insE c) ins_tup P1.un }
theorem w_st_cells {R : Hp → Prop} (W : HOwn c p S U L (upd H0 l (.lst (iv xs))) H) (h0 : H0 l = none) (T : HCls K c) (q : ∀ H1, HOwn c p { S with cells := xs } U { L with lc := l } H0 H1 → R H1) : rSfld K "cells" (.ref l) (.ref p) H R := by
  obtain ⟨hs, G, s, P, e⟩ := W
  subst e
  have hl := s.not' (upd_same (H := H0) (a := l) (o := .lst (iv xs)))
  refine ⟨p, c.CH, G.dx, hF S G, rfl, s.own _ _ P.ob, T.cH, T.nH _ (by decide +kernel), hF_len, q _ ?_⟩
  rw [hP_cells]
  have s1 := s.take h0
  have hp : upd hs l (.lst (iv xs)) p = some (.ins c.CH G.dx (hF S G)) := same_new hl _ _ P.ob
  exact ⟨_, { G with L := { G.L with lc := l } }, s1.put hp, P.cells_new hl, rfl⟩
theorem HouseP.stack_new (P : HouseP c p S U G h) (hl : h l = none) : HouseP c p { S with stack := xs } U { G with L := { G.L with ls := l } } (upd (upd h l (.lst (iv xs))) p (.ins c.CH G.dx (hF { S with stack := xs } { G with L := { G.L with ls := l } }))) := by
  have P1 := P.beside (o := .lst (iv xs)) hl
  have nl : ∀ {a : Addr} {ys' : List V}, upd h l (.lst (iv xs)) a = some (.lst ys') → upd (upd h l (.lst (iv xs))) p (.ins c.CH G.dx (hF { S with stack := xs } { G with L := { G.L with ls := l } })) a = some (.lst ys') := fun q => by
    rw [upd_ne (ne_of q P1.ob fun z => ins_lst z.symm)]
    exact q
  have fr : ∀ {a : Addr} {ys' : List V}, h a = some (.lst ys') → l ≠ a := fun q z => by
    rw [z, q] at hl
    cases hl
  obtain ⟨ts, t1, t2⟩ := P.ties
  have nn := ne7 P.ne
  exact {
    ob := upd_same
    cells := nl P1.cells
    stack := nl upd_same
    back := nl P1.back
    told := nl P1.told
    words := nl P1.words
    ties := by
      obtain ⟨ts, h1, h2⟩ := P1.ties
      exact ⟨ts, nl h1, ties_put P1.ob ins_tup h2⟩
    op := opV_put P1.ob ins_tup P1.op
    book := nl P1.book
    ents := ents_put P1.ob (insH_insE c) P1.ents
    nd := P.nd
    ne := by
      have h1 := P.ne
      simp only [List.nodup_cons, List.mem_cons, not_or, List.not_mem_nil, not_false_eq_true, and_true, List.nodup_nil] at h1 ⊢
      have a1 := fr P.cells
      have a2 := fr P.stack
      have a3 := fr P.back
      have a4 := fr P.told
      have a5 := fr P.words
      have a6 := fr t1
      have a7 := fr P.book
      simp_all [Ne.symm]
      try (repeat' constructor) <;> (intro z; simp_all)
    un := un_put P1.ob (insH_insE c) ins_tup P1.un }
theorem w_st_stack {R : Hp → Prop} (W : HOwn c p S U L (upd H0 l (.lst (iv xs))) H) (h0 : H0 l = none) (T : HCls K c) (q : ∀ H1, HOwn c p { S with stack := xs } U { L with ls := l } H0 H1 → R H1) : rSfld K "stack" (.ref l) (.ref p) H R := by
  obtain ⟨hs, G, s, P, e⟩ := W
  subst e
  have hl := s.not' (upd_same (H := H0) (a := l) (o := .lst (iv xs)))
  refine ⟨p, c.CH, G.dx, hF S G, rfl, s.own _ _ P.ob, T.cH, T.nH _ (by decide +kernel), hF_len, q _ ?_⟩
  rw [hP_stack]
  have s1 := s.take h0
  have hp : upd hs l (.lst (iv xs)) p = some (.ins c.CH G.dx (hF S G)) := same_new hl _ _ P.ob
  exact ⟨_, { G with L := { G.L with ls := l } }, s1.put hp, P.stack_new hl, rfl⟩
theorem HouseP.told_new (P : HouseP c p S U G h) (hl : h l = none) : HouseP c p { S with told := xs } U { G with L := { G.L with lt := l } } (upd (upd h l (.lst (iv xs))) p (.ins c.CH G.dx (hF { S with told := xs } { G with L := { G.L with lt := l } }))) := by
  have P1 := P.beside (o := .lst (iv xs)) hl
  have nl : ∀ {a : Addr} {ys' : List V}, upd h l (.lst (iv xs)) a = some (.lst ys') → upd (upd h l (.lst (iv xs))) p (.ins c.CH G.dx (hF { S with told := xs } { G with L := { G.L with lt := l } })) a = some (.lst ys') := fun q => by
    rw [upd_ne (ne_of q P1.ob fun z => ins_lst z.symm)]
    exact q
  have fr : ∀ {a : Addr} {ys' : List V}, h a = some (.lst ys') → l ≠ a := fun q z => by
    rw [z, q] at hl
    cases hl
  obtain ⟨ts, t1, t2⟩ := P.ties
  have nn := ne7 P.ne
  exact {
    ob := upd_same
    cells := nl P1.cells
    stack := nl P1.stack
    back := nl P1.back
    told := nl upd_same
    words := nl P1.words
    ties := by
      obtain ⟨ts, h1, h2⟩ := P1.ties
      exact ⟨ts, nl h1, ties_put P1.ob ins_tup h2⟩
    op := opV_put P1.ob ins_tup P1.op
    book := nl P1.book
    ents := ents_put P1.ob (insH_insE c) P1.ents
    nd := P.nd
    ne := by
      have h1 := P.ne
      simp only [List.nodup_cons, List.mem_cons, not_or, List.not_mem_nil, not_false_eq_true, and_true, List.nodup_nil] at h1 ⊢
      have a1 := fr P.cells
      have a2 := fr P.stack
      have a3 := fr P.back
      have a4 := fr P.told
      have a5 := fr P.words
      have a6 := fr t1
      have a7 := fr P.book
      simp_all [Ne.symm]
      try (repeat' constructor) <;> (intro z; simp_all)
    un := un_put P1.ob (insH_insE c) ins_tup P1.un }
theorem w_st_told {R : Hp → Prop} (W : HOwn c p S U L (upd H0 l (.lst (iv xs))) H) (h0 : H0 l = none) (T : HCls K c) (q : ∀ H1, HOwn c p { S with told := xs } U { L with lt := l } H0 H1 → R H1) : rSfld K "told" (.ref l) (.ref p) H R := by
  obtain ⟨hs, G, s, P, e⟩ := W
  subst e
  have hl := s.not' (upd_same (H := H0) (a := l) (o := .lst (iv xs)))
  refine ⟨p, c.CH, G.dx, hF S G, rfl, s.own _ _ P.ob, T.cH, T.nH _ (by decide +kernel), hF_len, q _ ?_⟩
  rw [hP_told]
  have s1 := s.take h0
  have hp : upd hs l (.lst (iv xs)) p = some (.ins c.CH G.dx (hF S G)) := same_new hl _ _ P.ob
  exact ⟨_, { G with L := { G.L with lt := l } }, s1.put hp, P.told_new hl, rfl⟩
theorem HouseP.words_new (P : HouseP c p S U G h) (hl : h l = none) : HouseP c p { S with words := ys } U { G with L := { G.L with lw := l } } (upd (upd h l (.lst (ys.map V.str))) p (.ins c.CH G.dx (hF { S with words := ys } { G with L := { G.L with lw := l } }))) := by
  have P1 := P.beside (o := .lst (ys.map V.str)) hl
  have nl : ∀ {a : Addr} {ys' : List V}, upd h l (.lst (ys.map V.str)) a = some (.lst ys') → upd (upd h l (.lst (ys.map V.str))) p (.ins c.CH G.dx (hF { S with words := ys } { G with L := { G.L with lw := l } })) a = some (.lst ys') := fun q => by
    rw [upd_ne (ne_of q P1.ob fun z => ins_lst z.symm)]
    exact q
  have fr : ∀ {a : Addr} {ys' : List V}, h a = some (.lst ys') → l ≠ a := fun q z => by
    rw [z, q] at hl
    cases hl
  obtain ⟨ts, t1, t2⟩ := P.ties
  have nn := ne7 P.ne
  exact {
    ob := upd_same
    cells := nl P1.cells
    stack := nl P1.stack
    back := nl P1.back
    told := nl P1.told
    words := nl upd_same
    ties := by
      obtain ⟨ts, h1, h2⟩ := P1.ties
      exact ⟨ts, nl h1, ties_put P1.ob ins_tup h2⟩
    op := opV_put P1.ob ins_tup P1.op
    book := nl P1.book
    ents := ents_put P1.ob (insH_insE c) P1.ents
    nd := P.nd
    ne := by
      have h1 := P.ne
      simp only [List.nodup_cons, List.mem_cons, not_or, List.not_mem_nil, not_false_eq_true, and_true, List.nodup_nil] at h1 ⊢
      have a1 := fr P.cells
      have a2 := fr P.stack
      have a3 := fr P.back
      have a4 := fr P.told
      have a5 := fr P.words
      have a6 := fr t1
      have a7 := fr P.book
      simp_all [Ne.symm]
      try (repeat' constructor) <;> (intro z; simp_all)
    un := un_put P1.ob (insH_insE c) ins_tup P1.un }
theorem w_st_words {R : Hp → Prop} (W : HOwn c p S U L (upd H0 l (.lst (ys.map V.str))) H) (h0 : H0 l = none) (T : HCls K c) (q : ∀ H1, HOwn c p { S with words := ys } U { L with lw := l } H0 H1 → R H1) : rSfld K "words" (.ref l) (.ref p) H R := by
  obtain ⟨hs, G, s, P, e⟩ := W
  subst e
  have hl := s.not' (upd_same (H := H0) (a := l) (o := .lst (ys.map V.str)))
  refine ⟨p, c.CH, G.dx, hF S G, rfl, s.own _ _ P.ob, T.cH, T.nH _ (by decide +kernel), hF_len, q _ ?_⟩
  rw [hP_words]
  have s1 := s.take h0
  have hp : upd hs l (.lst (ys.map V.str)) p = some (.ins c.CH G.dx (hF S G)) := same_new hl _ _ P.ob
  exact ⟨_, { G with L := { G.L with lw := l } }, s1.put hp, P.words_new hl, rfl⟩
end
end WH
set_option Elab.async false
set_option linter.all false
set_option maxRecDepth 100000
set_option maxHeartbeats 2000000
namespace WH
open PySem PySem.Spec PyProof.Rows L2
local macro_rules | `(tactic| walk_at "w") => `(tactic| repeat (with_reducible first
  | (refine is_te ?_; first | refine w_var (by with_unfolding_all rfl) ?_ | refine w_c ?_ | refine w_op ?_ | refine w_cb ?_ | refine w_call ?_ | refine w_self (by assumption) (by with_unfolding_all rfl) (by decide +kernel) ?_ | refine w_ife ?_ | (refine is_fld ?_; first | refine w_cells (by assumption) (by assumption) (by with_unfolding_all rfl) ?_ | refine w_stack (by assumption) (by assumption) (by with_unfolding_all rfl) ?_ | refine w_back (by assumption) (by assumption) (by with_unfolding_all rfl) ?_ | refine w_most_cells (by assumption) (by assumption) (by with_unfolding_all rfl) ?_ | refine w_most_stack (by assumption) (by assumption) (by with_unfolding_all rfl) ?_ | refine w_book (by assumption) (by assumption) (by with_unfolding_all rfl) ?_ | refine w_spot (by assumption) (by assumption) (by with_unfolding_all rfl) ?_ | refine w_left (by assumption) (by assumption) (by with_unfolding_all rfl) ?_ | refine w_at (by assumption) (by assumption) (by with_unfolding_all rfl) ?_ | refine w_told (by assumption) (by assumption) (by with_unfolding_all rfl) ?_ | refine w_words (by assumption) (by assumption) (by with_unfolding_all rfl) ?_ | refine w_mode (by assumption) (by assumption) (by with_unfolding_all rfl) ?_ | refine w_ties (by assumption) (by assumption) (by with_unfolding_all rfl) ?_ | refine w_many_deeds (by assumption) (by assumption) (by with_unfolding_all rfl) ?_ | refine w_steps (by assumption) (by assumption) (by with_unfolding_all rfl) ?_ | refine w_fld ?_) | refine w_lst ?_ | refine w_tup ?_ | refine w_bm ?_ | refine w_bm0 ?_ | refine w_un ?_ | refine w_sl ?_ | refine w_chain ?_)
  | (refine is_ta ?_; first | refine w_cons ?_ | refine w_nil ?_)
  | refine w_gn ?_
  | (refine is_ts ?_; first | refine w_seq ?_ | refine w_asg ?_ | refine w_ifs ?_ | refine w_drop ?_ | refine w_next ?_ | refine w_ret ?_ | refine w_retN ?_ | refine w_sfld ?_ | refine w_augS ?_ | refine w_aug_spot (by assumption) (by assumption) (by with_unfolding_all rfl) ?_ | refine w_aug_left (by assumption) (by assumption) (by with_unfolding_all rfl) ?_ | refine w_aug_at (by assumption) (by assumption) (by with_unfolding_all rfl) ?_)
  | (refine is_tt ?_; first | refine w_test ?_ | refine w_and ?_ | refine w_or ?_ | refine w_not ?_ | refine w_tB ?_)
  | (refine is_r2 ?_; first | refine w_i0 ?_ | refine w_eqt ?_ | refine w_eqi ?_ | refine w_net ?_ | refine w_nei ?_ | refine w_isN ?_ | refine w_notN ?_ | refine w_rAdd ?_ | refine w_rSub ?_ | refine w_ipI ?_)
  | (refine is_ty ?_; first | refine w_tyS' (by assumption) ?_ | refine w_tyC (by assumption) ?_ | refine w_tyB (by assumption) ?_ | refine w_tyT (by assumption) ?_ | refine w_tyK (by assumption) ?_ | refine w_tyI (by assumption) ?_)
  | (refine is_ln ?_; first | refine w_lnS (by assumption) ?_ | refine w_lnC (by assumption) ?_ | refine w_lnB (by assumption) ?_ | refine w_lnT (by assumption) ?_ | refine w_lnW (by assumption) ?_ | refine w_lnK (by assumption) ?_)
  | (refine is_rf ?_; first | refine e_kind (by assumption) (by assumption) ?_ | refine e_name (by assumption) (by assumption) ?_ | refine e_number (by assumption) (by assumption) ?_ | refine e_start (by assumption) (by assumption) ?_ | refine e_end (by assumption) (by assumption) ?_ | refine e_was (by assumption) (by assumption) ?_ | refine e_worth (by assumption) (by assumption) ?_ | refine e_beyond (by assumption) (by assumption) ?_ | refine e_is_now (by assumption) (by assumption) ?_)
  | refine w_bl ?_ | refine w_mkw ?_ | refine w_mknw ?_ | refine w_part1 ?_ | refine w_neg ?_ | refine w_smk ?_ | refine w_smkn ?_ | refine w_noP ?_ | refine w_part ?_ | refine w_gcut ?_ | refine w_gsub ?_))

def wordsFromG (go : Ent → M Unit) : Nat → M Unit
  | 0 => stuck
  | f + 1 => fun s => if s.at_ < (s.words.length : Int) then (do
    must fun s => decide (0 ≤ s.at_)
    oneWordG go (s.words.getD s.at_.toNat Str.empty)
    modify' fun s => { s with at_ := s.at_ + 1, back := [] }
    wordsFromG go f : M Unit) s else .ok () s
theorem wordsFromG_eq (n : Nat) : ∀ f, wordsFromG (goInto n) f = wordsFrom n f
  | 0 => rfl
  | f + 1 => by
    unfold wordsFromG wordsFrom
    simp only [wordsFromG_eq n f, oneWordG_eq]
section
variable {P : Program} {w : World} {K : PySem.W.Frag} {mg : Str → Option Value} {base : Heap} {c : Cn} {cls : Err → Addr}
theorem HOwn.shrinkS {p l : Addr} {S : MS} {U : List Seen} {L : Ls} {H0 H : Hp} {u : HO} (W : HOwn c p S U L (upd H0 l u) H) (h : H0 l = none) : HOwn c p S U L H0 H := W.shrink h
def EndsQ {α : Type} (c : Cn) (cls : Err → Addr) (p : Addr) (U : List Seen) (L : Ls) (H0 : Hp) (post : α → MS → Prop) (o : Out α) : Prop := WH.Ends c cls p U L H0 post (fun _ _ _ => False) o
theorem w_words' {z : Str} {H : Hp} {Q : VK} (hz : z.length + 2 ≤ sizeLine) (q : ∀ l, H l = none → Q (.ref l) (upd H l (.lst ((Txt.words z).map V.str)))) : rWords (.str z) [] H Q := ⟨z, rfl, rfl, hz, q⟩
theorem wordAt {p : Addr} {S : MS} {U : List Seen} {L : Ls} {H0 H : Hp} {Q : VK} (W : HOwn c p S U L H0 H) (h0 : 0 ≤ S.at_) (h : S.at_ < (S.words.length : Int)) (q : Q (.str (S.words.getD S.at_.toNat Str.empty)) H) : rIxL K (.ref L.lw) (.int S.at_) H Q := by
  have h3 : S.at_.toNat < S.words.length := by omega
  have h4 : (S.words.map V.str)[S.at_.toNat]? = some (.str (S.words.getD S.at_.toNat Str.empty)) := by
    rw [List.getElem?_map, List.getElem?_eq_getElem h3, List.getD_eq_getElem?_getD, List.getElem?_eq_getElem h3]
    rfl
  have h5 := atI_nat h4
  rw [Int.toNat_of_nonneg h0] at h5
  exact w_ixL W.words h5 q
end
end WH
set_option Elab.async false
set_option linter.all false
set_option maxRecDepth 100000
set_option maxHeartbeats 4000000
namespace WH
open PySem PySem.Spec PyProof.Rows L2 L2H HotX
/-! ### lists and tuples walked while an exception is handled -/
theorem hotTo {A : Around} {x : Addr} {h h' : Heap} (t : HotAt A x h) (k : ∀ o, h.get? x = some o → h'.get? x = some o) : HotAt A x h' := by
  obtain ⟨a, o, vs, e, r⟩ := t
  exact ⟨a, o, vs, k o e, r⟩
section
variable {prog : Program} {w : World} {A : Around} {E : Value → Shared → Prop} {s : Shared}
/-- the end of a walk over a list: StopIteration is made, its context the handled one -/
theorem list_end_hot {it l x1 : Addr} {i : Nat} {items : Array Value} {Q : Option Value → Shared → Prop} (hot : HotAt A x1 s.heap) (hit : s.heap.IsListIter it l i) (hl : s.heap.IsList l items) (hx : items[i]? = none)
    (hQ : ∀ h', Heap.ExtBut it s.heap h' → Q none { s with heap := h' }) : wpAny (model prog w) A (pyNext (.ref it)) Q E s := by
  obtain ⟨hh, o1, vs1, g1, d1, c1⟩ := hot
  obtain ⟨o, ho, hc, hd⟩ := id hit
  obtain ⟨ol, hol, _, nl, hdl⟩ := hl
  have ne : it ≠ x1 := fun e => by
    rw [← e, ho] at g1
    obtain rfl := Option.some.inj g1
    rw [hd] at d1
    cases d1
    have := (Array.getElem?_eq_some_iff.mp c1).1
    simp at this
  unfold pyNext
  refine wpAny_bind (wpAny_attempt (wpAny_callSpecial?_slot (name := Str.ofString "__next__") hit.typeIs slot_listiter_next (wpAny_call_entry slot_listiter_next hit.typeIs entry_listiter_next ?_ (args_listiter_next _))))
  show wpAny _ _ (field (.ref it) 0 >>= _) _ _ s
  refine wpAny_bind (wpAny_field ho hd (x := .ref l) rfl ?_)
  show wpAny _ _ (if (Value.ref l == Value.none) = true then _ else _) _ _ s
  rw [if_neg (show ¬ ((Value.ref l == Value.none) = true) from Bool.false_ne_true)]
  show wpAny _ _ (field (.ref it) 1 >>= _) _ _ s
  refine wpAny_bind (wpAny_field ho hd (x := .int i 0) rfl ?_)
  show wpAny _ _ (seqItems? (.ref l) >>= _) _ _ s
  refine wpAny_bind (wpAny_seqItems hol hdl ?_)
  simp only [Int.toNat_natCast, hx]
  refine wpAny_bind (wpAny_rule (wpAny_bind (wpAny_setField ho hd (by simp) ?_)))
  show wpAny _ _ (newExc (.type "StopIteration") [] >>= _) _ _ _
  refine wpAny_bind ?_
  simp only [newExc, newTuple]
  refine wpAny_bind (wpAny_newObj_type ?_ (by size_fits))
  refine wpAny_bind (m := firstArgMember _ _) (wpAny_of_eq (a := Value.none) (by first | rfl | (simp only [firstArgMember]; rfl)) ?_)
  refine wpAny_newObj_type ?_ (by size_fits)
  have g2 := (Heap.get?_update_other s.heap (Obj.mapFields (·.setIfInBounds 0 Value.none)) ne).trans g1
  refine raiseNew_hot ⟨hh, o1, vs1, Heap.get?_push_of_some _ (Heap.get?_push_of_some _ g2), d1, c1⟩ (Nat.ne_of_lt (Heap.lt_size (Heap.get?_push_of_some _ g2))) (Heap.get?_push_size _ rfl) rfl (by first | (simp; done) | (simp; omega) | (simp only [Array.size_append]; simp; omega)) ?_
  refine wpAny_bind (wpAny_isInstance (T := "StopIteration") (b := true) ⟨_, Heap.get?_update_self _ (Heap.get?_push_size _ rfl) rfl, rfl⟩ isSubtype_stop ?_)
  refine wpAny_pure (hQ _ fun b u hb e => ?_)
  have e1 := (Heap.get?_update_other s.heap (Obj.mapFields (·.setIfInBounds 0 Value.none)) hb.symm).trans e
  rw [Heap.get?_update_other _ _ (Nat.ne_of_gt (Heap.lt_size (Heap.get?_push_of_some _ e1)))]
  exact Heap.get?_push_of_some _ (Heap.get?_push_of_some _ e1)
/-- the end of a walk over a tuple: StopIteration is made, its context the handled one -/
theorem tuple_end_hot {it l x1 : Addr} {i : Nat} {items : Array Value} {Q : Option Value → Shared → Prop} (hot : HotAt A x1 s.heap) (hit : s.heap.IsTupleIter it l i) (hl : s.heap.IsTuple l items) (hx : items[i]? = none)
    (hQ : ∀ h', Heap.ExtBut it s.heap h' → Q none { s with heap := h' }) : wpAny (model prog w) A (pyNext (.ref it)) Q E s := by
  obtain ⟨hh, o1, vs1, g1, d1, c1⟩ := hot
  obtain ⟨o, ho, hc, hd⟩ := id hit
  obtain ⟨ol, hol, _, nl, hdl⟩ := hl
  have ne : it ≠ x1 := fun e => by
    rw [← e, ho] at g1
    obtain rfl := Option.some.inj g1
    rw [hd] at d1
    cases d1
    have := (Array.getElem?_eq_some_iff.mp c1).1
    simp at this
  unfold pyNext
  refine wpAny_bind (wpAny_attempt (wpAny_callSpecial?_slot (name := Str.ofString "__next__") hit.typeIs F.slot_tuple_iterator_next (wpAny_call_entry F.slot_tuple_iterator_next hit.typeIs F.entry_tuple_iterator_next ?_ (F.args_tuple_iterator_next_1 _))))
  show wpAny _ _ (field (.ref it) 0 >>= _) _ _ s
  refine wpAny_bind (wpAny_field ho hd (x := .ref l) rfl ?_)
  show wpAny _ _ (if (Value.ref l == Value.none) = true then _ else _) _ _ s
  rw [if_neg (show ¬ ((Value.ref l == Value.none) = true) from Bool.false_ne_true)]
  show wpAny _ _ (field (.ref it) 1 >>= _) _ _ s
  refine wpAny_bind (wpAny_field ho hd (x := .int i 0) rfl ?_)
  show wpAny _ _ (seqItems? (.ref l) >>= _) _ _ s
  refine wpAny_bind (wpAny_seqItems hol hdl ?_)
  simp only [Int.toNat_natCast, hx]
  refine wpAny_bind (wpAny_rule (wpAny_bind (wpAny_setField ho hd (by simp) ?_)))
  show wpAny _ _ (newExc (.type "StopIteration") [] >>= _) _ _ _
  refine wpAny_bind ?_
  simp only [newExc, newTuple]
  refine wpAny_bind (wpAny_newObj_type ?_ (by size_fits))
  refine wpAny_bind (m := firstArgMember _ _) (wpAny_of_eq (a := Value.none) (by first | rfl | (simp only [firstArgMember]; rfl)) ?_)
  refine wpAny_newObj_type ?_ (by size_fits)
  have g2 := (Heap.get?_update_other s.heap (Obj.mapFields (·.setIfInBounds 0 Value.none)) ne).trans g1
  refine raiseNew_hot ⟨hh, o1, vs1, Heap.get?_push_of_some _ (Heap.get?_push_of_some _ g2), d1, c1⟩ (Nat.ne_of_lt (Heap.lt_size (Heap.get?_push_of_some _ g2))) (Heap.get?_push_size _ rfl) rfl (by first | (simp; done) | (simp; omega) | (simp only [Array.size_append]; simp; omega)) ?_
  refine wpAny_bind (wpAny_isInstance (T := "StopIteration") (b := true) ⟨_, Heap.get?_update_self _ (Heap.get?_push_size _ rfl) rfl, rfl⟩ isSubtype_stop ?_)
  refine wpAny_pure (hQ _ fun b u hb e => ?_)
  have e1 := (Heap.get?_update_other s.heap (Obj.mapFields (·.setIfInBounds 0 Value.none)) hb.symm).trans e
  rw [Heap.get?_update_other _ _ (Nat.ne_of_gt (Heap.lt_size (Heap.get?_push_of_some _ e1)))]
  exact Heap.get?_push_of_some _ (Heap.get?_push_of_some _ e1)
/-- a tuple is taken apart there -/
theorem unpack_hot {t x1 : Addr} {items : Array Value} {Q : List Value → Shared → Prop} (hot : HotAt A x1 s.heap) (ht : s.heap.IsTuple t items)
    (hQ : ∀ h', Heap.ExtBut s.heap.objs.size s.heap h' → Q items.toList { s with heap := h' }) : wpAny (model prog w) A (unpackItems (.ref t) items.size none) Q E s := by
  have lt1 : t < s.heap.objs.size := by
    obtain ⟨o, ho, _⟩ := ht
    exact Heap.lt_size ho
  have lt2 : x1 < s.heap.objs.size := by
    obtain ⟨_, o, _, ho, _⟩ := hot
    exact Heap.lt_size ho
  unfold unpackItems
  refine wpAny_bind ?_
  unfold notIterableAtAll
  refine wpAny_bind (wpAny_specialOf ht.typeIs F.slot_tuple_iter.lookup (wpAny_pure ?_))
  simp only [Bool.false_eq_true, if_false]
  refine wpAny_bind (wpAny_holding (wpAny_pyIter_tuple ht ?_))
  refine wpAny_bind (wpAny_holding (wpAny_draw_tuple (Nat.ne_of_lt lt1) items.size 0 _ _ ⟨_, Heap.get?_push_size _ rfl, rfl, rfl⟩ (ht.push _) (by omega) fun h1 it1 sb1 => ?_))
  have all : List.take items.size (List.drop 0 items.toList) = items.toList := by
    rw [List.drop_zero]
    exact List.take_of_length_le (by simp)
  rw [all, if_neg (by simp)]
  refine wpAny_bind (wpAny_holding (tuple_end_hot (x1 := x1) (hotTo hot fun o e => sb1.extBut x1 o (Nat.ne_of_lt lt2) (Heap.get?_push_of_some _ e)) it1 ((ht.push _).extBut sb1.extBut (Nat.ne_of_lt lt1)) (by simp) fun h2 e2 => ?_))
  simp only [Option.isSome_none, Bool.false_eq_true, if_false]
  exact wpAny_pure (hQ h2 fun b o hb e => e2 b o hb (sb1.extBut b o hb (Heap.get?_push_of_some _ e)))
end
section
variable {X : Cx} {pos : Pos}
/-- (a, b, ..) = a tuple -/
theorem pg_tupH {es : List Expr} {k : Nat} {t : TGs} {n : Nat} (hc : HotC X) (h : PGs X es t) (hn : (assignEach es X.env).length = n := by rfl) (hst : (assignEach es X.env).findIdx? (·.1) = none := by rfl) : PG X (.Tuple es k pos) (gTup X.K n t) := by
  refine ⟨fun pins s σ H v u Q I r hw => ?_⟩
  obtain ⟨a, xs, e1, hq, hl, hw⟩ := hw
  subst e1
  cases r
  obtain ⟨its, rv, ht, hz⟩ := I.tuple hq
  obtain ⟨x1, hot⟩ := hc.at I
  have hsz : (assignEach es X.env).length = its.toArray.size := by simp [hn, ← hl, rv.length]
  rw [PyProof.Rows.assign_Tuple]
  refine wpAny_bind (wpAny_standAt ?_)
  unfold unpack
  rw [hsz, hst]
  refine wpAny_bind (wpAny_holding (unpack_hot hot (show s.heap.IsTuple a its.toArray from ht) fun h' hx => ?_))
  have I1 : Inv X pins σ H { s with heap := h' } := I.kept (t' := s.toks) fun b o e => hx b o (Nat.ne_of_lt (Heap.lt_size e)) e
  exact h.run pins _ σ H xs _ Q I1 (by simpa using rv) hw
end
/-- a list's turns -/
theorem turn_listH {P : Program} {w : World} {K : PySem.W.Frag} {tg : Expr} (a it : Addr) : TurnH P w K tg (Itl K a) [it] it (fun i h => h.IsListIter it a i) where
  mem := List.mem_cons_self
  obj := (turn_list (P := P) (w := w) (K := K) (tg := tg) a it).obj
  keep := (turn_list (P := P) (w := w) (K := K) (tg := tg) a it).keep
  item := by
    intro X hP hw hK hc i pins s σ H E I hf st hg
    subst hP hw hK
    obtain ⟨xs, x, hq, hx⟩ := hg
    obtain ⟨its, rv, p, hz⟩ := I.list hq
    obtain ⟨u, hu, ru⟩ := rv.get hx
    obtain ⟨f0, f1, f2, f3, f4, f5⟩ := hf it List.mem_cons_self
    refine wpAny_pyNext_list_item st p.isList (x := u) (by simpa using hu) fun h' st' sb => ?_
    obtain ⟨o, e, c, d⟩ := id st'
    refine ⟨u, rfl, go_of (s := { s with heap := h' }) e c d (by decide) ⟨x, H, I.turned (t' := s.toks) (fun b o hb e => (sb.2 b hb).trans e) f0 f1 f3 f4 f5, ru, ⟨rfl, fun ys hy => ?_⟩, st', fun b hb => (hf b hb).1⟩⟩
    rw [I.list_inj hy hq]
    exact hx
  done := by
    intro X hP hw hK hc i pins s σ H E I hf st hg
    subst hP hw hK
    obtain ⟨xs, hq, hx⟩ := hg
    obtain ⟨its, rv, p, hz⟩ := I.list hq
    obtain ⟨f0, f1, f2, f3, f4, f5⟩ := hf it List.mem_cons_self
    have hl := rv.length
    obtain ⟨x1, hot⟩ := hc.at I
    exact list_end_hot hot st p.isList (by simp; omega) fun h' eb => ⟨rfl, I.turned (t' := s.toks) (fun b o hb e => eb b o hb e) f0 f1 f3 f4 f5⟩
  self := fun _ _ _ _ _ st h => wpAny_pyIter_listiter st h
theorem pi_listH {X : Cx} {tg l : Expr} {tl : TE} (hl : PE X l tl) : PIH X tg l (iList X.K tl) := by
  refine ⟨fun pins s σ H R I h => thn (hl.run pins s σ H _ I h) fun v s1 ⟨x, H1, I1, r1, a, e, ⟨xs, hq⟩, q⟩ => ?_⟩
  subst e
  cases r1
  obtain ⟨its, rv, p, hz⟩ := I1.list hq
  refine wpAny_pyIter_list p.isList ⟨s1.heap.objs.size, [s1.heap.objs.size], _, _, H1, rfl, I1.kept (t' := s1.toks) fun b o e => Heap.get?_push_of_some _ e, turn_listH a _, ⟨_, Heap.get?_push_size _ rfl, rfl, rfl⟩, fun b hb => ?_, q⟩
  obtain rfl : b = s1.heap.objs.size := by simpa using hb
  exact I1.fpOk (Nat.le_refl _) (I1.hok.fresh (Nat.le_refl _))
/-! ### a comprehension there -/
/-- the block's context, which bears the handled exception -/
abbrev blkH (X : Cx) (p : Addr × Obj) (s : Shared) (H : Hp) (scope : Scope) (cenv : Env) (fp : List Addr) : Cx := { X.blk s H scope cenv fp with pn := [p] }
theorem blkH_hot {X : Cx} {p : Addr × Obj} {s : Shared} {H : Hp} {scope : Scope} {cenv : Env} {fp : List Addr} (h : Hot1 X.A p) : HotC (blkH X p s H scope cenv fp) := ⟨p, h, List.mem_cons_self⟩
theorem startH {X : Cx} {pins : List (Addr × Obj)} {σ : L2.St} {H : Hp} {s : Shared} {p : Addr × Obj} {scope : Scope} {own : List (Str × Nat)} {fp : List Addr} (I : Inv X pins σ H s) (hp : p ∈ X.pn) (ok : BlkOk X.N X.env.scope scope own) (hN : X.N.Nodup) (hfp : ∀ b ∈ fp, FpOk X pins H b ∧ b < s.heap.objs.size) :
    Inv (blkH X p s H scope (compEnvC scope (cellsFrom (s.heap.objs.size + 1) scope.names (cloFrom X.env.cells scope.names [])) s.heap.objs.size X.env) fp) [] (wipe σ (own.map (·.2))) H { s with heap := pushCells (s.heap.push { cls := .type "dict", data := .dict #[] }) scope.names } := by
  have B := block_start I ok hN hfp
  have k := B.ok
  obtain ⟨q1, q2, q3, q4, q5⟩ := I.pin p (List.mem_append_left _ hp)
  refine ⟨⟨k.mod, k.kind, k.glob, k.blt, k.above, k.inj, k.has, k.cab, k.hd, k.frames, k.stk, k.exf, k.bs, k.bsz, k.noex, k.exfs, k.funs, k.frf⟩, B.os, B.bare, B.base, B.loc, B.cell, B.free, B.freeC, fun z hz => ?_, B.hok, B.len⟩
  obtain rfl : z = p := by simpa using (show z ∈ [p] ++ ([] : List (Addr × Obj)) from hz)
  exact ⟨pushCells_keeps _ _ _ _ (Heap.get?_push_of_some _ q1), q2, Nat.ne_of_lt (Heap.lt_size q1), fun hm => (List.mem_cons.mp (I.stkSub z.1 hm)).elim q3 q4, q5⟩
section
variable {X : Cx}
theorem lc_hot {pins : List (Addr × Obj)} {s : Shared} {σ : L2.St} {H : Hp} {Q : VK} {elt tg iter : Expr} {ifs : List Expr} {scope : Scope} {own : List (Str × Nat)} {pos pos' : Pos} {wi : TI} {g : TG} {tt : TT} {te : TE} {use : Option (Value → Sem Unit)} {Qf : Value → Shared → Prop} {p : Addr × Obj}
    (hot : Hot1 X.A p) (hp : p ∈ X.pn) (hN : X.N.Nodup) (I : Inv X pins σ H s) (hi : PIH X tg iter wi) (ok : BlkOk X.N X.env.scope scope own)
    (hg : ∀ (s : Shared) (H : Hp) (C : Addr) (cl : List (Str × Addr)) (fp : List Addr), PG (blkH X p s H scope (compEnvC scope cl C X.env) fp) tg g) (ht : ∀ (s : Shared) (H : Hp) (C : Addr) (cl : List (Str × Addr)) (fp : List Addr), PTs (blkH X p s H scope (compEnvC scope cl C X.env) fp) ifs tt)
    (he : ∀ (s : Shared) (H : Hp) (C : Addr) (cl : List (Str × Addr)) (fp : List Addr), PE (blkH X p s H scope (compEnvC scope cl C X.env) fp) elt te) (hs : ∀ x, foldedSetIterable iter X.env x = pure x)
    (h : tLc wi g tt te (own.map (·.2)) σ H Q)
    (hRR : ∀ D C s' m H', Inv X pins σ H' s' → Q (.ref D) H' → s'.heap.Ns C m → FpOk X pins H' C → compPost (model X.prog X.w) X.A X.xe use Qf (.ref D) C (.ok .next) s') :
    wpAny (model X.prog X.w) X.A (comprehension (.ListComp elt [⟨tg, iter, ifs, 0⟩] scope pos) scope X.env pos' (newList []) false (eval iter X.env) use) Qf X.xe s := by
  have free : ∀ y ∈ scope.names, y.2 = .free → ∃ c, X.env.cells.lookup y.1 = some c := fun y hy e => (ok.free y hy e).elim (fun k => I.ok.has _ (.inl k)) fun k => I.ok.has _ (.inr k)
  refine wpAny_comprehension_free (use := use) rfl hs (closure_ok free) ok.kind (fun y hy e => by rw [ok.uniq y hy, e]) (thn (hi.run pins s σ H _ I h) fun xv s1 hx => thn hx fun itv s2 h2 => ?_)
  obtain ⟨it, fp, tn, J, H2, e, I2, T, st2, f2, q⟩ := h2
  subst e
  refine wpAny_newObj_type (newEnv_comp ?_) (by show 0 ≤ sizeLine; decide)
  obtain ⟨D, hD⟩ : ∃ D, s2.heap.objs.size = D := ⟨_, rfl⟩
  have hDn : H2 D = none := I2.hok.fresh (Nat.le_of_eq hD)
  rw [hD]
  obtain ⟨W, ⟨m0, w0⟩, turn⟩ := q D hDn
  obtain ⟨s3, hs3⟩ : ∃ s3 : Shared, ({ s2 with heap := s2.heap.push { cls := .type "list", data := .seq ([] : List Value).toArray } } : Shared) = s3 := ⟨_, rfl⟩
  have h3 : s3.heap = s2.heap.push { cls := .type "list", data := .seq ([] : List Value).toArray } := by rw [← hs3]
  have I3 : Inv X pins σ (upd H2 D (.lst [])) s3 := by
    rw [← hs3]
    refine I2.laid (t' := s2.toks) (fun b o e => Heap.get?_push_of_some _ e) (Nat.le_of_eq hD) ⟨Nat.zero_le _, [], 0, .nil, ?_⟩
    rw [← hD]
    exact Heap.get?_push_size _ rfl
  rw [hs3]
  have f3 : ∀ b ∈ fp, FpOk X pins (upd H2 D (.lst [])) b ∧ b < s3.heap.objs.size := fun b hb => by
    obtain ⟨o, e, _⟩ := T.obj _ _ st2 b hb
    have lt := Heap.lt_size e
    refine ⟨⟨?_, (f2 b hb).2⟩, by rw [h3, Heap.size_push]; exact Nat.lt_succ_of_lt lt⟩
    rw [upd_ne (by rw [← hD]; exact Nat.ne_of_lt lt)]
    exact (f2 b hb).1
  have st3 : tn 0 s3.heap := T.keep _ _ _ st2 fun b _ o e => by rw [h3]; exact Heap.get?_push_of_some _ e
  have pl : ∀ b ∈ fp, p.1 ≠ b := fun b hb => (f2 b hb).2.2.2.2.2 p (List.mem_append_left _ hp)
  have I4 := startH I3 hp ok hN f3
  have nfp : ∀ b ∈ fp, (upd H2 D (.lst [])) b = none := fun b hb => (f3 b hb).1.1
  obtain ⟨ce, hce⟩ : ∃ ce, compEnvC scope (cellsFrom (s3.heap.objs.size + 1) scope.names (cloFrom X.env.cells scope.names [])) s3.heap.objs.size X.env = ce := ⟨_, rfl⟩
  have pg := hg s3 (upd H2 D (.lst [])) s3.heap.objs.size (cellsFrom (s3.heap.objs.size + 1) scope.names (cloFrom X.env.cells scope.names [])) fp
  have pt := ht s3 (upd H2 D (.lst [])) s3.heap.objs.size (cellsFrom (s3.heap.objs.size + 1) scope.names (cloFrom X.env.cells scope.names [])) fp
  have pe := he s3 (upd H2 D (.lst [])) s3.heap.objs.size (cellsFrom (s3.heap.objs.size + 1) scope.names (cloFrom X.env.cells scope.names [])) fp
  show codeAny _ _ (.compStart (.ListComp elt [⟨tg, iter, ifs, 0⟩] scope pos) 0 (.ref it) (.ref D) (compEnvC scope (cellsFrom (s3.heap.objs.size + 1) scope.names (cloFrom X.env.cells scope.names [])) s3.heap.objs.size X.env)) (compPost (model X.prog X.w) X.A X.xe use Qf (.ref D) s3.heap.objs.size) { s3 with heap := pushCells (s3.heap.push { cls := .type "dict", data := .dict #[] }) scope.names }
  rw [hce] at I4 pg pt pe ⊢
  have cL : ce.locals = s3.heap.objs.size := by
    rw [← hce]
    rfl
  generalize upd H2 D (.lst []) = H3 at I3 I4 pg pt pe w0 nfp f3
  obtain ⟨s4, hs4⟩ : ∃ s4 : Shared, ({ s3 with heap := pushCells (s3.heap.push { cls := .type "dict", data := .dict #[] }) scope.names } : Shared) = s4 := ⟨_, rfl⟩
  have st4 : tn 0 s4.heap := T.keep _ _ _ st3 fun b _ o e => by rw [← hs4]; exact pushCells_keeps _ _ _ _ (Heap.get?_push_of_some _ e)
  rw [hs4] at I4 ⊢
  have hc : HotC (blkH X p s3 H3 scope ce fp) := blkH_hot hot
  have stat : ∀ {σ' : L2.St} {H' : Hp} {s' : Shared}, Inv (blkH X p s3 H3 scope ce fp) [] σ' H' s' → (∀ b ∈ fp, H' b = none) → ∀ b ∈ fp, FpOk (blkH X p s3 H3 scope ce fp) [] H' b := fun {σ' H' s'} I' hn b hb =>
    ⟨hn b hb, (I'.ok.exf b hb).1, I'.ok.exfs b hb, .inl hb, fun x c e => (I'.ok.exf b hb).2 x c e, fun z hz => by
      obtain rfl : z = p := by simpa using (show z ∈ [p] ++ ([] : List (Addr × Obj)) from hz)
      exact pl b hb⟩
  have loop : codeAny (model X.prog X.w) X.A (.compLoop (.ListComp elt [⟨tg, iter, ifs, 0⟩] scope pos) 0 (.ref it) (.ref D) ce) (compPost (model X.prog X.w) X.A X.xe use Qf (.ref D) s3.heap.objs.size) s4 := by
    refine compLoop_any (fun n s' => ∃ i H', Inv (blkH X p s3 H3 scope ce fp) [] (wipe σ (own.map (·.2))) H' s' ∧ tn i s'.heap ∧ (∀ b ∈ fp, H' b = none) ∧ W i n H') ?_ m0 ⟨0, H3, I4, st4, nfp, w0⟩
    rintro n s5 ⟨i, H5, I5, st5, n5, w5⟩
    rcases turn i n H5 w5 with ⟨stop, qq⟩ | ⟨go, Nx, hNx, step⟩
    · refine thnF (T.done (blkH X p s3 H3 scope ce fp) rfl rfl rfl hc i [] s5 _ H5 (fun _ _ => False) I5 (stat I5 n5) st5 stop) fun r s6 ⟨hr, I6⟩ => ?_
      subst hr
      have I7 : Inv X pins σ H5 s6 := I3.call' (ch := fp) I6.os I6.base I6.hok I6.bare fun b hb => ⟨(f3 b hb).1.2.2.2.1, (f3 b hb).1.2.1, (f3 b hb).1.2.2.2.2.1, (f3 b hb).1.2.2.2.2.2⟩
      have nC : H5 s3.heap.objs.size = none := by
        have z : H5 ce.locals = none := I6.free
        rw [cL] at z
        exact z
      obtain ⟨m, hn, _⟩ := I6.loc
      have hn : s6.heap.Ns ce.locals m := hn
      rw [cL] at hn
      exact hRR D s3.heap.objs.size s6 m H5 I7 qq hn (I3.fpOk (Nat.le_refl _) nC)
    · refine thnF (T.item (blkH X p s3 H3 scope ce fp) rfl rfl rfl hc i [] s5 _ H5 (fun _ _ => False) I5 (stat I5 n5) st5 go) fun r s6 ⟨u, hr, h6⟩ => ?_
      subst hr
      refine thnF h6 fun _ s7 ⟨x, H7, I7, r7, y7, st7, n7⟩ => ?_
      have I7' := I7.pinned (stat I7 n7) (T.obj _ _ st7)
      refine thnF (pg.run _ s7 _ H7 x u _ I7' r7 (step x H7 y7)) fun _ s8 ⟨σ8, H8, I8, hw8, q8⟩ => thnF (pt.run _ s8 σ8 H8 _ I8 q8) fun b s9 ⟨H9, I9, q9⟩ => ?_
      have fin : ∀ {s' : Shared} {H' : Hp}, Inv (blkH X p s3 H3 scope ce fp) ([] ++ pinsAt fp s7.heap) σ8 H' s' → Nx H' → ∃ m, m < n ∧ ∃ i H', Inv (blkH X p s3 H3 scope ce fp) [] (wipe σ (own.map (·.2))) H' s' ∧ tn i s'.heap ∧ (∀ b ∈ fp, H' b = none) ∧ W i m H' := fun {s' H'} I' nx => by
        obtain ⟨m', hm, w'⟩ := hNx H' nx
        have pin' : ∀ b ∈ fp, ∀ o, s7.heap.get? b = some o → s'.heap.get? b = some o ∧ H' b = none := fun b hb o e =>
          let z := I'.pin (b, o) (List.mem_append_right _ (List.mem_append_right _ (mem_pinsAt hb e)))
          ⟨z.1, z.2.1⟩
        refine ⟨m', hm, i + 1, H', (I'.unpinned (pins := [])).weak (by rw [← hw8, wipe_length]) (fun j v e => ?_), T.keep _ _ _ st7 fun b hb o e => (pin' b hb o e).1, fun b hb => ?_, w'⟩
        · rw [← hw8] at e
          exact (wipe_some e).1
        · obtain ⟨o, e, _⟩ := T.obj _ _ st7 b hb
          exact (pin' b hb o e).2
      cases b with
      | false =>
        simp only [Bool.false_eq_true, if_false] at q9 ⊢
        exact fin I9 q9
      | true =>
        simp only [if_true] at q9 ⊢
        exact thnF (pe.run _ s9 σ8 H9 _ I9 q9) fun z s10 ⟨yv, H10, I10, r10, acc, hD10, hz10, nx⟩ => app_ok (X := blkH X p s3 H3 scope ce fp) I10 hD10 hz10 r10 fun s11 I11 => fin I11 nx
  exact codeAny_compStart_list loop (T.self X.A 0 _ _ _ st4 loop)
theorem pe_lcH {elt tg iter : Expr} {ifs : List Expr} {scope : Scope} {own : List (Str × Nat)} {pos : Pos} {wi : TI} {g : TG} {tt : TT} {te : TE} (hc : HotC X) (hN : X.N.Nodup) (hi : PIH X tg iter wi) (ok : BlkOk X.N X.env.scope scope own)
    (hg : ∀ (p : Addr × Obj) (s : Shared) (H : Hp) (C : Addr) (cl : List (Str × Addr)) (fp : List Addr), HotC (blkH X p s H scope (compEnvC scope cl C X.env) fp) → PG (blkH X p s H scope (compEnvC scope cl C X.env) fp) tg g)
    (ht : ∀ (p : Addr × Obj) (s : Shared) (H : Hp) (C : Addr) (cl : List (Str × Addr)) (fp : List Addr), PTs (blkH X p s H scope (compEnvC scope cl C X.env) fp) ifs tt)
    (he : ∀ (p : Addr × Obj) (s : Shared) (H : Hp) (C : Addr) (cl : List (Str × Addr)) (fp : List Addr), PE (blkH X p s H scope (compEnvC scope cl C X.env) fp) elt te) (hs : ∀ x, foldedSetIterable iter X.env x = pure x := by intro _; rfl) :
    PE X (.ListComp elt [⟨tg, iter, ifs, 0⟩] scope pos) (tLc wi g tt te (own.map (·.2))) := by
  obtain ⟨p, hot, hp⟩ := hc
  refine ⟨fun pins s σ H Q I h => ?_⟩
  rw [eval_ListComp]
  refine lc_hot hot hp hN I hi ok (fun s H C cl fp => hg p s H C cl fp (blkH_hot hot)) (ht p) (he p) hs h fun D C s' m H' I' q hn f => ⟨m, hn, fun h'' sb => ?_⟩
  obtain ⟨f0, f1, f2, f3, f4, f5⟩ := f
  exact ⟨.ref D, H', I'.turned (t' := s'.toks) (fun b o hb e => (sb.2 b hb).trans e) f0 f1 f3 f4 f5, rfl, q⟩
end
end WH
set_option Elab.async false
set_option linter.all false
set_option maxRecDepth 100000
set_option maxHeartbeats 4000000
namespace WH
open PySem PySem.Spec PyProof.Rows L2 L2H HotX
/-! ### try: body, except C: s, raise, finally: suite -/
/-- what is known of an exception that a suite of X handles, and of its record T -/
structure Shel (X : Cx) (pins : List (Addr × Obj)) (a T : Addr) (oe oT : Obj) (cls : Value) (d : Option Addr) : Prop where
  zn : L2N.Zn cls d oe
  ed : ∃ vs : Array Value, oe.data = .fields vs ∧ vs[1]? = some (.ref T)
  td : ∃ ts : Array Value, oT.data = .fields ts ∧ ts[3]? = some .none
  ne : T ≠ a
  far0 : ∀ b o, X.s_0.heap.get? b = some o → b ≠ a ∧ b ≠ T
  farP : ∀ p ∈ X.pn ++ pins, p.1 ≠ a ∧ p.1 ≠ T
section
variable {X : Cx} {pins : List (Addr × Obj)} {σ : L2.St} {H : Hp} {s : Shared} {a T : Addr} {oe oT : Obj} {cls : Value} {d : Option Addr}
theorem Shel.hot (S : Shel X pins a T oe oT cls d) {pn : List (Addr × Obj)} : HotC (X.suite a ((a, oe) :: pn)) := by
  obtain ⟨vs, e, _⟩ := S.ed
  exact ⟨(a, oe), ⟨rfl, vs, e, S.zn.2.2 vs e⟩, List.mem_cons_self⟩
/-- into the suite -/
theorem shelter (hs : X.stack = X.env :: X.outer) (hf : X.env.frame = some X.env.locals) (hex : X.ex = []) {B : Heap} {sI : Shared} (J : Inv X pins σ H sI) (nb : ∀ b o, sI.heap.get? b = some o → b ∉ frs X.stack → B.get? b = some o)
    (fl : HandSPX.FlyingZ B (X.env :: X.outer) a (L2N.Zn cls d) s.heap) (I : Inv X pins σ H s) (na : H a = none) :
    ∃ T oe oT, Shel X pins a T oe oT cls d ∧ Inv (X.suite a ((a, oe) :: (T, oT) :: (X.pn ++ pins))) [] σ H s := by
  obtain ⟨k1, k2, k3, oe, vs, T, oT, ts, he, hz, hd, hv1, hnT, hTe, hT, hdT, ht3⟩ := fl
  have nT : H T = none := (J.inGround nb).gone hnT
  have notFr : ∀ (b : Addr) (o : Obj) (fv : Array Value), s.heap.get? b = some o → o.data = .fields fv → b ∉ frs (X.env :: X.outer) := fun b o fv e dd hm => by
    obtain ⟨_, o', e', hnf⟩ := k3.mem hm
    obtain rfl : o = o' := Option.some.inj (e.symm.trans e')
    exact hnf _ dd
  have locF : X.env.locals ∈ frs (X.env :: X.outer) := List.mem_filterMap.mpr ⟨X.env, List.mem_cons_self, hf⟩
  have fsF : ∀ b, b ∈ X.fs → b ∈ frs (X.env :: X.outer) := fun b hm => by
    obtain ⟨e, he, q⟩ := List.mem_filterMap.mp hm
    exact List.mem_filterMap.mpr ⟨e, List.mem_cons_of_mem _ he, q⟩
  have fa := notFr a oe vs he hd
  have fT := notFr T oT ts hT hdT
  have far : ∀ b o, sI.heap.get? b = some o → b ≠ a ∧ b ≠ T := fun b o e => by
    by_cases hb : b ∈ frs X.stack
    · rw [hs] at hb
      exact ⟨fun z => fa (z ▸ hb), fun z => fT (z ▸ hb)⟩
    · have q := nb b o e hb
      exact ⟨fun z => by
        rw [z, k2] at q
        exact (nomatch q), fun z => by
        rw [z, hnT] at q
        cases q⟩
  refine ⟨T, oe, oT, ⟨hz, ⟨vs, hd, hv1⟩, ⟨ts, hdT, ht3⟩, hTe, fun b o e => ?_, fun p hp => far p.1 p.2 (J.pin p hp).1⟩, I.ok.suite _ _, I.os, I.bare, I.base, I.loc, I.cell, I.free, I.freeC, fun p hp => ?_, I.hok, I.len⟩
  · obtain ⟨o', q⟩ := J.base.there b o e (by rw [hex]; simp)
    exact far b o' q
  · rw [List.append_nil] at hp
    rcases List.mem_cons.mp hp with z | hp
    · subst z
      refine ⟨he, na, fun z2 => fa ?_, fun z2 => fa (fsF _ z2), fun v z2 => ?_⟩
      · rw [show a = X.env.locals from z2]
        exact locF
      · have z3 : oe.data = .cell v := z2
        rw [hd] at z3
        cases z3
    · rcases List.mem_cons.mp hp with z | hp
      · subst z
        refine ⟨hT, nT, fun z2 => fT ?_, fun z2 => fT (fsF _ z2), fun v z2 => ?_⟩
        · rw [show T = X.env.locals from z2]
          exact locF
        · have z3 : oT.data = .cell v := z2
          rw [hdT] at z3
          cases z3
      · exact I.pin p hp
/-- out of it -/
theorem unshelter (hs : X.stack = X.env :: X.outer) (ok : X.Ok) (S : Shel X pins a T oe oT cls d) (I : Inv (X.suite a ((a, oe) :: (T, oT) :: (X.pn ++ pins))) [] σ H s) :
    ∃ G B, Inv X pins σ H { s with heap := G } ∧ (∀ b o, G.get? b = some o → b ∉ frs X.stack → B.get? b = some o) ∧ G.UpToSlots s.heap ∧ HandSPX.FlyingZ B (X.env :: X.outer) a (L2N.Zn cls d) s.heap ∧ H a = none := by
  obtain ⟨vs, hd, hv1⟩ := S.ed
  obtain ⟨ts, hdT, ht3⟩ := S.td
  have J : Inv X pins σ H s := ⟨ok, I.os, I.bare, I.base, I.loc, I.cell, I.free, I.freeC, fun p hp => I.pin p (List.mem_append_left _ (List.mem_cons_of_mem _ (List.mem_cons_of_mem _ hp))), I.hok, I.len⟩
  obtain ⟨ga, na, _⟩ := I.pin (a, oe) (List.mem_append_left _ List.mem_cons_self)
  obtain ⟨gT, nT, _⟩ := I.pin (T, oT) (List.mem_append_left _ (List.mem_cons_of_mem _ List.mem_cons_self))
  have ga : s.heap.get? a = some oe := ga
  have gT : s.heap.get? T = some oT := gT
  have na : H a = none := na
  have nT : H T = none := nT
  obtain ⟨G, g1, g2⟩ := restrict s.heap fun b => !(decide (b = a) || decide (b = T))
  have gIn : ∀ b o, G.get? b = some o → s.heap.get? b = some o ∧ b ≠ a ∧ b ≠ T := fun b o e => by
    cases q : (!(decide (b = a) || decide (b = T))) with
    | false =>
      rw [g2 b q] at e
      cases e
    | true =>
      rw [g1 b q] at e
      simp only [Bool.not_eq_true', Bool.or_eq_false_iff, decide_eq_false_iff_not] at q
      exact ⟨e, q.1, q.2⟩
  have gOf : ∀ b o, b ≠ a → b ≠ T → s.heap.get? b = some o → G.get? b = some o := fun b o h1 h2 e => by
    rw [g1 b (by simp [h1, h2])]
    exact e
  have Bno : ∀ b, (b = a ∨ b = T) → (PySem.W.hideAll G (frs X.stack)).get? b = none := fun b hb => by
    cases q : (PySem.W.hideAll G (frs X.stack)).get? b with
    | none => rfl
    | some o =>
      obtain ⟨_, n1, n2⟩ := gIn b o (PySem.W.of_hideAll _ q)
      exact hb.elim (fun z => absurd z n1) fun z => absurd z n2
  have ff := funFrames_none (B := PySem.W.hideAll G (frs X.stack)) J.stack fun b hb => PySem.W.hideAll_none _ hb
  rw [hs] at ff
  refine ⟨G, PySem.W.hideAll G (frs X.stack), J.less (fun b o e => (gIn b o e).1) gOf ⟨oe, vs, ga, hd⟩ ⟨oT, ts, gT, hdT⟩ na nT S.far0 S.farP, fun b o e hb => PySem.W.hideAll_get _ e hb, Heap.UpToSlots.of_keeps fun b o e => (gIn b o e).1,
    ⟨fun b o e => (gIn b o (PySem.W.of_hideAll _ e)).1, Bno a (.inl rfl), ?_, oe, vs, T, oT, ts, ga, S.zn, hd, hv1, Bno T (.inr rfl), S.ne, gT, hdT, ht3⟩, na⟩
  rw [hs]
  exact ff
end
/-- the finally suite, then on it goes -/
def wFinN (tf : TS) (Wout : WX) : WX := fun cls d σ H => tf { nx := fun σ2 H2 => Wout cls d σ2 H2, rt := fun _ _ => False } σ H
section
variable {X : Cx} {f₀ : Stmt} {fs : List Stmt} {tfs : TS} {Wout : WX}
theorem fin_raised {pins : List (Addr × Obj)} {D : L2.Ends} {s1 sI : Shared} {a : Addr} {B : Heap} {σ : L2.St} {H : Hp} {cls : Value} {d : Option Addr} (hs : X.stack = X.env :: X.outer) (hf : X.env.frame = some X.env.locals) (hex : X.ex = []) (ok : X.Ok) (tk : L2N.Takes X Wout)
    (hsu : ∀ (a : Addr) (pn : List (Addr × Obj)), PSs (X.suite a pn) (f₀ :: fs) tfs) (J : Inv X pins σ H sI) (nb : ∀ b o, sI.heap.get? b = some o → b ∉ frs X.stack → B.get? b = some o) (up : sI.heap.UpToSlots s1.heap)
    (hh : HandSPX.HeldZ B (X.env :: X.outer) a (L2N.Zn cls d) X.env.locals s1.heap) (na : H a = none) (os : s1.os = sI.os) (ag : AllBare s1.gens) (hw : wFinN tfs Wout cls d σ H) :
    FinallyRaised X.prog X.w X.A X.xe X.env (f₀ :: fs) (SP X pins D) (.ref a) s1 := by
  refine ⟨ref_ne_byPass a, HandSPX.againZ hf hh.2.2.2 (HandSPX.landsZ hh fun h3 fl3 up3 => ?_)⟩
  have J3 : Inv X pins σ H { s1 with heap := h3 } := J.landed nb fl3.1 (up.trans up3) os ag
  obtain ⟨T, oe, oT, S, I3⟩ := shelter hs hf hex J nb fl3 J3 na
  refine wpAny_mono ((hsu a _).run [] { s1 with heap := h3 } σ H { nx := fun σ2 H2 => Wout cls d σ2 H2, rt := fun _ _ => False } I3 hw) (fun g s6 hsp => ?_) fun _ _ z => False.elim z
  cases g with
  | ret u =>
    obtain ⟨_, _, _, _, _, q⟩ := hsp
    exact False.elim q
  | brk =>
    obtain ⟨_, _, _, q⟩ := hsp
    exact False.elim q
  | cont =>
    obtain ⟨_, _, _, q⟩ := hsp
    exact False.elim q
  | next =>
    obtain ⟨σ6, H6, I6, q6⟩ := hsp
    obtain ⟨G, B6, J6, nb6, up6, fl6, na6⟩ := unshelter hs ok S I6
    have bare6 := J6.bare
    obtain ⟨oe6, vs6, he6, hz6, hd6⟩ := fl6.there
    obtain ⟨_, _, _, oe, vs, T, oT, ts, ga, hz, hd, hv1, _⟩ := id fl6
    show wpAny (model X.prog X.w) X.A (PySem.passOn "try.finally" (.ref a) X.env) (SP X pins D) X.xe s6
    unfold PySem.passOn
    refine wpAny_bind (wpAny_field ga hd hv1 ?_)
    rw [if_neg (show ¬ ((Value.ref T == Value.none) = true) from by simp)]
    have goOn : wpAny (model X.prog X.w) X.A (setFlight (.ref a) X.env.frame) (fun _ s7 => wpAny (model X.prog X.w) X.A (throw (.ref a) : Sem Flow) (SP X pins D) X.xe s7) X.xe s6 := by
      rw [hf]
      refine HandSPX.setFlight_upZ fl6 fun h7 hh7 up7 => wpAny_throw (tk _ _ ?_)
      exact ⟨a, B6, { s6 with heap := G }, pins, σ6, H6, cls, d, rfl, J6, nb6, up6.trans up7, .inr (.inr (by rw [hs]; exact hh7)), na6, rfl, bare6, q6⟩
    first
      | exact wpAny_bind (wpAny_pure (wpAny_bind goOn))
      | exact wpAny_bind goOn
end
end WH
set_option Elab.async false
set_option linter.all false
set_option maxRecDepth 100000
set_option maxHeartbeats 4000000
namespace WH
open PySem PySem.Spec PyProof.Rows L2 L2H HotX
/-- what the clause wishes of an exception of the body: s, then a bare raise, then the finally suite -/
def wTry (K : PySem.W.Frag) (c : Value) (ts : Addr → Value → Option Addr → TS) (tf : TS) (Wout : WX) : WX := fun cls d σ H => PySem.W.exmOne K cls c = some true ∧ ∀ a, H a = none → ts a cls d { nx := fun σ1 H1 => wFinN tf Wout cls d σ1 H1, rt := fun _ _ => False } σ H
def tTryX (tb : WX → TS) (W : WX) (tf : TS) : TS := fun D σ H => tb W { nx := fun σ1 H1 => tf D σ1 H1, rt := fun _ _ => False } σ H
section
variable {X : Cx} {x : Str} {c : Value} {body : List Stmt} {s₁ f₀ : Stmt} {fs : List Stmt} {np pos pos' rp : Pos} {tb : WX → TS} {ts : Addr → Value → Option Addr → TS} {tf : TS} {Wout : WX}
theorem ps_tryX (hs : X.stack = X.env :: X.outer) (hf : X.env.frame = some X.env.locals) (hex : X.ex = []) (hc : Names X x c) (tk : L2N.Takes X Wout)
    (hb : ∀ (W : WX) (pn : List (Addr × Obj)) (xe : Value → Shared → Prop), L2N.Takes (X.tr pn xe) W → PassesOwn (model X.prog X.w) X.A X.env xe → PSs (X.tr pn xe) body (tb W))
    (hsu : ∀ (a : Addr) (oe : Obj) (cls : Value) (d : Option Addr) (pn : List (Addr × Obj)), HotC (X.suite a ((a, oe) :: pn)) → PS (X.suite a ((a, oe) :: pn)) s₁ (ts a cls d))
    (hf1 : PSs X.nox (f₀ :: fs) tf) (hf2 : ∀ (a : Addr) (pn : List (Addr × Obj)), PSs (X.suite a pn) (f₀ :: fs) tf) :
    PS X (.Try body [.ExceptHandler (some (.Name x np)) none [s₁, .Raise none none rp] pos'] [] (f₀ :: fs) pos) (tTryX tb (wTry X.K c ts tf Wout) tf) := by
  refine ⟨fun pins s σ H D I h => ?_⟩
  have ok := I.ok
  have hfr : X.A.frames = some (X.env :: X.outer) := by rw [ok.frames, hs]
  have h : tb (wTry X.K c ts tf Wout) { nx := fun σ1 H1 => tf D σ1 H1, rt := fun _ _ => False } σ H := h
  refine wpAny_Try_except_finally ?_
  refine wpAny_mono ((hb (wTry X.K c ts tf Wout) (X.pn ++ pins) (fun e s₁' => wpAny (model X.prog X.w) X.A (noteFrame e X.env) (fun _ s₂ => wpAny (model X.prog X.w) X.A (setFlight e none) (fun _ s₂' => wpAny (model X.prog X.w) X.A (handleBy e X.env [.ExceptHandler (some (.Name x np)) none [s₁, .Raise none none rp] pos'])
    (fun f' s₃ => wpAny (model X.prog X.w) X.A (execs (f₀ :: fs) X.env) (fun g s' => match g with | .next => SP X pins D f' s' | g => SP X pins D g s') (notedBy (model X.prog X.w) X.A X.env (cameBackBy (model X.prog X.w) X.A X.env X.xe)) s₃)
    (FinallyRaised X.prog X.w X.A X.xe X.env (f₀ :: fs) (SP X pins D)) s₂') (FinallyRaised X.prog X.w X.A X.xe X.env (f₀ :: fs) (SP X pins D)) s₂) (FinallyRaised X.prog X.w X.A X.xe X.env (f₀ :: fs) (SP X pins D)) s₁')
    (fun u s' xx => ?_) PassesOwn.looking).run [] s σ H _ (I.toTry _) h) (fun f s1 hsp => ?_) (fun e s1 he => he)
  · obtain ⟨a, B, sI, pins', σ', H', cls, d, rfl, J', nb, up, sky, na, os, ag, hm1, hyes⟩ := xx
    have J : Inv X pins σ' H' sI := J'.ofTry ok
    have sky' : Sky B (X.env :: X.outer) a (L2N.Zn cls d) X.env.locals s'.heap := by rw [← hs]; exact sky
    show wpAny (model X.prog X.w) X.A (noteFrame (.ref a) X.env) _ _ _
    refine L2N.Sky.land L2N.Zn.steady hfr hf sky' fun h3 fl3 up3 => ?_
    have J3 : Inv X pins σ' H' { s' with heap := h3 } := J.landed nb fl3.1 (up.trans up3) os ag
    obtain ⟨oe3, vs3, he3, hz3, hd3⟩ := fl3.there
    obtain ⟨T3, oe3', oT3, S3, I3⟩ := shelter hs hf hex J nb fl3 J3 na
    refine wpAny_handleBy_cons (codeAny_handlers_test ?_) (by intro q; cases q)
    have LT : PySem.W.Looks (model X.prog X.w) h3 (typeOf (.ref a)) cls := fun A Q E s k q => wpAny_typeOf_ref (k _ _ he3) (by rw [hz3.1]; exact q)
    have LM := PySem.W.exm_one (M := model X.prog X.w) (J3.kIn) LT hm1
    have test : ∀ {Q : Value → Shared → Prop} {E : Value → Shared → Prop}, Q c { s' with heap := h3 } → wpAny (model X.prog X.w) (X.A.mark (some (.ref a))) (eval (.Name x np) X.env) Q E { s' with heap := h3 } := fun {Q E} q => by
      obtain ⟨hg, hdbg, hm | ⟨hm, hv, hnn⟩⟩ := hc
      · exact ld_glob (X := X.suite a ((a, oe3') :: (T3, oT3) :: (X.pn ++ pins))) I3 hg hm q hdbg
      · exact ld_blt (X := X.suite a ((a, oe3') :: (T3, oT3) :: (X.pn ++ pins))) I3 hg hm hv q hnn hdbg
    refine test (LM.here ?_)
    refine codeAny_handlers_suite ?_
    refine HandSPX.lands_againZ fl3 fun h4 fl4 up4 => ?_
    have J4 : Inv X pins σ' H' { s' with heap := h4 } := J.landed nb fl4.1 ((up.trans up3).trans up4) os ag
    obtain ⟨T, oe, oT, S, I4⟩ := shelter hs hf hex J nb fl4 J4 na
    refine wpAny_execs_cons (wpAny_mono ((hsu a oe cls d ((T, oT) :: (X.pn ++ pins)) S.hot).run [] { s' with heap := h4 } σ' H' _ I4 (hyes a na)) (fun f s6 hsp => ?_) fun _ _ z => False.elim z)
    cases f with
    | ret u =>
      obtain ⟨_, _, _, _, _, q⟩ := hsp
      exact False.elim q
    | brk =>
      obtain ⟨_, _, _, q⟩ := hsp
      exact False.elim q
    | cont =>
      obtain ⟨_, _, _, q⟩ := hsp
      exact False.elim q
    | next =>
      obtain ⟨σ6, H6, I6, q6⟩ := hsp
      obtain ⟨G, B6, J6, nb6, up6, fl6, na6⟩ := unshelter hs ok S I6
      have bare6 := J6.bare
      refine wpAny_execs_cons (wpAny_Raise_bare ?_)
      unfold raiseBare raiseStmt
      dsimp only
      refine wpAny_bind (wpAny_handled ?_)
      show wpAny _ (X.A.mark (some (.ref a))) _ _ _ _
      try dsimp only
      refine wpAny_bind (wpAny_rule ?_)
      obtain ⟨_, _, _, oe6, vs6, T6, oT6, ts6, ga, hz, hd, hv1, _⟩ := id fl6
      refine wpAny_bind (wpAny_field ga hd hv1 ?_)
      rw [if_neg (show ¬ ((Value.ref T6 == Value.none) = true) from by simp), hf]
      have go2 : wpAny (model X.prog X.w) (X.A.mark (some (.ref a))) (setFlight (.ref a) (some X.env.locals)) (fun _ s7 => notedBy (model X.prog X.w) (X.A.mark (some (.ref a))) X.env (fun x s2 => cameBackBy (model X.prog X.w) X.A X.env (FinallyRaised X.prog X.w X.A X.xe X.env (f₀ :: fs) (SP X pins D)) x s2) (.ref a) s7) (fun _ _ => False) s6 := by
        refine HandSPX.setFlight_upZ fl6 fun h7 hh7 up7 => ?_
        refine HandSPX.againZ hf hh7.2.2.2 ?_
        obtain ⟨_, _, _, oe7, vs7, T7, oT7, ts7, ga7, hz7, hd7, hv7, _⟩ := id hh7
        refine wpAny_bind (wpAny_field ga7 hd7 hv7 ?_)
        rw [if_neg (show ¬ ((Value.ref T7 == Value.none) = true) from by simp)]
        have fin : wpAny (model X.prog X.w) X.A (setFlight (.ref a) X.env.frame) (fun _ s8 => FinallyRaised X.prog X.w X.A X.xe X.env (f₀ :: fs) (SP X pins D) (.ref a) s8) (FinallyRaised X.prog X.w X.A X.xe X.env (f₀ :: fs) (SP X pins D)) { s6 with heap := h7 } := by
          rw [hf]
          refine HandSPX.setFlight_anyZ (fr := some X.env.locals) hh7.1 hh7.2.2.1 hh7.2.2.2 fun h8 k1 k2 k3 up8 => ?_
          exact fin_raised hs hf hex ok tk hf2 J6 nb6 ((up6.trans up7).trans up8) ⟨k1, hh7.2.1, k2, k3⟩ na6 rfl bare6 q6
        first
          | exact fin
          | exact wpAny_bind (wpAny_pure fin)
      first
        | exact wpAny_bind (wpAny_mono go2 (fun _ s7 z => wpAny_throw z) (fun _ _ z => False.elim z))
        | exact wpAny_bind (wpAny_pure (wpAny_bind (wpAny_mono go2 (fun _ s7 z => wpAny_throw z) (fun _ _ z => False.elim z))))
  · cases f with
    | next =>
      obtain ⟨σ', H', J', q⟩ := hsp
      refine wpAny_execs_nil (wpAny_mono (hf1.run pins s1 σ' H' D ((J'.ofTry ok).wish _) q) (fun g s2 q2 => ?_) fun _ _ z => False.elim z)
      have q' : SP X pins D g s2 := q2.unwish
      cases g <;> exact q'
    | brk =>
      obtain ⟨_, _, _, q⟩ := hsp
      exact False.elim q
    | cont =>
      obtain ⟨_, _, _, q⟩ := hsp
      exact False.elim q
    | ret u =>
      obtain ⟨_, _, _, _, _, q⟩ := hsp
      exact False.elim q
end
end WH
set_option Elab.async false
set_option linter.all false
set_option maxRecDepth 100000
set_option maxHeartbeats 4000000
namespace WH
open PySem PySem.Spec PyProof.Rows L2 L2H HotX
section
variable {X : Cx} {x : Str} {c : Value} {body : List Stmt} {s₁ f₀ : Stmt} {fs : List Stmt} {np pos pos' rp : Pos} {tb : WX → TS} {ts : Addr → Value → Option Addr → TS} {tf : TS} {Wout : WX} {tb' : WX → List (Addr × Obj) → (Value → Shared → Prop) → TS} {ts' : Addr → Obj → Value → Option Addr → List (Addr × Obj) → TS}
theorem ps_tryXe (hs : X.stack = X.env :: X.outer) (hf : X.env.frame = some X.env.locals) (hex : X.ex = []) (hc : Names X x c) (tk : L2N.Takes X Wout)
    (hb : ∀ (W : WX) (pn : List (Addr × Obj)) (xe : Value → Shared → Prop), L2N.Takes (X.tr pn xe) W → PassesOwn (model X.prog X.w) X.A X.env xe → PSs (X.tr pn xe) body (tb' W pn xe))
    (hsu : ∀ (a : Addr) (oe : Obj) (cls : Value) (d : Option Addr) (pn : List (Addr × Obj)), HotC (X.suite a ((a, oe) :: pn)) → PS (X.suite a ((a, oe) :: pn)) s₁ (ts' a oe cls d pn))
    (hf1 : PSs X.nox (f₀ :: fs) tf) (hf2 : ∀ (a : Addr) (pn : List (Addr × Obj)), PSs (X.suite a pn) (f₀ :: fs) tf) (he : ∀ W pn xe, tb' W pn xe = tb W := by intro W pn xe; first | dsimp only [Cx.tr, cxOf] | rfl)
    (he2 : ∀ a oe cls d pn, ts' a oe cls d pn = ts a cls d := by intro a oe cls d pn; first | dsimp only [Cx.suite, cxOf] | rfl) :
    PS X (.Try body [.ExceptHandler (some (.Name x np)) none [s₁, .Raise none none rp] pos'] [] (f₀ :: fs) pos) (tTryX tb (wTry X.K c ts tf Wout) tf) :=
  ps_tryX hs hf hex hc tk (fun W pn xe t p => by
    rw [← he W pn xe]
    exact hb W pn xe t p) (fun a oe cls d pn h => by
    rw [← he2 a oe cls d pn]
    exact hsu a oe cls d pn h) hf1 hf2
end
/-! ### calls whose exceptions are wished for at the caller's slots -/
def tMethS (C : Addr) (m : Str) (sp : Sp) (dvs : List V) (E : L2.St → XK) (ta : TE) (t : TA) : TE := fun σ H Q => ta σ H fun x H1 => ∃ a dx fs, x = .ref a ∧ H1 a = some (.ins C dx fs) ∧ fs.lookup m = none ∧ t σ H1 fun vs H2 => sp (x :: (vs ++ dvs)) H2 Q (E σ)
def tMethNS (C : Addr) (m : Str) (n q : Nat) (sp : Sp) (gV : List V → List V → List V) (E : L2.St → XK) (ta : TE) (t tk : TA) : TE := fun σ H Q => ta σ H fun x H1 => ∃ a dx fs, x = .ref a ∧ H1 a = some (.ins C dx fs) ∧ fs.lookup m = none ∧
  t σ H1 fun vs H2 => tk σ H2 fun zs H3 => vs.length + 1 = n ∧ zs.length = q ∧ sp (gV (x :: vs) zs) H3 Q (E σ)
section
variable {X : Cx} {C : Addr} {m x : Str} {k n : Nat} {sp : Sp} {dvs : List V} {E : L2.St → XK} {o e : Expr} {es : List Expr} {kws : List Keyword} {ta : TE} {t tk : TA} {p p1 p2 pos apos : Pos} {ks : List Str} {gV : List V → List V → List V} {pl : Sem Bool}
theorem pe_mMS (M : MethOk X.prog X.w X.K X.mg X.base C m k sp dvs) (c : Cls X.K C) (hr : Room k X.A) (hx : ∀ σ, PassesAt (L2N.CX X.prog X.w) X σ (E σ)) (he : PE X o ta) (ha : PA X (e :: es) t)
    (hst : starEach (e :: es) X.env = (false, eval e X.env) :: starEach es X.env := by rfl) (hpl : (backTo pos (starEach es X.env)).any (·.1) = false := by rfl)
    (ht : eval (.Call (.Attribute o m apos) (e :: es) [] pos) X.env = (do
      let ov ← eval o X.env
      standAt apos.atName
      let (f, first) ← holding [ov] (getMethod ov m pl)
      callWith pos f first (backTo pos (starEach (e :: es) X.env)) (backToKw pos (keywordEach [] X.env))) := by rfl) :
    PE X (.Call (.Attribute o m apos) (e :: es) [] pos) (tMethS C m sp dvs E ta t) := by
  obtain ⟨f, fd, ps, ds, hm, F, hb, hd⟩ := M
  refine ⟨fun pins s σ H Q I h => ?_⟩
  refine PySem.W.methodCall_KW (pl := pl) (thn (he.run pins s σ H _ I h) fun u s1 ⟨x, H1, I1, rx, a, dx, fs, ex, ea, l, q⟩ => ?_) ht
  subst ex
  obtain rfl : u = Value.ref a := rx
  refine getmeth_ok I1 ea c hm l ?_
  refine PySem.W.callWith_K (first := [.ref a]) (h₀ := X.base) I1.ok.mod.kin hm.kp (thn (ha.run pos pins s1 σ H1 _ I1 q) fun us s2 ⟨vs, H2, I2, r, q2⟩ => ⟨I2.kIn, ?_⟩) hst hpl
  exact run_fnSD (us := .ref a :: us) (vs := .ref a :: vs) F hr hb hd (hx σ) I2 (.cons rfl r) q2
theorem run_fnNS {pins : List (Addr × Obj)} {σ : L2.St} {H : Hp} {s : Shared} {Q : VK} {us ws : List Value} {vs zs : List V} {f : Addr} {fd : FuncData} {ps : List Str} {g : List Value → List Value → List Value} (F : FnOk X.prog X.w X.K X.mg X.base (L2N.CX X.prog X.w) k f fd ps sp) (hr : Room k X.A) (hb : KBn X.K fd ps n ks g gV)
    (hx : PassesAt (L2N.CX X.prog X.w) X σ (E σ)) (I : Inv X pins σ H s) (r : Vals vs us) (rz : Vals zs ws) (l1 : vs.length = n) (l2 : zs.length = ks.length) (h : sp (gV vs zs) H Q (E σ)) : wpAny (model X.prog X.w) X.A (call (.ref f) us (ks.zip ws)) (EP X pins σ Q) X.xe s := by
  refine wpAny_call (codeAny_mono (F.run X.A X.stack s H ⟨us, ks.zip ws⟩ (g us ws) (gV vs zs) Q (E σ) hr I.env0 (hb.to s us ws I.kIn (r.length.symm.trans l1) (rz.length.symm.trans l2)) (hb.rel r rz) h) fun r s' hq => ?_)
  cases r with
  | error e => exact hx pins H s e s' I hq
  | ok fl =>
    cases fl with
    | ret u => exact I.after hq
    | next => exact False.elim hq
    | brk => exact False.elim hq
    | cont => exact False.elim hq
theorem pe_mMKS (M : MethKOk X.prog X.w X.K X.mg X.base C m k sp n ks gV) (c : Cls X.K C) (hr : Room k X.A) (hx : ∀ σ, PassesAt (L2N.CX X.prog X.w) X σ (E σ)) (he : PE X o ta) (ha : PA X (e :: es) t) (hkw : PK X kws tk)
    (hall : (backToKw pos (keywordEach kws X.env)).all (·.1.isSome) = true := by rfl) (hks : (backToKw pos (keywordEach kws X.env)).filterMap (·.1) = ks := by rfl)
    (hst : starEach (e :: es) X.env = (false, eval e X.env) :: starEach es X.env := by rfl) (hpl : ((backTo pos (starEach (e :: es) X.env)).any (·.1) || (backToKw pos (keywordEach kws X.env)).any (·.1.isNone)) = false := by rfl)
    (ht : eval (.Call (.Attribute o m apos) (e :: es) kws pos) X.env = (do
      let ov ← eval o X.env
      standAt apos.atName
      let (f, first) ← holding [ov] (getMethod ov m pl)
      callWith pos f first (backTo pos (starEach (e :: es) X.env)) (backToKw pos (keywordEach kws X.env))) := by rfl) :
    PE X (.Call (.Attribute o m apos) (e :: es) kws pos) (tMethNS C m n ks.length sp gV E ta t tk) := by
  obtain ⟨f, fd, ps, g, hm, F, hb⟩ := M
  refine ⟨fun pins s σ H Q I h => ?_⟩
  refine PySem.W.methodCall_KW (pl := pl) (thn (he.run pins s σ H _ I h) fun u s1 ⟨x, H1, I1, rx, a, dx, fs, ex, ea, l, q⟩ => ?_) ht
  subst ex
  obtain rfl : u = Value.ref a := rx
  refine getmeth_ok I1 ea c hm l ?_
  refine PySem.W.callWith_KW (first := [.ref a]) (h₀ := X.base) I1.ok.mod.kin hm.kp hall (thn (ha.run pos pins s1 σ H1 _ I1 q) fun us s2 ⟨vs, H2, I2, r, q2⟩ => ?_) hpl hst
  refine thn (hkw.run pos pins s2 σ H2 _ I2 q2) fun ws s3 ⟨zs, H3, I3, rz, l1, l2, q3⟩ => ⟨I3.kIn, ?_⟩
  rw [hks]
  exact run_fnNS (us := .ref a :: us) (vs := .ref a :: vs) F hr hb (hx σ) I3 (.cons rfl r) rz (by rw [List.length_cons, l1]) l2 q3
/-- f(..) of the module -/
theorem pe_fMS (M : CallOk X.prog X.w X.K X.mg X.base x k sp dvs) (hr : Room k X.A) (hx : ∀ σ, PassesAt (L2N.CX X.prog X.w) X σ (E σ)) (ha : PA X (e :: es) t) (hg : Gl X x := by rfl)
    (hdb : (x == ("__debug__" : Str)) = false := by decide) (he : starEach (e :: es) X.env = (false, eval e X.env) :: starEach es X.env := by rfl) (hpl : (backTo pos (starEach es X.env)).any (·.1) = false := by rfl) :
    PE X (.Call (.Name x p) (e :: es) [] pos) (tCallSD sp dvs E t) := by
  obtain ⟨f, fd, ps, ds, h1, h2, h3, h4, h5⟩ := M
  exact pe_callSD h3 hr hg h1 h2 h4 h5 hx ha hdb he hpl
end
/-! ### methods called while an exception is handled -/
def MethHOk (P : Program) (w : World) (K : PySem.W.Frag) (mg : Str → Option Value) (base : Heap) (C : Addr) (m : Str) (k : Nat) (sp : Sp) : Prop :=
  ∃ (f : Addr) (fd : FuncData) (ps : List Str), Meth K C m f ∧ FnH P w K mg base (L2N.CX P w) k f fd ps sp ∧ Binds K fd ps []
section
variable {X : Cx} {C : Addr} {m : Str} {k : Nat} {sp : Sp} {E : L2.St → XK} {o e : Expr} {es : List Expr} {ta : TE} {t : TA} {pos apos : Pos} {pl : Sem Bool}
theorem passH {σ : L2.St} : PassesAt (L2N.CX X.prog X.w) X σ (fun _ _ _ => False) := fun _ _ _ _ _ _ c => by
  obtain ⟨_, _, _, _, _, _, _, _, _, _, _, _, z⟩ := c
  exact z.elim
theorem pe_mMH (M : MethHOk X.prog X.w X.K X.mg X.base C m k sp) (c : Cls X.K C) (hr : RoomH k X.A) (hc : HotC X) (he : PE X o ta) (ha : PA X (e :: es) t)
    (hst : starEach (e :: es) X.env = (false, eval e X.env) :: starEach es X.env := by rfl) (hpl : (backTo pos (starEach es X.env)).any (·.1) = false := by rfl)
    (ht : eval (.Call (.Attribute o m apos) (e :: es) [] pos) X.env = (do
      let ov ← eval o X.env
      standAt apos.atName
      let (f, first) ← holding [ov] (getMethod ov m pl)
      callWith pos f first (backTo pos (starEach (e :: es) X.env)) (backToKw pos (keywordEach [] X.env))) := by rfl) :
    PE X (.Call (.Attribute o m apos) (e :: es) [] pos) (tMethH C m sp (fun _ _ _ _ => False) ta t) := by
  obtain ⟨f, fd, ps, h1, h2, h3⟩ := M
  exact pe_methH (E := fun _ _ _ _ => False) he c h1 h2 hr hc h3 (fun _ => passH) ha hst hpl ht
theorem pe_mMH0 (M : MethHOk X.prog X.w X.K X.mg X.base C m k sp) (c : Cls X.K C) (hr : RoomH k X.A) (hc : HotC X) (he : PE X o ta)
    (ht : eval (.Call (.Attribute o m apos) [] [] pos) X.env = (do
      let ov ← eval o X.env
      standAt apos.atName
      let (f, first) ← holding [ov] (getMethod ov m pl)
      callWith pos f first (backTo pos (starEach [] X.env)) (backToKw pos (keywordEach [] X.env))) := by rfl) :
    PE X (.Call (.Attribute o m apos) [] [] pos) (tMethH C m sp (fun _ _ _ _ => False) ta tNil) := by
  obtain ⟨f, fd, ps, hm, F, hb⟩ := M
  refine ⟨fun pins s σ H Q I h => ?_⟩
  refine PySem.W.methodCall_KW (pl := pl) (thn (he.run pins s σ H _ I h) fun u s1 ⟨x, H1, I1, rx, a, dx, fs, ex, ea, l, q⟩ => ?_) ht
  subst ex
  obtain rfl : u = Value.ref a := rx
  refine getmeth_ok I1 ea c hm l ?_
  exact PySem.W.callWith_K0 (first := [.ref a]) I1.kIn hm.kp (run_fnH (E := fun _ _ _ _ => False) (us := [.ref a]) (vs := [.ref a]) F hr hc hb passH I1 (.cons rfl .nil) q)
end
end WH
set_option Elab.async false
set_option linter.all false
set_option maxRecDepth 100000
set_option maxHeartbeats 2000000
namespace WH
open PySem PySem.Spec PyProof.Rows L2
/-! ### a law's try: except C as e, with e's fields and isinstance -/
def errName : Err → Str
  | .noWord _ => "NoWord" | .noName => "NoName" | .short => "Short" | .deep => "Deep" | .sideShort => "SideShort" | .sideDeep => "SideDeep" | .byNought => "ByNought" | .badCell => "BadCell" | .full => "Full" | .tooLong => "TooLong" | .unfit => "Unfit" | .onlyWithin => "OnlyWithin" | .noForget => "NoForget"
/-- what an own error class must have for isinstance -/
structure ExcI (K : PySem.W.Frag) (D : Addr) : Prop where
  cl : (PySem.W.clsIn K D).isSome = true
  hg : PySem.W.findIn K (.ref D) "__getattribute__" = some (some (.builtin "BaseException.__getattribute__"))
  hk : PySem.W.findIn K (.ref D) "__getattr__" = some none
  hs : PySem.W.subIn K (.ref D) (.type "BaseException") = some true
  ha : PySem.W.findIn K (.ref D) "__class__" = some (some (.builtin "object.__class__"))
  hn : PySem.W.specialIn K (.builtin "object.__class__") "__get__" = some (some (.builtin "getset_descriptor.__get__"))
  ht : PySem.W.takesIn K (.builtin "object.__class__") = some true
  hm : PySem.W.mroIn K D (.type "object") = some true
/-- what a law's look at errors rests on: ex the classes of its except clauses, is those that it asks isinstance of -/
structure XL (K : PySem.W.Frag) (mg : Str → Option Value) (cls : Err → Addr) (ex is : List Str) : Prop where
  xf : ∀ e, XfC K (cls e)
  pl : ∀ e, PySem.W.findIn K (.ref (cls e)) "place" = some none
  wd : ∀ z, PySem.W.findIn K (.ref (cls (.noWord z))) "word" = some none
  gx : ∀ x ∈ ex, mg x = some (.ref (He.ga K x))
  gi : ∀ x ∈ is, mg x = some (.ref (He.ga K x))
  xm : ∀ x ∈ ex, ∀ e, PySem.W.exmOne K (.ref (cls e)) (.ref (He.ga K x)) = some (x == "WordError" || errName e == x)
  ei : ∀ e, ExcI K (cls e)
  gv : mg "ValueError" = none
  ki : ∀ x ∈ is, ∀ e, PySem.W.kitOne K (.ref (cls e)) (.ref (He.ga K x)) = some (x == "WordError" || errName e == x)
  kv : ∀ e, PySem.W.kitOne K (.ref (cls e)) (.type "ValueError") = some true
/-- e.n, e the exception that the suite holds -/
def tXe (K : PySem.W.Frag) (a : Addr) (cls : Value) (d : Option Addr) (n : Str) (te : TE) : TE := fun σ H Q => ∃ C, cls = .ref C ∧ XfC K C ∧ PySem.W.findIn K (.ref C) n = some none ∧ tXf a cls d C n te σ H Q
def rIsX (K : PySem.W.Frag) (cls : Value) (d : Option Addr) (a : Addr) : List V → Hp → VK → Prop := fun xs H Q => ∃ (D dd : Addr) (fs : List (Str × V)) (c : V) (cv : Value) (b : Bool), cls = .ref D ∧ ExcI K D ∧ d = some dd ∧ H dd = some (.xd fs) ∧ xs = [.ref a, c] ∧ (∀ u, RelV c u → u = cv) ∧ PySem.W.kitOne K (.ref D) cv = some b ∧ Q (.bl b) H
section
variable {X : Cx} {a : Addr} {oe : Obj} {cls : Value} {d : Option Addr} {pn : List (Addr × Obj)} {e : Expr} {te : TE} {pos : Pos} {n : Str}
theorem pe_xe (hz : L2N.Zn cls d oe) (hf : ∃ vs, oe.data = .fields vs) (he : PE (X.suite a ((a, oe) :: pn)) e te) (hb : attributeBase e n X.env (eval e X.env) = eval e X.env := by rfl) :
    PE (X.suite a ((a, oe) :: pn)) (.Attribute e n pos) (tXe X.K a cls d n te) := by
  refine ⟨fun pins s σ H Q I h => ?_⟩
  obtain ⟨C, rfl, T, hno, h⟩ := h
  exact (pe_xf T hno hz.zc hf he hb).run pins s σ H Q I h
theorem call_isX (hz : L2N.Zn cls d oe) (hf : ∃ vs, oe.data = .fields vs) : CallR (X.suite a ((a, oe) :: pn)) (.builtin "isinstance") (rIsX X.K cls d a) := by
  intro pins s σ H xs us Q I r h
  obtain ⟨D, dd, fs, c, cv, b, rfl, C, rfl, ea, rfl, hcv, e, q⟩ := h
  cases r with
  | cons rx rr =>
    cases rr with
    | cons rt rr =>
      cases rr
      cases rx
      have ec := hcv _ rt
      subst ec
      obtain ⟨ha, _⟩ := I.pin (a, oe) (List.mem_append.mpr (.inl List.mem_cons_self))
      obtain ⟨vs, hd⟩ := hf
      have hx : ObjOk X.prog X.w H s.heap dd (.xd fs) := I.hok dd _ ea
      obtain ⟨mA, hns, hr⟩ := hx
      obtain ⟨od, ho, hl⟩ := lookIn_ns hns
      have J : PySem.W.InstAt s.heap a oe D (some od) := ⟨ha, hz.1, by unfold PySem.W.notCls; rw [hd] <;> rfl, by rw [hz.2.1]; exact ho⟩
      exact PySem.W.kia_one (PySem.W.kitx_exc C.cl C.hg C.hk C.hs C.ha C.hn C.ht C.hm) I.kIn J e (fun z => nomatch z) fun tk => ⟨.bl b, H, I.kept (t' := tk) fun _ _ z => z, rfl, q⟩
end
section
variable {X : Cx} {x n : Str} {c : Value} {i : Nat} {body suite : List Stmt} {b₀ : Stmt} {np pos pos' : Pos} {tb : WX → TS} {ts : Addr → Value → Option Addr → TS} {Wout : WX} {tb' : WX → List (Addr × Obj) → (Value → Shared → Prop) → TS} {ts' : Addr → Obj → Value → Option Addr → List (Addr × Obj) → TS}
def tTryA (tb : WX → TS) (W : L2.Ends → WX) : TS := fun D σ H => tb (W D) D σ H
theorem ps_tryA (hs : X.stack = X.env :: X.outer) (hf : X.env.frame = some X.env.locals) (hN : X.N.Nodup) (hi : X.N[i]? = some n) (hln : X.env.kindOf n = some .local) (hc : Names X x c) (tk : L2N.Takes X Wout)
    (hb : ∀ (W : WX) (pn : List (Addr × Obj)) (xe : Value → Shared → Prop), L2N.Takes (X.tr pn xe) W → PassesOwn (model X.prog X.w) X.A X.env xe → PSs (X.tr pn xe) body (tb' W pn xe))
    (hsu : ∀ (a : Addr) (oe : Obj) (cls : Value) (d : Option Addr) (pn : List (Addr × Obj)), L2N.Zn cls d oe → (∃ vs, oe.data = .fields vs) → PSs (X.suite a ((a, oe) :: pn)) (b₀ :: suite) (ts' a oe cls d pn))
    (he : ∀ W pn xe, tb' W pn xe = tb W := by intro W pn xe; first | dsimp only [Cx.tr, cxOf] | rfl) (he2 : ∀ a oe cls d pn, ts' a oe cls d pn = ts a cls d := by intro a oe cls d pn; first | dsimp only [Cx.suite, cxOf] | rfl) :
    PS X (.Try body [.ExceptHandler (some (.Name x np)) (some n) (b₀ :: suite) pos'] [] [] pos) (tTryA tb (wAs X.K c i ts Wout)) :=
  L2N.ps_try_as (Wout := Wout) (ts := ts) (tb := tb) hs hf hN hi hln hc tk (fun W pn xe t p => by
    rw [← he W pn xe]
    exact hb W pn xe t p) (fun a oe cls d pn hz hv => by
    rw [← he2 a oe cls d pn]
    exact hsu a oe cls d pn hz hv)
end
/-! ### how the walk goes on -/
section
variable {K : PySem.W.Frag} {mg : Str → Option Value} {cls : Err → Addr} {ex is : List Str} {a d : Addr} {e : Err} {σ : L2.St} {H : Hp} {Q : VK} {n : Str} {te : TE} {place : Int} {fs : List (Str × V)} {v : V}
theorem w_tryA {tb : WX → TS} {W : L2.Ends → WX} {D : L2.Ends} (q : ∀ W', W' = W D → tb W' D σ H) : tTryA tb W D σ H := q _ rfl
theorem w_placeV {i : Nat} (Z : XL K mg cls ex is) (hσ : σ[i]? = some (some (.ref a))) (hd : H d = some (.xd fs)) (hl : fs.lookup ("place" : Str) = some v) (q : Q v H) : tXe K a (.ref (cls e)) (some d) "place" (tVar i) σ H Q :=
  ⟨_, rfl, Z.xf e, Z.pl e, _, hσ, rfl, rfl, d, fs, v, rfl, hd, hl, q⟩
theorem w_wordV {i : Nat} {z : Str} (Z : XL K mg cls ex is) (hσ : σ[i]? = some (some (.ref a))) (hd : H d = some (.xd fs)) (hl : fs.lookup ("word" : Str) = some v) (q : Q v H) : tXe K a (.ref (cls (.noWord z))) (some d) "word" (tVar i) σ H Q :=
  ⟨_, rfl, Z.xf _, Z.wd z, _, hσ, rfl, rfl, d, fs, v, rfl, hd, hl, q⟩
theorem w_isX {x : Str} (Z : XL K mg cls ex is) (hx : x ∈ is) (hd : H d = some (.xd fs)) (q : Q (.bl (x == "WordError" || errName e == x)) H) : rIsX K (.ref (cls e)) (some d) a [.ref a, .ref (He.ga K x)] H Q :=
  ⟨_, d, fs, _, .ref (He.ga K x), _, rfl, Z.ei e, rfl, hd, rfl, fun u h => by cases h; rfl, Z.ki x hx e, q⟩
theorem w_isV (Z : XL K mg cls ex is) (hd : H d = some (.xd fs)) (q : Q (.bl true) H) : rIsX K (.ref (cls e)) (some d) a [.ref a, .ty "ValueError"] H Q :=
  ⟨_, d, fs, _, .type "ValueError", _, rfl, Z.ei e, rfl, hd, rfl, fun u h => by cases h; rfl, Z.kv e, q⟩
/-- what the clause wishes: its class is told by the error's name -/
theorem w_as {x : Str} {i : Nat} {ts : Addr → Value → Option Addr → TS} {Wout : WX} {D : L2.Ends} {dd : Option Addr} (Z : XL K mg cls ex is) (hx : x ∈ ex) (he : (x == "WordError" || errName e == x) = true)
    (q : ∀ a, H a = none → ts a (.ref (cls e)) dd { nx := fun σ' H' => D.nx (σ'.set i none) H', rt := D.rt, bk := fun σ' H' => D.bk (σ'.set i none) H', ct := fun σ' H' => D.ct (σ'.set i none) H' } (σ.set i (some (.ref a))) H) : wAs K (.ref (He.ga K x)) i ts Wout D (.ref (cls e)) dd σ H :=
  ⟨true, by rw [Z.xm x hx e, he], fun _ => q, fun z => nomatch z⟩
end
end WH
set_option Elab.async false
set_option linter.all false
set_option maxRecDepth 100000
set_option maxHeartbeats 2000000
namespace WH
open PySem PySem.Spec PyProof.Rows L2
/-! ### what a text may change, kept -/
theorem sameT {H1 H2 H3 : Hp} (a : Same H1 H2) (b : Same H2 H3) : Same H1 H3 := fun x o e => b x o (a x o e)
/-- the house S is owned; G tells where all stands -/
def HOwnX (c : Cn) (p : Addr) (S : MS) (U : List Seen) (G : Gh) (H0 H : Hp) : Prop := ∃ hs, Sep H0 hs H ∧ HouseP c p S U G hs
section
variable {c : Cn} {p l a : Addr} {S : MS} {U : List Seen} {L : Ls} {G : Gh} {H0 H h : Hp} {K : PySem.W.Frag} {o u : HO}
theorem HOwnX.own (W : HOwnX c p S U G H0 H) : HOwn c p S U G.L H0 H := by
  obtain ⟨hs, s, P⟩ := W
  exact ⟨hs, G, s, P, rfl⟩
theorem HOwn.x (W : HOwn c p S U L H0 H) : ∃ G, G.L = L ∧ HOwnX c p S U G H0 H := by
  obtain ⟨hs, G, s, P, e⟩ := W
  exact ⟨G, e, hs, s, P⟩
theorem HOwnX.fresh (W : HOwnX c p S U G H0 H) (h : H a = none) : H0 a = none := W.own.fresh h
theorem HOwnX.same (W : HOwnX c p S U G H0 H) : Same H0 H := W.own.same
theorem HOwnX.newF (W : HOwnX c p S U G H0 H) (h : H a = none) : HOwnX c p S U G (upd H0 a u) (upd H a u) := by
  obtain ⟨hs, s, P⟩ := W
  exact ⟨hs, s.newF h, P⟩
theorem HOwnX.setF (W : HOwnX c p S U G H0 H) (h : H0 a = some o) : HOwnX c p S U G (upd H0 a u) (upd H a u) := by
  obtain ⟨hs, s, P⟩ := W
  exact ⟨hs, s.setF h, P⟩
theorem HOwnX.ents (W : HOwnX c p S U G H0 H) : All2 (entV c H) G.es S.book := by
  obtain ⟨hs, s, P⟩ := W
  exact P.ents.imp fun _ _ _ _ r => s.own _ _ r
theorem HOwnX.book (W : HOwnX c p S U G H0 H) : H G.L.lk = some (.lst (refs G.es)) := by
  obtain ⟨hs, s, P⟩ := W
  exact s.own _ _ P.book
theorem HOwnX.nd (W : HOwnX c p S U G H0 H) : (G.es.map (·.1)).Nodup := by
  obtain ⟨hs, s, P⟩ := W
  exact P.nd
theorem HOwnX.op (W : HOwnX c p S U G H0 H) : opV H G.ov S.opened := by
  obtain ⟨hs, s, P⟩ := W
  have q := P.op
  cases e : S.opened with
  | none =>
    rw [e] at q
    exact q
  | some x =>
    rw [e] at q
    obtain ⟨t, e1, r⟩ := q
    exact ⟨t, e1, s.own _ _ r⟩
/-- words and pairs that stand in a house, to be kept in sight -/
def keptU (S : MS) (es : List (Addr × Addr)) (ts : List Addr) (ov : V) : List Seen := (es.zip S.book).map (fun x => sE x.1 x.2) ++ ((ts.zip S.ties).map (fun x => sT x.1 x.2) ++ match S.opened, ov with
  | some x, .ref t => [sT t x]
  | _, _ => [])
theorem All2.zipm {α β : Type} {R : α → β → Prop} : ∀ {as : List α} {bs : List β}, All2 R as bs → ∀ x ∈ as.zip bs, R x.1 x.2
  | _, _, .nil, _, h => nomatch h
  | _, _, .cons r t, x, h => by
    rw [List.zip_cons_cons] at h
    rcases List.mem_cons.mp h with e | e
    · rw [e]
      exact r
    · exact t.zipm x e
theorem HOwnX.kept (W : HOwnX c p S U G H0 H) : ∃ ts, H G.L.li = some (.lst (ts.map V.ref)) ∧ ts.length = S.ties.length ∧ HOwnX c p S (keptU S G.es ts G.ov ++ U) G H0 H := by
  obtain ⟨hs, s, P⟩ := W
  obtain ⟨ts, t1, t2⟩ := P.ties
  refine ⟨ts, s.own _ _ t1, t2.len, hs, s, { P with un := fun u hu => ?_ }⟩
  rcases List.mem_append.mp hu with hu | hu
  · unfold keptU at hu
    rcases List.mem_append.mp hu with hu | hu
    · obtain ⟨x, hx, rfl⟩ := List.mem_map.mp hu
      exact ⟨x.2.beyond, x.2.now, P.ents.zipm x hx⟩
    · rcases List.mem_append.mp hu with hu | hu
      · obtain ⟨x, hx, rfl⟩ := List.mem_map.mp hu
        exact t2.zipm x hx
      · have q := P.op
        cases e : S.opened with
        | none =>
          rw [e] at hu
          exact nomatch hu
        | some x =>
          rw [e] at hu q
          obtain ⟨t, e1, r⟩ := q
          rw [e1] at hu
          obtain rfl : u = sT t x := by simpa using hu
          exact r
  · exact P.un u hu
/-- the tuple at t in J holds all of S; H0 is what stood before -/
def KeptAt (H0 : Hp) (S : MS) (es : List (Addr × Addr)) (ts : List Addr) (ov : V) (t : Addr) (J : Hp) : Prop := ∃ (a1 a2 a3 a4 a5 : Addr) (rs : List Addr), J t = some (.tup [.ref a1, .ref a2, .ref a3, .ref a4, .bl S.mode, ov, .ref a5]) ∧
  (J a1 = some (.lst (iv S.cells)) ∧ J a2 = some (.lst (iv S.stack)) ∧ J a3 = some (.lst (rs.map V.ref)) ∧ J a4 = some (.lst (iv S.told)) ∧ J a5 = some (.lst (ts.map V.ref))) ∧
  (H0 a1 = none ∧ H0 a2 = none ∧ H0 a4 = none ∧ H0 a5 = none) ∧ [a1, a2, a4, a5, a3].Nodup ∧ All2 (fun r x => J r = some (.tup [.ref x.1.1, optV x.2.beyond, .bl x.2.now])) rs (es.zip S.book) ∧
  es.length = S.book.length ∧ (es.map (·.1)).Nodup ∧ ts.length = S.ties.length ∧ (match S.opened with
    | none => ov = .non
    | some _ => ∃ b, ov = .ref b) ∧ Same H0 J
/-- a list of the frame becomes one that may be taken -/
theorem upd_del {J : Hp} {a : Addr} {o : HO} (h : J a = some o) : upd (del J a) a o = J := by
  funext b
  by_cases e : b = a
  · rw [e, upd_same, h]
  · rw [upd_ne e, del_ne e]
theorem same_del {H0 J : Hp} {a : Addr} (s : Same H0 J) (h : H0 a = none) : Same H0 (del J a) := fun b o e => by
  rw [del_ne (ne_of_none e h)]
  exact s b o e
theorem seen_list : ∀ {es : List (Addr × Addr)} {bk : List Ent}, es.length = bk.length → (∀ x ∈ es.zip bk, seenV c h (sE x.1 x.2)) → ∃ bk', All2 (entV c h) es bk' ∧ All2 (fun (e e' : Ent) => ∃ b n, e' = { e with beyond := b, now := n }) bk bk'
  | [], [], _, _ => ⟨[], .nil, .nil⟩
  | a :: es, e :: bk, hl, hs => by
    obtain ⟨bk', h1, h2⟩ := seen_list (es := es) (bk := bk) (by simpa using hl) fun x hx => hs x (by rw [List.zip_cons_cons]; exact List.mem_cons_of_mem _ hx)
    obtain ⟨b, n, r⟩ := hs (a, e) (by rw [List.zip_cons_cons]; exact List.mem_cons_self)
    exact ⟨_ :: bk', .cons r h1, .cons ⟨b, n, rfl⟩ h2⟩
theorem seen_ties : ∀ {ts : List Addr} {l : List (Str × Int)}, ts.length = l.length → (∀ x ∈ ts.zip l, seenV c h (sT x.1 x.2)) → All2 (tieV h) ts l
  | [], [], _, _ => .nil
  | a :: ts, e :: l, hl, hs => .cons (hs (a, e) (by rw [List.zip_cons_cons]; exact List.mem_cons_self)) (seen_ties (by simpa using hl) fun x hx => hs x (by rw [List.zip_cons_cons]; exact List.mem_cons_of_mem _ hx))
theorem HouseP.book_new {es : List (Addr × Addr)} {bk : List Ent} (P : HouseP c p S U G h) (hl : h l = none) (he : All2 (entV c h) es bk) (nd : (es.map (·.1)).Nodup) :
    HouseP c p { S with book := bk } U { G with L := { G.L with lk := l }, es := es } (upd (upd h l (.lst (refs es))) p (.ins c.CH G.dx (hF { S with book := bk } { G with L := { G.L with lk := l }, es := es }))) := by
  have P1 := P.beside (o := .lst (refs es)) hl
  have nl : ∀ {a : Addr} {ys' : List V}, upd h l (.lst (refs es)) a = some (.lst ys') → upd (upd h l (.lst (refs es))) p (.ins c.CH G.dx (hF { S with book := bk } { G with L := { G.L with lk := l }, es := es })) a = some (.lst ys') := fun q => by
    rw [upd_ne (ne_of q P1.ob fun z => ins_lst z.symm)]
    exact q
  have fr : ∀ {a : Addr} {ys' : List V}, h a = some (.lst ys') → l ≠ a := fun q z => by
    rw [z, q] at hl
    cases hl
  obtain ⟨ts, t1, t2⟩ := P.ties
  have nn := ne7 P.ne
  exact {
    ob := upd_same
    cells := nl P1.cells
    stack := nl P1.stack
    back := nl P1.back
    told := nl P1.told
    words := nl P1.words
    ties := by
      obtain ⟨ts, h1, h2⟩ := P1.ties
      exact ⟨ts, nl h1, ties_put P1.ob ins_tup h2⟩
    op := opV_put P1.ob ins_tup P1.op
    book := nl upd_same
    ents := ents_put P1.ob (insH_insE c) (he.imp fun _ _ _ _ r => same_new hl _ _ r)
    nd := nd
    ne := by
      have h1 := P.ne
      simp only [List.nodup_cons, List.mem_cons, not_or, List.not_mem_nil, not_false_eq_true, and_true, List.nodup_nil] at h1 ⊢
      have a1 := fr P.cells
      have a2 := fr P.stack
      have a3 := fr P.back
      have a4 := fr P.told
      have a5 := fr P.words
      have a6 := fr t1
      have a7 := fr P.book
      simp_all [Ne.symm]
      try (repeat' constructor) <;> (intro z; simp_all)
    un := un_put P1.ob (insH_insE c) ins_tup P1.un }
theorem HouseP.ties_new {ts : List Addr} {tl : List (Str × Int)} (P : HouseP c p S U G h) (hl : h l = none) (ht : All2 (tieV h) ts tl) :
    HouseP c p { S with ties := tl } U { G with L := { G.L with li := l } } (upd (upd h l (.lst (ts.map V.ref))) p (.ins c.CH G.dx (hF { S with ties := tl } { G with L := { G.L with li := l } }))) := by
  have P1 := P.beside (o := .lst (ts.map V.ref)) hl
  have nl : ∀ {a : Addr} {ys' : List V}, upd h l (.lst (ts.map V.ref)) a = some (.lst ys') → upd (upd h l (.lst (ts.map V.ref))) p (.ins c.CH G.dx (hF { S with ties := tl } { G with L := { G.L with li := l } })) a = some (.lst ys') := fun q => by
    rw [upd_ne (ne_of q P1.ob fun z => ins_lst z.symm)]
    exact q
  have fr : ∀ {a : Addr} {ys' : List V}, h a = some (.lst ys') → l ≠ a := fun q z => by
    rw [z, q] at hl
    cases hl
  obtain ⟨ts0, t1, t2⟩ := P.ties
  have nn := ne7 P.ne
  exact {
    ob := upd_same
    cells := nl P1.cells
    stack := nl P1.stack
    back := nl P1.back
    told := nl P1.told
    words := nl P1.words
    ties := ⟨ts, nl upd_same, ties_put P1.ob ins_tup (ht.imp fun _ _ _ _ r => same_new hl _ _ r)⟩
    op := opV_put P1.ob ins_tup P1.op
    book := nl P1.book
    ents := ents_put P1.ob (insH_insE c) P1.ents
    nd := P.nd
    ne := by
      have h1 := P.ne
      simp only [List.nodup_cons, List.mem_cons, not_or, List.not_mem_nil, not_false_eq_true, and_true, List.nodup_nil] at h1 ⊢
      have a1 := fr P.cells
      have a2 := fr P.stack
      have a3 := fr P.back
      have a4 := fr P.told
      have a5 := fr P.words
      have a6 := fr t1
      have a7 := fr P.book
      simp_all [Ne.symm]
      try (repeat' constructor) <;> (intro z; simp_all)
    un := un_put P1.ob (insH_insE c) ins_tup P1.un }
/-! stores -/
variable {R : Hp → Prop} {xs : List Int}
theorem x_st_cells (W : HOwnX c p S U G (upd H0 l (.lst (iv xs))) H) (h0 : H0 l = none) (T : HCls K c) (q : ∀ H1 G1, HOwnX c p { S with cells := xs } U G1 H0 H1 → R H1) : rSfld K "cells" (.ref l) (.ref p) H R := w_st_cells W.own h0 T fun H1 W1 => by
  obtain ⟨G1, _, X⟩ := W1.x
  exact q H1 G1 X
theorem x_st_stack (W : HOwnX c p S U G (upd H0 l (.lst (iv xs))) H) (h0 : H0 l = none) (T : HCls K c) (q : ∀ H1 G1, HOwnX c p { S with stack := xs } U G1 H0 H1 → R H1) : rSfld K "stack" (.ref l) (.ref p) H R := w_st_stack W.own h0 T fun H1 W1 => by
  obtain ⟨G1, _, X⟩ := W1.x
  exact q H1 G1 X
theorem x_st_told (W : HOwnX c p S U G (upd H0 l (.lst (iv xs))) H) (h0 : H0 l = none) (T : HCls K c) (q : ∀ H1 G1, HOwnX c p { S with told := xs } U G1 H0 H1 → R H1) : rSfld K "told" (.ref l) (.ref p) H R := w_st_told W.own h0 T fun H1 W1 => by
  obtain ⟨G1, _, X⟩ := W1.x
  exact q H1 G1 X
theorem x_st_ties {ts : List Addr} {tl : List (Str × Int)} (W : HOwnX c p S U G (upd H0 l (.lst (ts.map V.ref))) H) (h0 : H0 l = none) (T : HCls K c) (hl : ts.length = tl.length) (ht : ∀ x ∈ ts.zip tl, sT x.1 x.2 ∈ U) (q : ∀ H1 G1, HOwnX c p { S with ties := tl } U G1 H0 H1 → R H1) : rSfld K "ties" (.ref l) (.ref p) H R := by
  obtain ⟨hs, s, P⟩ := W
  have n := s.not' (upd_same (H := H0) (a := l) (o := .lst (ts.map V.ref)))
  refine ⟨p, c.CH, G.dx, hF S G, rfl, s.own _ _ P.ob, T.cH, T.nH _ (by decide +kernel), hF_len, q _ { G with L := { G.L with li := l } } ?_⟩
  rw [hP_ties]
  have s1 := s.take h0
  have hp : upd hs l (.lst (ts.map V.ref)) p = some (.ins c.CH G.dx (hF S G)) := same_new n _ _ P.ob
  exact ⟨_, s1.put hp, P.ties_new n (seen_ties hl fun x hx => P.un _ (ht x hx))⟩
theorem x_st_book {es : List (Addr × Addr)} {bk : List Ent} (W : HOwnX c p S U G (upd H0 l (.lst (refs es))) H) (h0 : H0 l = none) (T : HCls K c) (hl : es.length = bk.length) (nd : (es.map (·.1)).Nodup) (ht : ∀ x ∈ es.zip bk, sE x.1 x.2 ∈ U)
    (q : ∀ H1 G1 bk', G1.es = es → All2 (fun (e e' : Ent) => ∃ b n, e' = { e with beyond := b, now := n }) bk bk' → HOwnX c p { S with book := bk' } U G1 H0 H1 → R H1) : rSfld K "book" (.ref l) (.ref p) H R := by
  obtain ⟨hs, s, P⟩ := W
  have n := s.not' (upd_same (H := H0) (a := l) (o := .lst (refs es)))
  obtain ⟨bk', b1, b2⟩ := seen_list hl fun x hx => P.un _ (ht x hx)
  refine ⟨p, c.CH, G.dx, hF S G, rfl, s.own _ _ P.ob, T.cH, T.nH _ (by decide +kernel), hF_len, q _ { G with L := { G.L with lk := l }, es := es } bk' rfl b2 ?_⟩
  rw [hP_book]
  have s1 := s.take h0
  have hp : upd hs l (.lst (refs es)) p = some (.ins c.CH G.dx (hF S G)) := same_new n _ _ P.ob
  exact ⟨_, s1.put hp, P.book_new n b1 nd⟩
theorem x_st_mode {x : Bool} (W : HOwnX c p S U G H0 H) (T : HCls K c) (q : ∀ H1 G1, HOwnX c p { S with mode := x } U G1 H0 H1 → R H1) : rSfld K "mode" (.bl x) (.ref p) H R := w_st_mode W.own T fun H1 W1 _ => by
  obtain ⟨G1, _, X⟩ := W1.x
  exact q H1 G1 X
theorem x_st_opened {v : V} {o : Option (Str × Int)} (W : HOwnX c p S U G H0 H) (T : HCls K c) (hv : match o with
    | none => v = .non
    | some x => ∃ b, v = .ref b ∧ sT b x ∈ U) (q : ∀ H1 G1, HOwnX c p { S with opened := o } U G1 H0 H1 → R H1) : rSfld K "opened" v (.ref p) H R := by
  obtain ⟨hs, s, P⟩ := W
  refine ⟨p, c.CH, G.dx, hF S G, rfl, s.own _ _ P.ob, T.cH, T.nH _ (by decide +kernel), hF_len, q _ { G with ov := v } ?_⟩
  rw [hP_opened]
  refine ⟨_, s.put P.ob, P.op_set (o := o) ?_⟩
  cases o with
  | none => exact hv
  | some x =>
    obtain ⟨b, e, hb⟩ := hv
    exact ⟨b, e, P.un _ hb⟩
theorem x_st_beyond {b : Addr × Addr} {i : Nat} {e : Ent} {x : Option Int} (W : HOwnX c p S U G H0 H) (T : HCls K c) (hb : G.es[i]? = some b) (he : S.book[i]? = some e) (q : ∀ H1, HOwnX c p { S with book := S.book.set i { e with beyond := x } } U G H0 H1 → R H1) : rSfld K "beyond" (optV x) (.ref b.1) H R := by
  obtain ⟨hs, s, P⟩ := W
  obtain ⟨b', h3, h4⟩ := P.ents.get he
  rw [hb] at h3
  cases h3
  refine ⟨b.1, c.CE, b.2, eF e, rfl, s.own _ _ h4, T.cE, T.nE _ (by decide +kernel), eF_len, q _ ?_⟩
  rw [eP_beyond]
  exact ⟨_, s.put h4, P.ent_set (be := x) (n := e.now) hb he⟩
theorem x_st_now {b : Addr × Addr} {i : Nat} {e : Ent} {x : Bool} (W : HOwnX c p S U G H0 H) (T : HCls K c) (hb : G.es[i]? = some b) (he : S.book[i]? = some e) (q : ∀ H1, HOwnX c p { S with book := S.book.set i { e with now := x } } U G H0 H1 → R H1) : rSfld K "is_now" (.bl x) (.ref b.1) H R := by
  obtain ⟨hs, s, P⟩ := W
  obtain ⟨b', h3, h4⟩ := P.ents.get he
  rw [hb] at h3
  cases h3
  refine ⟨b.1, c.CE, b.2, eF e, rfl, s.own _ _ h4, T.cE, T.nE _ (by decide +kernel), eF_len, q _ ?_⟩
  rw [eP_now]
  exact ⟨_, s.put h4, P.ent_set (be := e.beyond) (n := x) hb he⟩
end
end WH
set_option Elab.async false
set_option linter.all false
set_option maxRecDepth 100000
set_option maxHeartbeats 2000000
namespace WH
open PySem PySem.Spec PyProof.Rows L2 L2H
local macro_rules | `(tactic| walk_at "w") => `(tactic| repeat (with_reducible first
  | (refine is_te ?_; first | refine w_var (by with_unfolding_all rfl) ?_ | refine w_c ?_ | refine w_op ?_ | refine w_cb ?_ | refine w_call ?_ | refine w_self (by assumption) (by with_unfolding_all rfl) (by decide +kernel) ?_ | refine w_ife ?_ | (refine is_fld ?_; first | refine w_cells (by assumption) (by assumption) (by with_unfolding_all rfl) ?_ | refine w_stack (by assumption) (by assumption) (by with_unfolding_all rfl) ?_ | refine w_back (by assumption) (by assumption) (by with_unfolding_all rfl) ?_ | refine w_most_cells (by assumption) (by assumption) (by with_unfolding_all rfl) ?_ | refine w_most_stack (by assumption) (by assumption) (by with_unfolding_all rfl) ?_ | refine w_book (by assumption) (by assumption) (by with_unfolding_all rfl) ?_ | refine w_spot (by assumption) (by assumption) (by with_unfolding_all rfl) ?_ | refine w_left (by assumption) (by assumption) (by with_unfolding_all rfl) ?_ | refine w_at (by assumption) (by assumption) (by with_unfolding_all rfl) ?_ | refine w_told (by assumption) (by assumption) (by with_unfolding_all rfl) ?_ | refine w_words (by assumption) (by assumption) (by with_unfolding_all rfl) ?_ | refine w_mode (by assumption) (by assumption) (by with_unfolding_all rfl) ?_ | refine w_ties (by assumption) (by assumption) (by with_unfolding_all rfl) ?_ | refine w_many_deeds (by assumption) (by assumption) (by with_unfolding_all rfl) ?_ | refine w_steps (by assumption) (by assumption) (by with_unfolding_all rfl) ?_ | refine w_fld ?_) | refine w_lst ?_ | refine w_tup ?_ | refine w_bm ?_ | refine w_bm0 ?_ | refine w_un ?_ | refine w_sl ?_ | refine w_chain ?_)
  | (refine is_ta ?_; first | refine w_cons ?_ | refine w_nil ?_)
  | refine w_gn ?_
  | (refine is_ts ?_; first | refine w_seq ?_ | refine w_asg ?_ | refine w_ifs ?_ | refine w_drop ?_ | refine w_next ?_ | refine w_ret ?_ | refine w_retN ?_ | refine w_sfld ?_ | refine w_augS ?_ | refine w_aug_spot (by assumption) (by assumption) (by with_unfolding_all rfl) ?_ | refine w_aug_left (by assumption) (by assumption) (by with_unfolding_all rfl) ?_ | refine w_aug_at (by assumption) (by assumption) (by with_unfolding_all rfl) ?_)
  | (refine is_tt ?_; first | refine w_test ?_ | refine w_and ?_ | refine w_or ?_ | refine w_not ?_ | refine w_tB ?_)
  | (refine is_r2 ?_; first | refine w_i0 ?_ | refine w_eqt ?_ | refine w_eqi ?_ | refine w_net ?_ | refine w_nei ?_ | refine w_isN ?_ | refine w_notN ?_ | refine w_rAdd ?_ | refine w_rSub ?_ | refine w_ipI ?_)
  | (refine is_ty ?_; first | refine w_tyS' (by assumption) ?_ | refine w_tyC (by assumption) ?_ | refine w_tyB (by assumption) ?_ | refine w_tyT (by assumption) ?_ | refine w_tyK (by assumption) ?_ | refine w_tyI (by assumption) ?_)
  | (refine is_ln ?_; first | refine w_lnS (by assumption) ?_ | refine w_lnC (by assumption) ?_ | refine w_lnB (by assumption) ?_ | refine w_lnT (by assumption) ?_ | refine w_lnW (by assumption) ?_ | refine w_lnK (by assumption) ?_)
  | (refine is_rf ?_; first | refine e_kind (by assumption) (by assumption) ?_ | refine e_name (by assumption) (by assumption) ?_ | refine e_number (by assumption) (by assumption) ?_ | refine e_start (by assumption) (by assumption) ?_ | refine e_end (by assumption) (by assumption) ?_ | refine e_was (by assumption) (by assumption) ?_ | refine e_worth (by assumption) (by assumption) ?_ | refine e_beyond (by assumption) (by assumption) ?_ | refine e_is_now (by assumption) (by assumption) ?_)
  | refine w_bl ?_ | refine w_mkw ?_ | refine w_mknw ?_ | refine w_part1 ?_ | refine w_neg ?_ | refine w_smk ?_ | refine w_smkn ?_ | refine w_noP ?_ | refine w_part ?_ | refine w_gcut ?_ | refine w_gsub ?_))

section
variable {P : Program} {w : World} {K : PySem.W.Frag} {mg : Str → Option Value} {base : Heap} {c : Cn} {cls : Err → Addr}
theorem x_opened {p : Addr} {S : MS} {U : List Seen} {G : Gh} {H0 H : Hp} {Q : VK} (W : HOwnX c p S U G H0 H) (T : HCls K c) (q : Q G.ov H) : rFld K "opened" (.ref p) H Q := by
  obtain ⟨hs, s, P⟩ := W
  exact ⟨p, c.CH, G.dx, hF S G, G.ov, rfl, s.own _ _ P.ob, T.cH, T.nH _ (by decide +kernel), hF_opened, q⟩
/-- what is kept, and told of -/
def spTaken (c : Cn) : Sp := fun vs H Q E => ∃ (p : Addr) (S : MS) (U : List Seen) (L : Ls) (H0 : Hp), vs = [.ref p] ∧ HOwn c p S U L H0 H ∧ S.book.length ≤ LIM ∧
  ∀ H1 J G t es ts ov, HOwnX c p S (keptU S es ts ov ++ U) G J H1 → KeptAt H0 S es ts ov t J → Q (.ref t) H1
theorem sc_taken : FnScope ["self", "rows", "entry"] ["self"] (defScope (inClass (top 48) 9)) := ⟨rfl, rfl, rfl, by decide +kernel, rfl, by decide +kernel, by decide +kernel⟩
theorem ok_taken {f : Addr} {fd : FuncData} (F : FnT K "taken" "House.taken" (inClass (top 48) 9) [] [] f fd) (g : Gb w K mg) (T : HCls K c) (R : Er P w K mg base cls) : FnOk P w K mg base (L2N.CX P w) 2 f fd ["self"] (spTaken c) := by
  refine F.ok sc_taken (fun vs H Q E h => ?_) (fun cdv A outer s H vs Q E hr h => ?_)
  · obtain ⟨p, S, U, L, H0, rfl, _⟩ := h
    rfl
  · obtain ⟨p, S, U, L, H0, rfl, W, hz_, k⟩ := h
    try dsimp only at k
    refine ⟨_, (pss_cons (ps_setLc (i := 1) (te := tTup (tCons (tVar 2) (tCons (tFld K (tVar 2) "beyond") (tCons (tFld K (tVar 2) "is_now") tNil)))) (own := [("entry", 2)]) (by rfl) sc_taken.nd rfl rfl (sw_true rfl rfl rfl (by decide +kernel)) (pi_list (pe_fld (pv 0) rfl)) (blkOk_by (own := [("entry", 2)]) (N := ["self", "rows", "entry"]) (sc := defScope (inClass (top 48) 9)) (by decide +kernel)) (fun _ _ _ _ _ => (pg_name (i := 2) sc_taken.nd rfl (Or.inl rfl))) (fun _ _ _ _ _ => pts_nil) (fun _ _ _ _ _ => (pe_tup (pa_cons (pv 2) (pa_cons (pe_fld (pv 2) rfl) (pa_cons (pe_fld (pv 2) rfl) pa_nil))))))
      (pss_one (ps_ret (pe_tup (pa_cons (pe_callTy call_lso (by rfl) g.list (by decide +kernel) (pa_cons (pe_fld (pv 0) rfl) pa_nil)) (pa_cons (pe_callTy call_lso (by rfl) g.list (by decide +kernel) (pa_cons (pe_fld (pv 0) rfl) pa_nil)) (pa_cons (pv 1) (pa_cons (pe_callTy call_lso (by rfl) g.list (by decide +kernel) (pa_cons (pe_fld (pv 0) rfl) pa_nil)) (pa_cons (pe_fld (pv 0) rfl) (pa_cons (pe_fld (pv 0) rfl) (pa_cons (pe_callTy call_lso (by rfl) g.list (by decide +kernel) (pa_cons (pe_fld (pv 0) rfl) pa_nil)) pa_nil))))))))))), ?_⟩
    try dsimp only [cxOf_K]
    obtain ⟨G, eG, X⟩ := W.x
    subst eG
    obtain ⟨ts, t1, tl, X⟩ := X.kept
    clear W
    have hel : G.es.length = S.book.length := X.ents.len
    have nd := X.nd
    have op0 := X.op
    have s00 : Same H0 H := X.same
    generalize hU : keptU S G.es ts G.ov ++ U = U' at X
    have W := X.own
    walk_at "w"
    show tFld _ _ _ _ _ _
    walk_at "w"
    refine ⟨G.L.lk, rfl, ⟨_, SqL.of X.book⟩, fun D hD => ?_⟩
    have hD0 := X.fresh hD
    have hlen : (refs G.es).length = S.book.length := (List.length_map ..).trans hel
    have t10 : H G.L.li = some (.lst (ts.map V.ref)) := t1
    refine lc_list (xs := refs G.es) (fun i H' => i ≤ S.book.length ∧ ∃ (rs : List Addr) (J : Hp), rs.length = i ∧ HOwnX c p S U' G J H' ∧ J D = some (.lst (rs.map V.ref)) ∧ Same H0 J ∧ H' G.L.li = some (.lst (ts.map V.ref)) ∧ All2 (fun r x => J r = some (.tup [.ref x.1.1, optV x.2.beyond, .bl x.2.now])) rs ((G.es.zip S.book).take i)) ?_ (fun i H' _ h => ?_) (fun i x H' hx h => ?_) (fun H' h => ?_)
    · exact ⟨Nat.zero_le _, [], _, rfl, X.newF hD, upd_same, same_new hD0, same_new hD _ _ t10, .nil⟩
    · obtain ⟨_, rs, J, _, X', _⟩ := h
      exact SqL.of X'.book
    · obtain ⟨hi, rs, J, hrs, X', hJ, sJ, t2, rw_⟩ := h
      have hi2 : i < S.book.length := by
        obtain ⟨l1, _⟩ := List.getElem?_eq_some_iff.mp hx
        omega
      have he : S.book[i]? = some S.book[i] := List.getElem?_eq_getElem hi2
      obtain ⟨b1, g2, he1⟩ := X'.ents.get he
      have hx2 : x = .ref b1.1 := by
        unfold refs at hx
        rw [List.getElem?_map, g2] at hx
        exact (Option.some.inj hx).symm
      subst hx2
      have hz : (G.es.zip S.book)[i]? = some (b1, S.book[i]) := by
        rw [List.getElem?_zip_eq_some]
        exact ⟨g2, he⟩
      generalize S.book[i] = e at he1 he hz
      refine w_gn ⟨rfl, ?_⟩
      refine w_tYes ?_
      rw [if_pos rfl]
      walk_at "w"
      refine ⟨by show 3 ≤ sizeLine; decide, fun t ht => ?_⟩
      have htJ := X'.fresh ht
      have hDt : D ≠ t := ne_of_none hJ htJ
      refine ⟨rs.map V.ref, ?_, ?_, hi2, rs ++ [t], upd (upd J t (.tup [.ref b1.1, optV e.beyond, .bl e.now])) D (.lst ((rs ++ [t]).map V.ref)), ?_, ?_, upd_same, ?_, (upd_ne (ne_of_none t10 hD)).trans (same_new ht _ _ t2), ?_⟩
      · rw [upd_ne hDt]
        exact X'.same _ _ hJ
      · rw [List.length_map, hrs]
        exact lim_lt (Nat.lt_of_lt_of_le hi2 hz_)
      · rw [List.length_append, hrs]
        rfl
      · have X2 := (X'.newF (u := .tup [.ref b1.1, optV e.beyond, .bl e.now]) ht).setF (a := D) (o := .lst (rs.map V.ref)) (u := .lst ((rs ++ [t]).map V.ref)) (by rw [upd_ne hDt]; exact hJ)
        rw [List.map_append] at X2 ⊢
        exact X2
      · intro a o q
        rw [upd_ne (ne_of_none q hD0), upd_ne (ne_of_none (sJ _ _ q) htJ)]
        exact sJ _ _ q
      · have e1 : (G.es.zip S.book).take (i + 1) = (G.es.zip S.book).take i ++ [(b1, e)] := by
          rw [List.take_succ, hz]
          rfl
        rw [e1]
        refine (rw_.imp fun r y _ _ q => ?_).app (.cons ?_ .nil)
        · rw [upd_ne (ne_of q hJ fun z => by cases z), upd_ne (ne_of_none q htJ)]
          exact q
        · rw [upd_ne hDt.symm]
          exact upd_same
    · obtain ⟨_, rs, J, hrs, X', hJ, sJ, t2, rw_⟩ := h
      have e1 : (G.es.zip S.book).take (refs G.es).length = G.es.zip S.book := List.take_of_length_le (by rw [hlen, List.length_zip]; omega)
      rw [e1] at rw_
      have W' := X'.own
      clear X W
      walk_at "w"
      refine w_lso (SqL.of W'.cells) fun l1 hl1 => ?_
      have f1 := X'.fresh hl1
      have X1 := X'.newF (u := .lst (iv S.cells)) hl1
      have W1 := X1.own
      clear W' X'
      replace t2 := same_new (o := .lst (iv S.cells)) hl1 _ _ t2
      generalize upd H' l1 (.lst (iv S.cells)) = H1 at X1 W1 t2 ⊢
      walk_at "w"
      refine w_lso (SqL.of W1.stack) fun l2 hl2 => ?_
      have f2 := X1.fresh hl2
      have X2 := X1.newF (u := .lst (iv S.stack)) hl2
      have W2 := X2.own
      clear W1 X1
      replace t2 := same_new (o := .lst (iv S.stack)) hl2 _ _ t2
      generalize upd H1 l2 (.lst (iv S.stack)) = H2 at X2 W2 t2 ⊢
      walk_at "w"
      refine w_lso (SqL.of W2.told) fun l3 hl3 => ?_
      have f3 := X2.fresh hl3
      have X3 := X2.newF (u := .lst (iv S.told)) hl3
      have W3 := X3.own
      clear W2 X2
      replace t2 := same_new (o := .lst (iv S.told)) hl3 _ _ t2
      generalize upd H2 l3 (.lst (iv S.told)) = H3 at X3 W3 t2 ⊢
      walk_at "w"
      refine x_opened X3 T ?_
      walk_at "w"
      have t3 := t2
      refine w_lso (SqL.of t3) fun l4 hl4 => ?_
      have f4 := X3.fresh hl4
      have X4 := X3.newF (u := .lst (ts.map V.ref)) hl4
      clear W3 X3 t3
      walk_at "w"
      refine ⟨by show 7 ≤ sizeLine; decide, fun t ht => ?_⟩
      have f5 := X4.fresh ht
      have X5 := X4.newF (u := .tup [.ref l1, .ref l2, .ref D, .ref l3, .bl S.mode, G.ov, .ref l4]) ht
      rw [← hU] at X5
      have n1 := ne_of_none hJ f1
      have s1 := same_new (o := .lst (iv S.cells)) f1
      have s2 := same_new (o := .lst (iv S.stack)) f2
      have s3 := same_new (o := .lst (iv S.told)) f3
      have s4 := same_new (o := .lst (ts.map V.ref)) f4
      have s5 := same_new (o := .tup [.ref l1, .ref l2, .ref D, .ref l3, .bl S.mode, G.ov, .ref l4]) f5
      have sD := s4 _ _ (s3 _ _ (s2 _ _ (s1 _ _ hJ)))
      have a1 := s3 _ _ (s2 _ _ (upd_same (H := J) (a := l1) (o := .lst (iv S.cells))))
      have a2 := s3 _ _ (upd_same (H := upd J l1 (.lst (iv S.cells))) (a := l2) (o := .lst (iv S.stack)))
      have a3 := upd_same (H := upd (upd J l1 (.lst (iv S.cells))) l2 (.lst (iv S.stack))) (a := l3) (o := .lst (iv S.told))
      have m21 : l1 ≠ l2 := ne_of_none (upd_same (H := J) (a := l1) (o := .lst (iv S.cells))) f2
      have m31 : l1 ≠ l3 := ne_of_none (s2 _ _ (upd_same (H := J) (a := l1) (o := .lst (iv S.cells)))) f3
      have m32 : l2 ≠ l3 := ne_of_none (upd_same (H := upd J l1 (.lst (iv S.cells))) (a := l2) (o := .lst (iv S.stack))) f3
      have m41 := ne_of_none a1 f4
      have m42 := ne_of_none a2 f4
      have m43 := ne_of_none a3 f4
      have mD2 := ne_of_none (s1 _ _ hJ) f2
      have mD3 := ne_of_none (s2 _ _ (s1 _ _ hJ)) f3
      have mD4 := ne_of_none (s3 _ _ (s2 _ _ (s1 _ _ hJ))) f4
      have sall : Same J _ := sameT s1 (sameT s2 (sameT s3 (sameT s4 s5)))
      have fr0 : ∀ {a : Addr}, J a = none → H0 a = none := fun {a} q => sJ.free q
      have j2 : J l2 = none := s1.free f2
      have j3 : J l3 = none := s1.free (s2.free f3)
      have j4 : J l4 = none := s1.free (s2.free (s3.free f4))
      refine k _ _ _ _ _ _ _ X5 ⟨l1, l2, D, l3, l4, rs, upd_same, ⟨s5 _ _ (s4 _ _ a1), s5 _ _ (s4 _ _ a2), s5 _ _ sD, s5 _ _ (s4 _ _ a3), s5 _ _ upd_same⟩, ⟨fr0 f1, fr0 j2, fr0 j3, fr0 j4⟩, ?_, rw_.imp fun _ _ _ _ q => sall _ _ q, hel, nd, tl, ?_, sameT sJ sall⟩
      · simp only [List.nodup_cons, List.mem_cons, not_or, List.not_mem_nil, not_false_eq_true, and_true, List.nodup_nil]
        exact ⟨⟨m21, m31, m41, n1.symm⟩, ⟨m32, m42, mD2.symm⟩, ⟨m43, mD3.symm⟩, mD4.symm⟩
      · cases e : S.opened with
        | none =>
          rw [e] at op0
          exact op0
        | some x =>
          rw [e] at op0
          obtain ⟨b, q, _⟩ := op0
          exact ⟨b, q⟩
/-! ### defs called while an exception is handled -/
theorem FunD_okH {x qual : Str} {params : Arguments} {body : List Stmt} {scope : Scope} {dvs : List V} {kws : List (Str × V)} {f : Addr} {fd : FuncData} {CX : CXT} {N ps : List Str} {k : Nat} {sp : Sp} (F : FunD K x qual params body scope dvs kws f fd) (S : FnScope N ps scope) (len : ∀ vs H Q E, sp vs H Q E → vs.length = ps.length)
    (hbody : ∀ (cdv : Value) (A : Around) (outer : List Env) (s : Shared) (H : Hp) (vs : List V) (Q : VK) (E : XK) (p : Addr × Obj), Hot1 A p → RoomH k (A.deeper (envOfC qual scope s.heap.objs.size f cdv)) → sp vs H Q E →
      ∃ t, PSs (cxH CX P w K mg base N qual scope f cdv A outer s H E p) body t ∧ t { nx := fun _ H' => Q .non H', rt := Q } (start N vs) H) : FnH P w K mg base CX (k + 1) f fd ps sp := by
  obtain ⟨oc, od, dV, kV, doc, pm, an, cdv, ct, osl, rfl, lk, hcd, _, _⟩ := F.ex
  exact fn_ofH lk hcd S len fun A outer s H vs Q E p hot hr hsp => hbody cdv A outer s H vs Q E p hot hr hsp
theorem cxH_K {CX : CXT} {N : List Str} {qual : Str} {scope : Scope} {f : Addr} {cd : Value} {A : Around} {outer : List Env} {s : Shared} {H : Hp} {E : XK} {p : Addr × Obj} : (cxH CX P w K mg base N qual scope f cd A outer s H E p).K = K := rfl
theorem cxH_hot {CX : CXT} {N : List Str} {qual : Str} {scope : Scope} {f : Addr} {cd : Value} {A : Around} {outer : List Env} {s : Shared} {H : Hp} {E : XK} {p : Addr × Obj} (h : Hot1 A p) : HotC (cxH CX P w K mg base N qual scope f cd A outer s H E p) := ⟨p, ⟨h.1, h.2⟩, List.mem_cons_self⟩
def StrikeOk (S : MS) : Prop := S.cells.length ≤ LIM ∧ ∀ x, S.opened = some x → 0 ≤ x.2
def spStrike (c : Cn) : Sp := fun vs H Q E => ∃ (p : Addr) (S : MS) (U : List Seen) (L : Ls) (H0 : Hp), vs = [.ref p] ∧ HOwn c p S U L H0 H ∧ StrikeOk S ∧ ∀ H1 L1, HOwn c p (strike S) U L1 H0 H1 → Q .non H1
theorem sc_strike : FnScope ["self"] ["self"] (defScope (inClass (top 48) 11)) := ⟨rfl, rfl, rfl, by decide +kernel, rfl, by decide +kernel, by decide +kernel⟩
theorem ok_strike {f : Addr} {fd : FuncData} (F : FnT K "strike" "House.strike" (inClass (top 48) 11) [] [] f fd) (T : HCls K c) : FnH P w K mg base (L2N.CX P w) 1 f fd ["self"] (spStrike c) := by
  refine FunD_okH F sc_strike (fun vs H Q E h => ?_) (fun cdv A outer s H vs Q E pe hot hr h => ?_)
  · obtain ⟨p, S, U, L, H0, rfl, _⟩ := h
    rfl
  · obtain ⟨p, S, U, L, H0, rfl, W, ok, k⟩ := h
    refine ⟨_, (pss_cons (ps_if (pt_cmpR op_notN1 (pe_fld (pv 0) rfl) pe_non (nomark _)) (pss_one (ps_asg (pe_lst pa_nil) (pg_cut (pe_fld (pv 0) rfl) (po_some (pe_ix ix_tup (pe_fld (pv 0) rfl) pe_int (fun _ _ => rfl))) po_none))) pss_nil)
      (pss_cons (ps_fld (pv 0) pe_non rfl)
      (pss_cons (ps_fld (pv 0) pe_bl rfl)
      (pss_one (ps_fld (pv 0) (pe_lst pa_nil) rfl))))), ?_⟩
    try dsimp only [cxH_K]
    walk_at "w"
    refine w_openedR W T fun v hv => ?_
    walk_at "w"
    cases e : S.opened with
    | none =>
      rw [e] at hv
      have hv : v = .non := hv
      subst hv
      refine ite_ndec (fun h => (h rfl).elim) fun _ => ?_
      walk_at "w"
      refine w_st_openedN W T fun H5 W => ?_
      walk_at "w"
      refine w_st_mode W T fun H6 W _ => ?_
      walk_at "w"
      refine ⟨Nat.zero_le _, fun l hl => ?_⟩
      walk_at "w"
      have hl0 := W.fresh hl
      replace W := W.newF (u := .lst (([] : List Addr).map V.ref)) hl
      obtain ⟨G, eG, X⟩ := W.x
      refine x_st_ties (ts := []) (tl := []) X hl0 T rfl (fun x hx => nomatch hx) fun H7 G7 X => ?_
      have eS : strike S = { S with opened := none, mode := false, ties := [] } := by
        unfold strike cutOpen
        rw [e]
      rw [← eS] at X
      exact k _ _ X.own
    | some x =>
      rw [e] at hv
      obtain ⟨t, rfl, ht⟩ := hv
      refine ite_ndec (fun _ => ?_) (fun h => nomatch h)
      walk_at "w"
      refine ⟨Nat.zero_le _, fun q hq => ?_⟩
      have W1 := W.newF (u := .lst []) hq
      have hq0 := W.fresh hq
      clear W ht
      generalize upd H q (.lst []) = H1 at W1 ⊢
      walk_at "w"
      refine w_openedR W1 T fun v hv => ?_
      rw [e] at hv
      obtain ⟨t, rfl, ht⟩ := hv
      walk_at "w"
      refine w_ixT1 (SqT.of ht) ?_
      walk_at "w"
      refine w_cutC (ys := []) W1 upd_same (ok.2 x e) (by have := ok.1; simp; omega) fun H2 W => ?_
      replace W := W.shrink hq0
      rw [List.append_nil] at W
      walk_at "w"
      refine w_st_openedN W T fun H5 W => ?_
      walk_at "w"
      refine w_st_mode W T fun H6 W _ => ?_
      walk_at "w"
      refine ⟨Nat.zero_le _, fun l hl => ?_⟩
      walk_at "w"
      have hl0 := W.fresh hl
      replace W := W.newF (u := .lst (([] : List Addr).map V.ref)) hl
      obtain ⟨G, eG, X⟩ := W.x
      refine x_st_ties (ts := []) (tl := []) X hl0 T rfl (fun x hx => nomatch hx) fun H7 G7 X => ?_
      have eS : strike S = { S with cells := S.cells.take x.2.toNat, opened := none, mode := false, ties := [] } := by
        unfold strike cutOpen
        rw [e]
      rw [← eS] at X
      exact k _ _ X.own
end
end WH
set_option Elab.async false
set_option linter.all false
set_option maxRecDepth 100000
set_option maxHeartbeats 2000000
namespace WH
open PySem PySem.Spec PyProof.Rows L2 L2H
local macro_rules | `(tactic| walk_at "w") => `(tactic| repeat (with_reducible first
  | (refine is_te ?_; first | refine w_var (by with_unfolding_all rfl) ?_ | refine w_c ?_ | refine w_op ?_ | refine w_cb ?_ | refine w_call ?_ | refine w_self (by assumption) (by with_unfolding_all rfl) (by decide +kernel) ?_ | refine w_ife ?_ | (refine is_fld ?_; first | refine w_cells (by assumption) (by assumption) (by with_unfolding_all rfl) ?_ | refine w_stack (by assumption) (by assumption) (by with_unfolding_all rfl) ?_ | refine w_back (by assumption) (by assumption) (by with_unfolding_all rfl) ?_ | refine w_most_cells (by assumption) (by assumption) (by with_unfolding_all rfl) ?_ | refine w_most_stack (by assumption) (by assumption) (by with_unfolding_all rfl) ?_ | refine w_book (by assumption) (by assumption) (by with_unfolding_all rfl) ?_ | refine w_spot (by assumption) (by assumption) (by with_unfolding_all rfl) ?_ | refine w_left (by assumption) (by assumption) (by with_unfolding_all rfl) ?_ | refine w_at (by assumption) (by assumption) (by with_unfolding_all rfl) ?_ | refine w_told (by assumption) (by assumption) (by with_unfolding_all rfl) ?_ | refine w_words (by assumption) (by assumption) (by with_unfolding_all rfl) ?_ | refine w_mode (by assumption) (by assumption) (by with_unfolding_all rfl) ?_ | refine w_ties (by assumption) (by assumption) (by with_unfolding_all rfl) ?_ | refine w_many_deeds (by assumption) (by assumption) (by with_unfolding_all rfl) ?_ | refine w_steps (by assumption) (by assumption) (by with_unfolding_all rfl) ?_ | refine w_fld ?_) | refine w_lst ?_ | refine w_tup ?_ | refine w_bm ?_ | refine w_bm0 ?_ | refine w_un ?_ | refine w_sl ?_ | refine w_chain ?_)
  | (refine is_ta ?_; first | refine w_cons ?_ | refine w_nil ?_)
  | refine w_gn ?_
  | (refine is_ts ?_; first | refine w_seq ?_ | refine w_asg ?_ | refine w_ifs ?_ | refine w_drop ?_ | refine w_next ?_ | refine w_ret ?_ | refine w_retN ?_ | refine w_sfld ?_ | refine w_augS ?_ | refine w_aug_spot (by assumption) (by assumption) (by with_unfolding_all rfl) ?_ | refine w_aug_left (by assumption) (by assumption) (by with_unfolding_all rfl) ?_ | refine w_aug_at (by assumption) (by assumption) (by with_unfolding_all rfl) ?_)
  | (refine is_tt ?_; first | refine w_test ?_ | refine w_and ?_ | refine w_or ?_ | refine w_not ?_ | refine w_tB ?_)
  | (refine is_r2 ?_; first | refine w_i0 ?_ | refine w_eqt ?_ | refine w_eqi ?_ | refine w_net ?_ | refine w_nei ?_ | refine w_isN ?_ | refine w_notN ?_ | refine w_rAdd ?_ | refine w_rSub ?_ | refine w_ipI ?_)
  | (refine is_ty ?_; first | refine w_tyS' (by assumption) ?_ | refine w_tyC (by assumption) ?_ | refine w_tyB (by assumption) ?_ | refine w_tyT (by assumption) ?_ | refine w_tyK (by assumption) ?_ | refine w_tyI (by assumption) ?_)
  | (refine is_ln ?_; first | refine w_lnS (by assumption) ?_ | refine w_lnC (by assumption) ?_ | refine w_lnB (by assumption) ?_ | refine w_lnT (by assumption) ?_ | refine w_lnW (by assumption) ?_ | refine w_lnK (by assumption) ?_)
  | (refine is_rf ?_; first | refine e_kind (by assumption) (by assumption) ?_ | refine e_name (by assumption) (by assumption) ?_ | refine e_number (by assumption) (by assumption) ?_ | refine e_start (by assumption) (by assumption) ?_ | refine e_end (by assumption) (by assumption) ?_ | refine e_was (by assumption) (by assumption) ?_ | refine e_worth (by assumption) (by assumption) ?_ | refine e_beyond (by assumption) (by assumption) ?_ | refine e_is_now (by assumption) (by assumption) ?_)
  | refine w_bl ?_ | refine w_mkw ?_ | refine w_mknw ?_ | refine w_part1 ?_ | refine w_neg ?_ | refine w_smk ?_ | refine w_smkn ?_ | refine w_noP ?_ | refine w_part ?_ | refine w_gcut ?_ | refine w_gsub ?_))

section
variable {K : PySem.W.Frag} {σ : L2.St} {H : Hp} {R : L2.St → Hp → Prop}
theorem w_gatt {to : TE} {f : Str} {v : V} (q : to σ H fun x H1 => rSfld K f v x H1 (R σ)) : gAttr K to f v σ H R := q
theorem w_gcons {t : TG} {u : TGs} {v : V} {vr : List V} (q : t v σ H fun σ1 H1 => u vr σ1 H1 R) : gCons t u (v :: vr) σ H R := ⟨v, vr, rfl, q⟩
theorem w_gnil (q : R σ H) : gNil [] σ H R := ⟨rfl, q⟩
theorem w_gtup {a : Addr} {xs : List V} {n : Nat} {t : TGs} (h : SqT K H a xs) (hn : xs.length = n) (q : t xs σ H R) : gTup K n t (.ref a) σ H R := ⟨a, xs, rfl, h, hn, q⟩
end
section
variable {P : Program} {w : World} {K : PySem.W.Frag} {mg : Str → Option Value} {base : Heap} {c : Cn} {cls : Err → Addr}
theorem HOwnX.lessU {p : Addr} {S : MS} {U U' : List Seen} {G : Gh} {H0 H : Hp} (W : HOwnX c p S U G H0 H) (h : ∀ u ∈ U', u ∈ U) : HOwnX c p S U' G H0 H := by
  obtain ⟨hs, s, P⟩ := W
  exact ⟨hs, s, { P with un := fun u hu => P.un u (h u hu) }⟩
theorem HOwnX.takeable {p l : Addr} {S : MS} {U : List Seen} {G : Gh} {J H : Hp} {o : HO} (W : HOwnX c p S U G J H) (h : J l = some o) : HOwnX c p S U G (upd (del J l) l o) H := by
  rw [upd_del h]
  exact W
def spPutBack (c : Cn) : Sp := fun vs H Q E => ∃ (p : Addr) (S2 S : MS) (U : List Seen) (G : Gh) (J H0 : Hp) (t : Addr) (es : List (Addr × Addr)) (ts : List Addr) (ov : V), vs = [.ref p, .ref t] ∧ HOwnX c p S2 (keptU S es ts ov ++ U) G J H ∧ KeptAt H0 S es ts ov t J ∧
  S.book.length ≤ LIM ∧ ∀ H1 L1, HOwn c p (putBack S S2) U L1 H0 H1 → Q .non H1
theorem sc_put_back : FnScope ["self", "kept", "cells", "stack", "rows", "told", "ties", "entry", "beyond", "is_now"] ["self", "kept"] (defScope (inClass (top 48) 10)) := ⟨rfl, rfl, rfl, by decide +kernel, rfl, by decide +kernel, by decide +kernel⟩
theorem ok_put_back {f : Addr} {fd : FuncData} (F : FnT K "put_back" "House.put_back" (inClass (top 48) 10) [] [] f fd) (T : HCls K c) : FnH P w K mg base (L2N.CX P w) 1 f fd ["self", "kept"] (spPutBack c) := by
  refine FunD_okH F sc_put_back (fun vs H Q E h => ?_) (fun cdv A outer s H vs Q E pe hot hr h => ?_)
  · obtain ⟨p, S2, S, U, G, J, H0, t, es, ts, ov, rfl, _⟩ := h
    rfl
  · obtain ⟨p, S2, S, U, G, J, H0, t, es, ts, ov, rfl, X, kept, hz, k⟩ := h
    have hc := cxH_hot (P := P) (w := w) (K := K) (mg := mg) (base := base) (CX := L2N.CX P w) (N := ["self", "kept", "cells", "stack", "rows", "told", "ties", "entry", "beyond", "is_now"]) (qual := "House.put_back") (scope := defScope (inClass (top 48) 10)) (f := f) (cd := cdv) (A := A) (outer := outer) (s := s) (H := H) (E := E) (p := pe) hot
    refine ⟨_, pss_cons (ps_asg (pv 1) (pg_tupH (n := 7) hc (pgs_cons (pg_name (i := 2) sc_put_back.nd rfl (Or.inl rfl)) (pgs_cons (pg_name (i := 3) sc_put_back.nd rfl (Or.inl rfl)) (pgs_cons (pg_name (i := 4) sc_put_back.nd rfl (Or.inl rfl)) (pgs_cons (pg_name (i := 5) sc_put_back.nd rfl (Or.inl rfl)) (pgs_cons (pg_fld (pv 0)) (pgs_cons (pg_fld (pv 0)) (pgs_cons (pg_name (i := 6) sc_put_back.nd rfl (Or.inl rfl)) pgs_nil)))))))))
      (pss_cons (ps_asg (pe_tup (pa_cons (pv 2) (pa_cons (pv 3) (pa_cons (pv 5) (pa_cons (pv 6) pa_nil))))) (pg_tupH (n := 4) hc (pgs_cons (pg_fld (pv 0)) (pgs_cons (pg_fld (pv 0)) (pgs_cons (pg_fld (pv 0)) (pgs_cons (pg_fld (pv 0)) pgs_nil))))))
      (pss_cons (ps_fld (pv 0) (pe_lcH (g := gTup K 3 (gCons (gName 7) (gCons (gName 8) (gCons (gName 9) gNil)))) (own := [("entry", 7), ("beyond", 8), ("is_now", 9)]) hc sc_put_back.nd (pi_listH (pv 4)) (blkOk_by (own := [("entry", 7), ("beyond", 8), ("is_now", 9)]) (N := ["self", "kept", "cells", "stack", "rows", "told", "ties", "entry", "beyond", "is_now"]) (sc := defScope (inClass (top 48) 10)) (by decide +kernel))
        (fun _ _ _ _ _ _ hb => pg_tupH hb (pgs_cons (pg_name (i := 7) sc_put_back.nd rfl (Or.inl rfl)) (pgs_cons (pg_name (i := 8) sc_put_back.nd rfl (Or.inl rfl)) (pgs_cons (pg_name (i := 9) sc_put_back.nd rfl (Or.inl rfl)) pgs_nil)))) (fun _ _ _ _ _ _ => pts_nil) (fun _ _ _ _ _ _ => pv 7)) rfl)
      (pss_one (ps_forH (passes_of rfl) hc (pi_listH (pv 4)) (pg_tupH (n := 3) hc (pgs_cons (pg_name (i := 7) sc_put_back.nd rfl (Or.inl rfl)) (pgs_cons (pg_name (i := 8) sc_put_back.nd rfl (Or.inl rfl)) (pgs_cons (pg_name (i := 9) sc_put_back.nd rfl (Or.inl rfl)) pgs_nil))))
        (pss_cons (ps_fld (pv 7) (pv 8) rfl) (pss_one (ps_fld (pv 7) (pv 9) rfl))))))), ?_⟩
    try dsimp only [cxH_K]
    walk_at "w"
    obtain ⟨a1, a2, a3, a4, a5, rs, kt, ⟨k1, k2, k3, k4, k5⟩, ⟨f1, f2, f4, f5⟩, nd5, rows, hel, nde, htl, hov, sJ⟩ := kept
    simp only [List.nodup_cons, List.mem_cons, not_or, List.not_mem_nil, not_false_eq_true, and_true, List.nodup_nil] at nd5
    obtain ⟨⟨n12, n14, n15, n13⟩, ⟨n24, n25, n23⟩, ⟨n45, n43⟩, n53⟩ := nd5
    have mE : ∀ x ∈ es.zip S.book, sE x.1 x.2 ∈ keptU S es ts ov ++ U := fun x hx => List.mem_append_left _ (List.mem_append_left _ (List.mem_map.mpr ⟨x, hx, rfl⟩))
    have mT : ∀ x ∈ ts.zip S.ties, sT x.1 x.2 ∈ keptU S es ts ov ++ U := fun x hx => List.mem_append_left _ (List.mem_append_right _ (List.mem_append_left _ (List.mem_map.mpr ⟨x, hx, rfl⟩)))
    have mO : (match S.opened with
        | none => ov = .non
        | some x => ∃ b, ov = .ref b ∧ sT b x ∈ keptU S es ts ov ++ U) := by
      cases e : S.opened with
      | none =>
        rw [e] at hov
        exact hov
      | some x =>
        rw [e] at hov
        obtain ⟨b, q⟩ := hov
        refine ⟨b, q, List.mem_append_left _ (List.mem_append_right _ (List.mem_append_right _ ?_))⟩
        rw [e, q]
        exact List.mem_cons_self
    have hUU : ∀ u ∈ U, u ∈ keptU S es ts ov ++ U := fun u hu => List.mem_append_right _ hu
    generalize keptU S es ts ov ++ U = U' at X mE mT mO hUU
    refine w_gtup (SqT.of (X.same _ _ kt)) rfl ?_
    refine w_gcons (w_gn (w_gcons (w_gn (w_gcons (w_gn (w_gcons (w_gn (w_gcons (w_gatt ?_)))))))))
    walk_at "w"
    refine x_st_mode X T fun H1 G1 X => ?_
    refine w_gcons (w_gatt ?_)
    walk_at "w"
    refine x_st_opened X T mO fun H2 G2 X => ?_
    refine w_gcons (w_gn (w_gnil ?_))
    walk_at "w"
    refine ⟨by show 4 ≤ sizeLine; decide, fun t2 ht2 => ?_⟩
    have f0 := X.fresh ht2
    replace X := X.newF (u := .tup [.ref a1, .ref a2, .ref a4, .ref a5]) ht2
    have s0 := same_new (o := .tup [.ref a1, .ref a2, .ref a4, .ref a5]) f0
    have eT : upd J t2 (.tup [.ref a1, .ref a2, .ref a4, .ref a5]) t2 = some (.tup [.ref a1, .ref a2, .ref a4, .ref a5]) := upd_same
    replace k1 := s0 _ _ k1
    replace k2 := s0 _ _ k2
    replace k3 := s0 _ _ k3
    replace k4 := s0 _ _ k4
    replace k5 := s0 _ _ k5
    replace rows := rows.imp fun _ _ _ _ q => s0 _ _ q
    replace sJ := sameT sJ s0
    generalize upd J t2 (.tup [.ref a1, .ref a2, .ref a4, .ref a5]) = J at X k1 k2 k3 k4 k5 rows sJ eT
    refine w_gtup (SqT.of upd_same) rfl ?_
    generalize upd H2 t2 (.tup [.ref a1, .ref a2, .ref a4, .ref a5]) = H3 at X ⊢
    refine w_gcons (w_gatt ?_)
    walk_at "w"
    refine x_st_cells (X.takeable k1) del_same T fun H4 G4 X => ?_
    refine w_gcons (w_gatt ?_)
    walk_at "w"
    refine x_st_stack (X.takeable (by rw [del_ne (Ne.symm n12)]; exact k2)) del_same T fun H5 G5 X => ?_
    refine w_gcons (w_gatt ?_)
    walk_at "w"
    refine x_st_told (X.takeable (by rw [del_ne (Ne.symm n24), del_ne (Ne.symm n14)]; exact k4)) del_same T fun H6 G6 X => ?_
    refine w_gcons (w_gatt ?_)
    walk_at "w"
    refine x_st_ties (X.takeable (by rw [del_ne (Ne.symm n45), del_ne (Ne.symm n25), del_ne (Ne.symm n15)]; exact k5)) del_same T htl mT fun H7 G7 X => ?_
    refine w_gnil ?_
    obtain ⟨S3, eS3⟩ : ∃ S3, S3 = ({ S2 with cells := S.cells, stack := S.stack, told := S.told, mode := S.mode, opened := S.opened, ties := S.ties } : MS) := ⟨_, rfl⟩
    replace X : HOwnX c p S3 U' G7 (del (del (del (del J a1) a2) a4) a5) H7 := by
      rw [eS3]
      exact X
    have k3' : del (del (del (del J a1) a2) a4) a5 a3 = some (.lst (rs.map V.ref)) := by
      rw [del_ne (Ne.symm n53), del_ne (Ne.symm n43), del_ne (Ne.symm n23), del_ne (Ne.symm n13)]
      exact k3
    have rows' : All2 (fun r x => del (del (del (del J a1) a2) a4) a5 r = some (.tup [.ref x.1.1, optV x.2.beyond, .bl x.2.now])) rs (es.zip S.book) := rows.imp fun r x _ _ q => by
      rw [del_ne (ne_of q k5 fun z => nomatch z), del_ne (ne_of q k4 fun z => nomatch z), del_ne (ne_of q k2 fun z => nomatch z), del_ne (ne_of q k1 fun z => nomatch z)]
      exact q
    have sJ' : Same H0 (del (del (del (del J a1) a2) a4) a5) := same_del (same_del (same_del (same_del sJ f1) f2) f4) f5
    generalize del (del (del (del J a1) a2) a4) a5 = J at X k3' rows' sJ'
    clear k1 k2 k3 k4 k5 rows sJ eT
    walk_at "w"
    unfold tLc iList
    walk_at "w"
    refine ⟨a3, rfl, ⟨_, SqL.of (X.same _ _ k3')⟩, fun D hD => ?_⟩
    have hD0 := X.fresh hD
    have n3D : a3 ≠ D := ne_of_none k3' hD0
    have hlr : rs.length = (es.zip S.book).length := rows'.len
    refine lc_list (xs := rs.map V.ref) (fun i H' => H' = upd H7 D (.lst ((refs es).take i))) rfl (fun i H' _ h => ?_) (fun i x H' hx h => ?_) (fun H' h => ?_)
    · subst h
      exact SqL.of ((upd_ne n3D).trans (X.same _ _ k3'))
    · subst h
      rw [List.getElem?_map] at hx
      cases hr2 : rs[i]? with
      | none =>
        rw [hr2] at hx
        cases hx
      | some r =>
        rw [hr2] at hx
        cases hx
        obtain ⟨x, hz2, hJr⟩ := rows'.getL hr2
        have hrD : r ≠ D := ne_of_none hJr hD0
        obtain ⟨e1, e2⟩ := List.getElem?_zip_eq_some.mp hz2
        refine w_gtup (SqT.of ((upd_ne hrD).trans (X.same _ _ hJr))) rfl ?_
        refine w_gcons (w_gn (w_gcons (w_gn (w_gcons (w_gn (w_gnil ⟨rfl, ?_⟩))))))
        refine w_tYes ?_
        rw [if_pos rfl]
        refine ⟨_, rfl, _, upd_same, ?_, ?_⟩
        · rw [List.length_take]
          have h9 : (refs es).length = S.book.length := (List.length_map ..).trans hel
          have h10 : min i (refs es).length ≤ LIM := by omega
          exact Nat.lt_of_le_of_lt h10 (by decide)
        · rw [upd_upd, List.take_succ]
          have h9 : (refs es)[i]? = some (V.ref x.1.1) := by
            unfold refs
            rw [List.getElem?_map, e1]
            rfl
          rw [h9]
          rfl
    · subst h
      rw [List.length_map, hlr]
      have h9 : (refs es).take (es.zip S.book).length = refs es := List.take_of_length_le (by
        rw [List.length_zip, show (refs es).length = es.length from List.length_map ..]
        omega)
      rw [h9]
      replace X := X.newF (u := .lst (refs es)) hD
      generalize upd H7 D (.lst (refs es)) = H8 at X ⊢
      walk_at "w"
      refine x_st_book X hD0 T hel nde mE fun H9 G9 bk' eG chg X => ?_
      unfold tFor
      walk_at "w"
      refine ⟨a3, rfl, ⟨_, SqL.of (X.same _ _ k3')⟩, ?_⟩
      refine for_list (xs := rs.map V.ref) (fun i σ H' => (∃ o7 o8 o9, σ = [some (.ref p), some (.ref t), some (.ref a1), some (.ref a2), some (.ref a3), some (.ref a4), some (.ref a5), o7, o8, o9]) ∧
          ∃ bk, HOwnX c p { S3 with book := bk } U' G9 J H' ∧ All2 (fun (e e' : Ent) => ∃ b n, e' = { e with beyond := b, now := n }) S.book bk ∧ ∀ j, j < i → bk[j]? = S.book[j]?)
        ⟨⟨none, none, none, rfl⟩, bk', X, chg, fun j hj => absurd hj (Nat.not_lt_zero _)⟩ (fun i σ H' _ z => ?_) (fun i x σ H' hx z => ?_) (fun σ H' z => ?_)
      · obtain ⟨_, bk, X', _⟩ := z
        exact SqL.of (X'.same _ _ k3')
      · obtain ⟨⟨o7, o8, o9, rfl⟩, bk, X', ch, hj⟩ := z
        rw [List.getElem?_map] at hx
        cases hr2 : rs[i]? with
        | none =>
          rw [hr2] at hx
          cases hx
        | some r =>
          rw [hr2] at hx
          cases hx
          obtain ⟨⟨b, e⟩, hz2, hJr⟩ := rows'.getL hr2
          obtain ⟨e1, e2⟩ := List.getElem?_zip_eq_some.mp hz2
          obtain ⟨e', e3, bb, nn, rfl⟩ := ch.getL e2
          refine w_gtup (SqT.of (X'.same _ _ hJr)) rfl ?_
          refine w_gcons (w_gn (w_gcons (w_gn (w_gcons (w_gn (w_gnil ?_))))))
          walk_at "w"
          refine x_st_beyond X' T (b := b) (i := i) (by rw [eG]; exact e1) e3 fun H10 X' => ?_
          walk_at "w"
          have hlt : i < bk.length := (List.getElem?_eq_some_iff.mp e3).1
          refine x_st_now X' T (b := b) (i := i) (e := { e with beyond := e.beyond, now := nn }) (by rw [eG]; exact e1) (List.getElem?_set_self hlt) fun H11 X' => ?_
          refine ⟨⟨_, _, _, rfl⟩, bk.set i e, ?_, ?_, fun j hji => ?_⟩
          · have e9 : (bk.set i { e with beyond := e.beyond, now := nn }).set i { e with beyond := e.beyond, now := e.now } = bk.set i e := List.set_set ..
            have e10 : ((bk.set i { e with beyond := e.beyond, now := nn }).set i { e with beyond := e.beyond, now := e.now } : List Ent) = bk.set i e := e9
            rw [← e10]
            exact X'
          · refine ch.setAt e2 (fun j a' b' _ _ q => q) ⟨e.beyond, e.now, rfl⟩
          · by_cases hji2 : j = i
            · subst hji2
              rw [List.getElem?_set_self hlt]
              exact e2.symm
            · rw [List.getElem?_set_ne (Ne.symm hji2)]
              exact hj j (by omega)
      · obtain ⟨⟨o7, o8, o9, rfl⟩, bk, X', ch, hj⟩ := z
        have eb : bk = S.book := by
          refine List.ext_getElem? fun j => ?_
          by_cases h : j < (rs.map V.ref).length
          · exact hj j h
          · rw [List.length_map, hlr, List.length_zip] at h
            have h2 := ch.len
            rw [List.getElem?_eq_none (by omega), List.getElem?_eq_none (by omega)]
        subst eb
        have eF : ({ S3 with book := S.book } : MS) = putBack S S2 := by
          rw [eS3]
          rfl
        rw [eF] at X'
        walk_at "w"
        exact k _ _ ((X'.lessU hUU).own.less0 sJ')
end
end WH
set_option Elab.async false
set_option linter.all false
set_option maxRecDepth 100000
set_option maxHeartbeats 2000000
namespace WH
open PySem PySem.Spec PyProof.Rows L2 L2H
local macro_rules | `(tactic| walk_at "w") => `(tactic| repeat (with_reducible first
  | (refine is_te ?_; first | refine w_var (by with_unfolding_all rfl) ?_ | refine w_c ?_ | refine w_op ?_ | refine w_cb ?_ | refine w_call ?_ | refine w_self (by assumption) (by with_unfolding_all rfl) (by decide +kernel) ?_ | refine w_ife ?_ | (refine is_fld ?_; first | refine w_cells (by assumption) (by assumption) (by with_unfolding_all rfl) ?_ | refine w_stack (by assumption) (by assumption) (by with_unfolding_all rfl) ?_ | refine w_back (by assumption) (by assumption) (by with_unfolding_all rfl) ?_ | refine w_most_cells (by assumption) (by assumption) (by with_unfolding_all rfl) ?_ | refine w_most_stack (by assumption) (by assumption) (by with_unfolding_all rfl) ?_ | refine w_book (by assumption) (by assumption) (by with_unfolding_all rfl) ?_ | refine w_spot (by assumption) (by assumption) (by with_unfolding_all rfl) ?_ | refine w_left (by assumption) (by assumption) (by with_unfolding_all rfl) ?_ | refine w_at (by assumption) (by assumption) (by with_unfolding_all rfl) ?_ | refine w_told (by assumption) (by assumption) (by with_unfolding_all rfl) ?_ | refine w_words (by assumption) (by assumption) (by with_unfolding_all rfl) ?_ | refine w_mode (by assumption) (by assumption) (by with_unfolding_all rfl) ?_ | refine w_ties (by assumption) (by assumption) (by with_unfolding_all rfl) ?_ | refine w_many_deeds (by assumption) (by assumption) (by with_unfolding_all rfl) ?_ | refine w_steps (by assumption) (by assumption) (by with_unfolding_all rfl) ?_ | refine w_fld ?_) | refine w_lst ?_ | refine w_tup ?_ | refine w_bm ?_ | refine w_bm0 ?_ | refine w_un ?_ | refine w_sl ?_ | refine w_chain ?_)
  | (refine is_ta ?_; first | refine w_cons ?_ | refine w_nil ?_)
  | refine w_gn ?_
  | (refine is_ts ?_; first | refine w_seq ?_ | refine w_asg ?_ | refine w_ifs ?_ | refine w_drop ?_ | refine w_next ?_ | refine w_ret ?_ | refine w_retN ?_ | refine w_sfld ?_ | refine w_augS ?_ | refine w_aug_spot (by assumption) (by assumption) (by with_unfolding_all rfl) ?_ | refine w_aug_left (by assumption) (by assumption) (by with_unfolding_all rfl) ?_ | refine w_aug_at (by assumption) (by assumption) (by with_unfolding_all rfl) ?_)
  | (refine is_tt ?_; first | refine w_test ?_ | refine w_and ?_ | refine w_or ?_ | refine w_not ?_ | refine w_tB ?_)
  | (refine is_r2 ?_; first | refine w_i0 ?_ | refine w_eqt ?_ | refine w_eqi ?_ | refine w_net ?_ | refine w_nei ?_ | refine w_isN ?_ | refine w_notN ?_ | refine w_rAdd ?_ | refine w_rSub ?_ | refine w_ipI ?_)
  | (refine is_ty ?_; first | refine w_tyS' (by assumption) ?_ | refine w_tyC (by assumption) ?_ | refine w_tyB (by assumption) ?_ | refine w_tyT (by assumption) ?_ | refine w_tyK (by assumption) ?_ | refine w_tyI (by assumption) ?_)
  | (refine is_ln ?_; first | refine w_lnS (by assumption) ?_ | refine w_lnC (by assumption) ?_ | refine w_lnB (by assumption) ?_ | refine w_lnT (by assumption) ?_ | refine w_lnW (by assumption) ?_ | refine w_lnK (by assumption) ?_)
  | (refine is_rf ?_; first | refine e_kind (by assumption) (by assumption) ?_ | refine e_name (by assumption) (by assumption) ?_ | refine e_number (by assumption) (by assumption) ?_ | refine e_start (by assumption) (by assumption) ?_ | refine e_end (by assumption) (by assumption) ?_ | refine e_was (by assumption) (by assumption) ?_ | refine e_worth (by assumption) (by assumption) ?_ | refine e_beyond (by assumption) (by assumption) ?_ | refine e_is_now (by assumption) (by assumption) ?_)
  | refine w_bl ?_ | refine w_mkw ?_ | refine w_mknw ?_ | refine w_part1 ?_ | refine w_neg ?_ | refine w_smk ?_ | refine w_smkn ?_ | refine w_noP ?_ | refine w_part ?_ | refine w_gcut ?_ | refine w_gsub ?_))

section
variable {P : Program} {w : World} {K : PySem.W.Frag} {mg : Str → Option Value} {base : Heap} {c : Cn} {cls : Err → Addr}
/-- behind a tell -/
def TellEnds (c : Cn) (cls : Err → Addr) (p : Addr) (S : MS) (U : List Seen) (H0 : Hp) (whole : Bool) (Q : VK) (E : XK) : Out Unit → Prop
  | .ok _ S' => ∀ H1 L' r, H0 r = none → HOwn c p (quiet S') U L' (upd H0 r (.lst (iv (S'.told.drop S.told.length)))) H1 → Q (.ref r) H1
  | .err e S' => (whole = false → StrikeOk S') ∧ ∀ H1 L' d, H0 d = none → HOwn c p (quiet (if whole then putBack S S' else strike S')) U L' (upd H0 d (.xd (errV S' e))) H1 → E (.ref (cls e)) (some d) H1
  | .stuck => False
def spTell (c : Cn) (cls : Err → Addr) (go : Ent → M Unit) : Sp := fun vs H Q E => ∃ (p : Addr) (S : MS) (U : List Seen) (L : Ls) (H0 : Hp) (z : Str) (most : Int) (whole : Bool), vs = [.ref p, .str z, .int most, .bl whole] ∧ HOwn c p S U L H0 H ∧
  z.length + 2 ≤ sizeLine ∧ S.book.length ≤ LIM ∧ TellEnds c cls p S U H0 whole Q E (wordsFromG go ((Txt.words z).length + 1) { S with words := Txt.words z, at_ := 0, left := most })
theorem Ends.impE {α : Type} {p : Addr} {U : List Seen} {L : Ls} {H0 : Hp} {post : α → MS → Prop} {E E' : XK} {o : Out α} (k : WH.Ends c cls p U L H0 post E o) (h : ∀ cv d H, E cv d H → E' cv d H) : WH.Ends c cls p U L H0 post E' o := by
  cases o with
  | ok a S => exact k
  | err e S => exact fun H d hd W => h _ _ _ (k H d hd W)
  | stuck => exact k
theorem w_tryX {tb : WX → TS} {W : WX} {tf : TS} {D : L2.Ends} {σ : L2.St} {H : Hp} (q : tb W { nx := fun σ1 H1 => tf D σ1 H1, rt := fun _ _ => False } σ H) : tTryX tb W tf D σ H := q
section
variable {p : Addr} {S S' : MS} {U U' : List Seen} {L : Ls} {H0 J H : Hp} {Q : VK}
theorem HOwn.lessU (W : HOwn c p S U' L J H) (h : ∀ u ∈ U, u ∈ U') : HOwn c p S U L J H := by
  obtain ⟨G, e, X⟩ := W.x
  rw [← e]
  exact (X.lessU h).own
theorem w_selfH {m : Str} {sp : Sp} {E : L2.St → XK} {t : TA} {σ : L2.St} (W : HOwn c p S U L H0 H) (hσ : σ[0]? = some (some (.ref p))) (hm : hKeys.contains m = false) (q : t σ H fun vs H2 => sp (.ref p :: vs) H2 Q (E σ)) : tMethH c.CH m sp E (tVar 0) t σ H Q := by
  obtain ⟨G, e, ho⟩ := W.ob
  exact ⟨_, hσ, p, G.dx, _, rfl, ho, lookup_no hm, q⟩
theorem w_selfS {m : Str} {sp : Sp} {dvs : List V} {E : L2.St → XK} {t : TA} {σ : L2.St} (W : HOwn c p S U L H0 H) (hσ : σ[0]? = some (some (.ref p))) (hm : hKeys.contains m = false) (q : t σ H fun vs H2 => sp (.ref p :: (vs ++ dvs)) H2 Q (E σ)) : tMethS c.CH m sp dvs E (tVar 0) t σ H Q := by
  obtain ⟨G, e, ho⟩ := W.ob
  exact ⟨_, hσ, p, G.dx, _, rfl, ho, lookup_no hm, q⟩
theorem KeptAt.beside {es : List (Addr × Addr)} {ts : List Addr} {ov : V} {t d : Addr} {o : HO} (k : KeptAt H0 S es ts ov t J) (hd : J d = none) : KeptAt (upd H0 d o) S es ts ov t (upd J d o) := by
  obtain ⟨a1, a2, a3, a4, a5, rs, kt, ⟨k1, k2, k3, k4, k5⟩, ⟨f1, f2, f4, f5⟩, nd5, rows, hel, nde, htl, hov, sJ⟩ := k
  have s := same_new (o := o) hd
  have n : ∀ {a : Addr} {u : HO}, J a = some u → H0 a = none → upd H0 d o a = none := fun q z => (upd_ne (ne_of_none q hd)).trans z
  refine ⟨a1, a2, a3, a4, a5, rs, s _ _ kt, ⟨s _ _ k1, s _ _ k2, s _ _ k3, s _ _ k4, s _ _ k5⟩, ⟨n k1 f1, n k2 f2, n k4 f4, n k5 f5⟩, nd5, rows.imp fun _ _ _ _ q => s _ _ q, hel, nde, htl, hov, fun b u q => ?_⟩
  by_cases e : b = d
  · rw [e, upd_same] at q
    rw [e, upd_same]
    exact q
  · rw [upd_ne e] at q
    rw [upd_ne e]
    exact sJ _ _ q
theorem same_beside {d : Addr} {o : HO} (s : Same H0 J) : Same (upd H0 d o) (upd J d o) := fun b u q => by
  by_cases e : b = d
  · rw [e, upd_same] at q
    rw [e, upd_same]
    exact q
  · rw [upd_ne e] at q
    rw [upd_ne e]
    exact s _ _ q
end
theorem sc_tell : FnScope ["self", "text", "most", "whole", "kept", "begins"] ["self", "text", "most", "whole"] (defScope (inClass (top 48) 8)) := ⟨rfl, rfl, rfl, by decide +kernel, rfl, by decide +kernel, by decide +kernel⟩
theorem ok_tell {f : Addr} {fd : FuncData} (F : FnT K "tell" "House.tell" (inClass (top 48) 8) [] [("most", .int 2000), ("whole", .bl true)] f fd) (g : Gb w K mg) (T : HCls K c) (R : Er P w K mg base cls) {n : Nat} {go : Ent → M Unit}
    (M_taken0 : MethOk P w K mg base c.CH "taken" 2 (spTaken c) []) (M_one_word1 : MethOk P w K mg base c.CH "one_word" (n + 12) (spOneWord c cls go) []) (H_strike : MethHOk P w K mg base c.CH "strike" 1 (spStrike c)) (H_put_back : MethHOk P w K mg base c.CH "put_back" 1 (spPutBack c))
    {CW : Addr} (gW : mg "WordError" = some (.ref CW)) (hW : ∀ e, PySem.W.exmOne K (.ref (cls e)) (.ref CW) = some true) : FnOk P w K mg base (L2N.CX P w) (n + 13) f fd ["self", "text", "most", "whole"] (spTell c cls go) := by
  refine F.ok sc_tell (fun vs H Q E h => ?_) (fun cdv A outer s H vs Q E hr h => ?_)
  · obtain ⟨p, S, U, L, H0, z, most, whole, rfl, _⟩ := h
    rfl
  · obtain ⟨p, S, U, L, H0, z, most, whole, rfl, W, hz, hb, k⟩ := h
    refine ⟨_, pss_cons (ps_set (i := 4) sc_tell.nd rfl (Or.inl rfl) (pe_mM0 M_taken0 T.cH (hr.mono (by first | decide | omega)) (L2N.passes_call (L2N.takes_of rfl rfl rfl rfl) fun _ _ _ _ z => z) (pv 0)))
      (pss_cons (ps_set (i := 5) sc_tell.nd rfl (Or.inl rfl) (pe_callB call_ln (by rfl) g.len PySem.boot_len (pa_cons (pe_fld (pv 0) rfl) pa_nil)))
      (pss_cons (ps_fld (pv 0) (pe_m0 PySem.F.slot_str_split PySem.F.type_str_split mt_wordsN (pv 1)) rfl)
      (pss_cons (ps_fld (pv 0) pe_int rfl)
      (pss_cons (ps_fld (pv 0) (pv 2) rfl)
      (pss_cons (ps_tryXe rfl rfl rfl (by exact ⟨rfl, by decide, .inl gW⟩) (L2N.takes_of rfl rfl rfl rfl) (fun W _ _ tk hp => (pss_one (ps_while hp (pt_cmpR op_lt (pe_fld (pv 0) rfl) (pe_callB call_ln (by rfl) g.len PySem.boot_len (pa_cons (pe_fld (pv 0) rfl) pa_nil)) (nomark _)) (pss_cons (ps_expr (pe_mMS M_one_word1 T.cH (hr.mono (by first | decide | omega)) (fun σ => L2N.passAt tk σ) (pv 0) (pa_cons (pe_ix ix_list (pe_fld (pv 0) rfl) (pe_fld (pv 0) rfl) (fun _ _ => rfl)) pa_nil)))
      (pss_cons (ps_fldaug (pv 0) pe_int in_add)
      (pss_one (ps_expr (pe_bm0 PySem.F.plainAttrs_list PySem.F.slot_list_clear PySem.F.type_list_clear mt_clear (pe_fld (pv 0) rfl)))))))))
        (fun a oe cls d pn hc => ps_if (pt_val (pv 3)) (pss_one (ps_expr (pe_mMH H_put_back T.cH (roomH_mark (hr.mono (by omega)) _) hc (pv 0) (pa_cons (pv 4) pa_nil)))) (pss_one (ps_expr (pe_mMH0 H_strike T.cH (roomH_mark (hr.mono (by omega)) _) hc (pv 0)))))
        (pss_cons (ps_expr (pe_bm0 PySem.F.plainAttrs_list PySem.F.slot_list_clear PySem.F.type_list_clear mt_clear (pe_fld (pv 0) rfl))) (pss_cons (ps_fld (pv 0) (pe_lst pa_nil) rfl) (pss_one (ps_fld (pv 0) (pe_gI g.iNOWHERE) rfl)))) (fun _ _ => (pss_cons (ps_expr (pe_bm0 PySem.F.plainAttrs_list PySem.F.slot_list_clear PySem.F.type_list_clear mt_clear (pe_fld (pv 0) rfl))) (pss_cons (ps_fld (pv 0) (pe_lst pa_nil) rfl) (pss_one (ps_fld (pv 0) (pe_gI g.iNOWHERE) rfl))))))
      (pss_one (ps_ret (pe_slice sl_list (pe_fld (pv 0) rfl) (po_some (pv 5)) po_none)))))))), ?_⟩
    try dsimp only [cxOf_K]
    walk_at "w"
    refine ⟨p, S, U, L, H0, rfl, W, hb, fun H1 J G t es ts ov X kept => ?_⟩
    have hUU : ∀ u ∈ U, u ∈ keptU S es ts ov ++ U := fun u hu => List.mem_append_right _ hu
    have sJ : Same H0 J := by
      obtain ⟨_, _, _, _, _, _, _, _, _, _, _, _, _, _, _, q⟩ := kept
      exact q
    clear W
    have W := X.own
    clear X
    obtain ⟨U', eU⟩ : ∃ U', keptU S es ts ov ++ U = U' := ⟨_, rfl⟩
    rw [eU] at W hUU
    obtain ⟨L1, eL⟩ : ∃ L1, G.L = L1 := ⟨_, rfl⟩
    rw [eL] at W
    walk_at "w"
    refine w_m0 (w_var rfl (w_isS (w_words' hz fun l hl => ?_)))
    have hl0 := W.fresh hl
    replace W := W.newF (u := .lst ((Txt.words z).map V.str)) hl
    generalize upd H1 l (.lst ((Txt.words z).map V.str)) = H2 at W ⊢
    walk_at "w"
    refine w_st_words W hl0 T fun H3 W => ?_
    generalize ({ L1 with lw := l } : Ls) = L1 at W
    walk_at "w"
    refine w_st_at W T fun H4 W _ => ?_
    walk_at "w"
    refine w_st_left W T fun H5 W _ => ?_
    walk_at "w"
    refine w_tryX ?_
    obtain ⟨S1, eS1⟩ : ∃ S1, S1 = ({ S with words := Txt.words z, at_ := 0, left := most } : MS) := ⟨_, rfl⟩
    replace W : HOwn c p S1 U' L1 J H5 := by
      rw [eS1]
      exact W
    rw [← eS1] at k
    let ErrOk : Err → MS → Prop := fun e S' => (whole = false → StrikeOk S') ∧ ∀ H1 L' d, H0 d = none → HOwn c p (quiet (if whole then putBack S S' else strike S')) U L' (upd H0 d (.xd (errV S' e))) H1 → E (.ref (cls e)) (some d) H1
    let OkOk : Unit → MS → Prop := fun _ S' => ∀ H1 L' r, H0 r = none → HOwn c p (quiet S') U L' (upd H0 r (.lst (iv (S'.told.drop S.told.length)))) H1 → Q (.ref r) H1
    let E0 : XK := fun cv d H => ∃ e S' dd, cv = .ref (cls e) ∧ d = some dd ∧ J dd = none ∧ HOwn c p S' U' L1 (upd J dd (.xd (errV S' e))) H ∧ ErrOk e S'
    have ho : WH.Ends c cls p U' L1 J OkOk E0 (wordsFromG go ((Txt.words z).length + 1) S1) := by
      cases e : wordsFromG go ((Txt.words z).length + 1) S1 with
      | ok a S' =>
        rw [e] at k
        exact k
      | err er S' =>
        rw [e] at k
        exact fun H d hd W => ⟨er, S', d, rfl, rfl, hd, W, k⟩
      | stuck =>
        rw [e] at k
        exact k
    clear k eS1
    generalize (Txt.words z).length + 1 = fuel at ho
    refine ⟨fun m σ' H' => (σ' = [some (.ref p), some (.str z), some (.int most), some (.bl whole), some (.ref t), some (.int S.told.length)]) ∧ ∃ S1, HOwn c p S1 U' L1 J H' ∧ WH.Ends c cls p U' L1 J OkOk E0 (wordsFromG go m S1), ⟨fuel, rfl, S1, W, ho⟩, ?_⟩
    rintro m σ' H' ⟨rfl, S2, W, k⟩
    cases m with
    | zero => exact k.elim
    | succ m =>
      unfold wordsFromG at k
      walk_at "w"
      refine ite_dec (fun h1 => ?_) (fun h1 => ?_)
      · rw [if_pos h1] at k
        refine ⟨fun σ' H' => (σ' = [some (.ref p), some (.str z), some (.int most), some (.bl whole), some (.ref t), some (.int S.told.length)]) ∧ ∃ S1, HOwn c p S1 U' L1 J H' ∧ WH.Ends c cls p U' L1 J OkOk E0 (wordsFromG go m S1), fun σ' H' h => ⟨m, Nat.lt_succ_self m, h⟩, ?_⟩
        obtain ⟨h0, k⟩ := k.must
        rw [decide_eq_true_iff] at h0
        walk_at "w"
        refine w_selfS W rfl (by decide +kernel) ?_
        walk_at "w"
        refine wordAt W h0 h1 ?_
        walk_at "w"
        refine ⟨p, S2, U', L1, J, _, rfl, W, (k.bind.imp fun _ S3 _ k H6 W => ?_).impE fun cv d H h => ?_⟩
        · replace k := k.mod
          walk_at "w"
          refine w_fl_at W fun H7 W _ => ?_
          walk_at "w"
          refine w_bclear W fun H8 W => ?_
          walk_at "w"
          exact ⟨rfl, _, W, k⟩
        · obtain ⟨e, S', dd, rfl, rfl, hdd, W, ek⟩ := h
          refine ⟨hW e, fun a ha => ?_⟩
          have hd0 : H0 dd = none := sJ.free hdd
          walk_at "w"
          cases whole with
          | true =>
            refine iteT ?_
            walk_at "w"
            refine w_selfH W rfl (by decide +kernel) ?_
            walk_at "w"
            obtain ⟨G', eG', X'⟩ := W.x
            rw [← eU] at X'
            refine ⟨p, S', S, U, G', _, _, t, es, ts, ov, rfl, X', kept.beside hdd, hb, fun H9 L9 W => ?_⟩
            dsimp only
            unfold wFinN
            walk_at "w"
            refine w_bclear W fun H6 W => ?_
            walk_at "w"
            refine ⟨Nat.zero_le _, fun l2 hl2 => ?_⟩
            have hl20 := W.fresh hl2
            replace W := W.newF (u := .lst (([] : List Str).map V.str)) hl2
            walk_at "w"
            refine w_st_words (ys := []) W hl20 T fun H7 W => ?_
            walk_at "w"
            refine w_st_spot W T fun H8 W _ => ?_
            exact ek.2 _ _ dd hd0 W
          | false =>
            refine iteF ?_
            walk_at "w"
            refine w_selfH W rfl (by decide +kernel) ?_
            walk_at "w"
            refine ⟨p, S', U', L1, _, rfl, W, ek.1 rfl, fun H9 L9 W => ?_⟩
            dsimp only
            unfold wFinN
            walk_at "w"
            refine w_bclear W fun H6 W => ?_
            walk_at "w"
            refine ⟨Nat.zero_le _, fun l2 hl2 => ?_⟩
            have hl20 := W.fresh hl2
            replace W := W.newF (u := .lst (([] : List Str).map V.str)) hl2
            walk_at "w"
            refine w_st_words (ys := []) W hl20 T fun H7 W => ?_
            walk_at "w"
            refine w_st_spot W T fun H8 W _ => ?_
            exact ek.2 _ _ dd hd0 ((W.lessU hUU).less0 (same_beside sJ))
      · rw [if_neg h1] at k
        have k : OkOk () S2 := k
        walk_at "w"
        refine w_bclear W fun H6 W => ?_
        walk_at "w"
        refine ⟨Nat.zero_le _, fun l2 hl2 => ?_⟩
        have hl20 := W.fresh hl2
        replace W := W.newF (u := .lst (([] : List Str).map V.str)) hl2
        walk_at "w"
        refine w_st_words (ys := []) W hl20 T fun H7 W => ?_
        walk_at "w"
        refine w_st_spot W T fun H8 W _ => ?_
        walk_at "w"
        refine w_slL (SqL.of W.told) fun r hr => ?_
        rw [cutV_from (by omega), iv_drop]
        have hr0 := W.fresh hr
        exact k _ _ _ (sJ.free hr0) (((W.newF hr).lessU hUU).less0 (same_beside sJ))
end
end WH
set_option Elab.async false
set_option linter.all false
set_option maxRecDepth 100000
set_option maxHeartbeats 4000000
namespace WH
open PySem PySem.Spec PyProof.Rows L2
/-- nothing leaves the law -/
def CXn : CXT := fun _ _ _ _ _ _ => False
/-- every law's promise -/
def spLaw (K : PySem.W.Frag) : Sp := fun vs H Q _ => ∃ (a : Addr) (ns : List Int), vs = [.ref a] ∧ SqL K H a (iv ns) ∧ ns.length ≤ 1000 ∧ ∀ H', Q (.bl true) H'
def FinOk (P : Program) (n : Nat) : Prop := ∀ (w : World) (K : PySem.W.Frag) (mg : Str → Option Value) (h : Heap) (fa : Addr), K.In h → h.Ns mainGlobals mg → He.SaysT faD fnD tsD w K → exD K = true → mg ("law" : Str) = some (.ref fa) →
    ∃ fd : FuncData, (∀ (s : Shared) (v : Value), BindsTo s fd ⟨[v], []⟩ [("_law_script", v)]) ∧ ∀ base : Heap, K.In base → base.Ns mainGlobals mg → FnOk P w K mg base CXn n fa fd ["_law_script"] (spLaw K)
end WH
section
open PySem PySem.W PySem.Calls PyProof.Rows
set_option maxHeartbeats 0 in
theorem WH.end_of (F : WH.FinOk (PySem.Challenge.rw_wordhoard_k13_loops).prog 18) : PySem.Challenge.rw_wordhoard_k13_loops.Holds := by
  w_on; o_law
  refine HandSHeadRun.head_any (r := OpenLaw.row PySem.Challenge.rw_wordhoard_k13_loops) (q := view (OpenLaw.row PySem.Challenge.rw_wordhoard_k13_loops).prog [57]) (H := WH.hkD) (ob := WH.obD) (M := 20000) (loose := WH.loose) (d := HandSHeadRun.topDef (OpenLaw.row PySem.Challenge.rw_wordhoard_k13_loops).prog 57) (kwd := []) WH.obD_eq
    (by kernel_rfl) (fun s => by kernel_rfl) WH.runD (by kernel_rfl) (by kernel_rfl) (by kernel_rfl) (by rfl) (by first | assumption | decide +kernel) (by decide +kernel) ⟨rfl, rfl, rfl, rfl, rfl, by decide +kernel⟩ ?hw ?hc
  case hw => w_witness2
  case hc =>
    refine L2.walk_ofE (l := PySem.Challenge.rw_wordhoard_k13_loops) (n := 63) (k := 18) (x := "_law_script") (CX := WH.CXn) rfl (by decide) (by kernel_rfl) ⟨rfl, by decide, by decide⟩ ?F (fun _ _ _ _ z => z)
    intro w mg fa h Y G hmg0
    obtain ⟨K, KX, c, e⟩ := Y
    have hmg : mg ("law" : PySem.Str) = some (.ref fa) := by
      have e : (HandSHeadRun.topDef (OpenLaw.row PySem.Challenge.rw_wordhoard_k13_loops).prog 57).name = ("law" : PySem.Str) := by kernel_rfl
      rw [← e]
      exact hmg0
    obtain ⟨fd, hb, hF⟩ := F w K mg h fa KX G c e hmg
    exact ⟨K, fd, WH.spLaw K, KX, hb, fun H a ns hl _ hS => ⟨a, ns, rfl, hS, Nat.le_trans hl (by decide), fun _ => rfl⟩, hF⟩
end
set_option Elab.async false
set_option linter.all false
set_option maxRecDepth 100000
set_option maxHeartbeats 2000000
namespace WH
open PySem PySem.Spec PyProof.Rows L2
local macro_rules | `(tactic| walk_at "w") => `(tactic| repeat (with_reducible first
  | (refine is_te ?_; first | refine w_var (by with_unfolding_all rfl) ?_ | refine w_c ?_ | refine w_op ?_ | refine w_cb ?_ | refine w_call ?_ | refine w_self (by assumption) (by with_unfolding_all rfl) (by decide +kernel) ?_ | refine w_ife ?_ | (refine is_fld ?_; first | refine w_cells (by assumption) (by assumption) (by with_unfolding_all rfl) ?_ | refine w_stack (by assumption) (by assumption) (by with_unfolding_all rfl) ?_ | refine w_back (by assumption) (by assumption) (by with_unfolding_all rfl) ?_ | refine w_most_cells (by assumption) (by assumption) (by with_unfolding_all rfl) ?_ | refine w_most_stack (by assumption) (by assumption) (by with_unfolding_all rfl) ?_ | refine w_book (by assumption) (by assumption) (by with_unfolding_all rfl) ?_ | refine w_spot (by assumption) (by assumption) (by with_unfolding_all rfl) ?_ | refine w_left (by assumption) (by assumption) (by with_unfolding_all rfl) ?_ | refine w_at (by assumption) (by assumption) (by with_unfolding_all rfl) ?_ | refine w_told (by assumption) (by assumption) (by with_unfolding_all rfl) ?_ | refine w_words (by assumption) (by assumption) (by with_unfolding_all rfl) ?_ | refine w_mode (by assumption) (by assumption) (by with_unfolding_all rfl) ?_ | refine w_ties (by assumption) (by assumption) (by with_unfolding_all rfl) ?_ | refine w_many_deeds (by assumption) (by assumption) (by with_unfolding_all rfl) ?_ | refine w_steps (by assumption) (by assumption) (by with_unfolding_all rfl) ?_ | refine w_fld ?_) | refine w_lst ?_ | refine w_tup ?_ | refine w_bm ?_ | refine w_bm0 ?_ | refine w_un ?_ | refine w_sl ?_ | refine w_chain ?_)
  | (refine is_ta ?_; first | refine w_cons ?_ | refine w_nil ?_)
  | refine w_gn ?_
  | (refine is_ts ?_; first | refine w_seq ?_ | refine w_asg ?_ | refine w_ifs ?_ | refine w_drop ?_ | refine w_next ?_ | refine w_ret ?_ | refine w_retN ?_ | refine w_sfld ?_ | refine w_augS ?_ | refine w_aug_spot (by assumption) (by assumption) (by with_unfolding_all rfl) ?_ | refine w_aug_left (by assumption) (by assumption) (by with_unfolding_all rfl) ?_ | refine w_aug_at (by assumption) (by assumption) (by with_unfolding_all rfl) ?_)
  | (refine is_tt ?_; first | refine w_test ?_ | refine w_and ?_ | refine w_or ?_ | refine w_not ?_ | refine w_tB ?_)
  | (refine is_r2 ?_; first | refine w_i0 ?_ | refine w_eqt ?_ | refine w_eqi ?_ | refine w_net ?_ | refine w_nei ?_ | refine w_isN ?_ | refine w_notN ?_ | refine w_rAdd ?_ | refine w_rSub ?_ | refine w_ipI ?_)
  | (refine is_ty ?_; first | refine w_tyS' (by assumption) ?_ | refine w_tyC (by assumption) ?_ | refine w_tyB (by assumption) ?_ | refine w_tyT (by assumption) ?_ | refine w_tyK (by assumption) ?_ | refine w_tyI (by assumption) ?_)
  | (refine is_ln ?_; first | refine w_lnS (by assumption) ?_ | refine w_lnC (by assumption) ?_ | refine w_lnB (by assumption) ?_ | refine w_lnT (by assumption) ?_ | refine w_lnW (by assumption) ?_ | refine w_lnK (by assumption) ?_)
  | (refine is_rf ?_; first | refine e_kind (by assumption) (by assumption) ?_ | refine e_name (by assumption) (by assumption) ?_ | refine e_number (by assumption) (by assumption) ?_ | refine e_start (by assumption) (by assumption) ?_ | refine e_end (by assumption) (by assumption) ?_ | refine e_was (by assumption) (by assumption) ?_ | refine e_worth (by assumption) (by assumption) ?_ | refine e_beyond (by assumption) (by assumption) ?_ | refine e_is_now (by assumption) (by assumption) ?_)
  | refine w_bl ?_ | refine w_mkw ?_ | refine w_mknw ?_ | refine w_part1 ?_ | refine w_neg ?_ | refine w_smk ?_ | refine w_smkn ?_ | refine w_noP ?_ | refine w_part ?_ | refine w_gcut ?_ | refine w_gsub ?_))

def emp : Hp := fun _ => none
section
variable {c : Cn} {a l : Addr} {H0 hs H H1 : Hp} {K : PySem.W.Frag} {o u : HO} {fs : List (Str × V)} {dx : Addr} {f : Str} {y : V}
theorem same_trans {H2 : Hp} (s1 : Same H H1) (s2 : Same H1 H2) : Same H H2 := fun b u e => s2 _ _ (s1 _ _ e)
theorem Sep.gain (s : Sep H0 hs H) (sm : Same H H1) (hl : H l = none) (h1 : H1 l = some o) : Sep (upd H0 l o) hs H1 := by
  refine ⟨fun b => ?_, fun b v q => ?_, fun b v q => sm _ _ (s.own b v q)⟩
  · by_cases e : b = l
    · rw [e]
      exact .inr (s.freshs hl)
    · rw [upd_ne e]
      exact s.dj b
  · by_cases e : b = l
    · rw [e, upd_same] at q
      rw [e, h1]
      exact q
    · rw [upd_ne e] at q
      exact sm _ _ (s.fr b v q)
theorem Sep.drop (s : Sep (upd H0 l o) hs H) (h : H0 l = none) : Sep H0 hs H := by
  have sm : Same H0 (upd H0 l o) := same_new h
  refine ⟨fun b => ?_, fun b v q => s.fr b v (sm b v q), s.own⟩
  rcases s.dj b with z | z
  · left
    by_cases q : b = l
    · rw [q]
      exact h
    · rw [upd_ne q] at z
      exact z
  · exact .inr z
theorem w_stI {R : Hp → Prop} (s : Sep H0 hs H) (ha : hs a = some (.ins c.CH dx fs)) (T : HCls K c) (hf : hKeys.contains f = true) (hz : fs.length < 1000)
    (q : ∀ H1 hs', Sep H0 hs' H1 → hs' a = some (.ins c.CH dx (putF f y fs)) → (∀ x ys, hs x = some (.lst ys) → hs' x = some (.lst ys)) → (∀ q e, entV c hs q e → entV c hs' q e) → R H1) : rSfld K f y (.ref a) H R := by
  refine ⟨a, c.CH, dx, fs, rfl, s.own _ _ ha, T.cH, T.nH _ hf, hz, q _ _ (s.put ha) upd_same (fun x ys h => ?_) fun q e h => entV_self ha h⟩
  rw [upd_ne (ne_of h ha fun z => nomatch z)]
  exact h
theorem newI (s : Sep H0 hs H) (ha : hs a = some o) (hl : H l = none) : ∃ hs', Sep H0 hs' (upd H l (.lst [])) ∧ hs' l = some (.lst []) ∧ hs' a = some o ∧ ∀ x, hs x = some (.lst []) → hs' x = some (.lst []) ∧ x ≠ l := by
  have hn := s.freshs hl
  refine ⟨_, s.new hl, upd_same, (upd_ne (ne_of_none ha hn)).trans ha, fun x h => ⟨(upd_ne (ne_of_none h hn)).trans h, ne_of_none h hn⟩⟩
theorem w_rfldI {v : V} {Q : VK} (s : Sep H0 hs H) (ha : hs a = some (.ins c.CH dx fs)) (T : HCls K c) (hf : hKeys.contains f = true) (hl : fs.lookup f = some v) (q : Q v H) : rFld K f (.ref a) H Q :=
  ⟨a, c.CH, dx, fs, v, rfl, s.own _ _ ha, T.cH, T.nH _ hf, hl, q⟩
theorem mkEnt_sep {e : Ent} {n m : Nat} {gV : List V → List V → List V} {vs zs : List V} {Q' : VK} {E : XK} (s : Sep H0 hs H) (hb : e.beyond = none) (h1 : vs.length = n) (h2 : zs.length = m)
    (hg : ∀ x, gV (.ref x :: vs) zs = [.ref x, .int e.num, .str e.name, .str e.kind.str, .int e.start, .int e.fin, .int e.worth, .bl e.now])
    (q : ∀ (b : Addr × Addr) H1, Sep H0 hs H1 → H0 b.1 = none → hs b.1 = none → H1 b.1 = some (.ins c.CE b.2 (eF e)) → Q' (.ref b.1) H1) : MkN c.CE n m (spEntryInit c) gV E vs zs H Q' :=
  ⟨h1, h2, fun x dx hx hdx hne => by
    rw [hg]
    refine ⟨x, e.num, e.name, e.kind, e.start, e.fin, e.worth, e.now, rfl, ⟨dx, upd_same⟩, fun dx' h => ⟨rfl, ?_⟩⟩
    rw [upd_same] at h
    injection h with h1
    injection h1 with _ h2 _
    subst h2
    rw [upd_upd]
    have ee : ({ num := e.num, name := e.name, kind := e.kind, start := e.start, fin := e.fin, worth := e.worth, beyond := none, now := e.now } : Ent) = e := by
      cases e
      cases hb
      rfl
    rw [ee]
    have hx2 : upd H dx (.own x) x = none := by
      rw [upd_ne hne.symm]
      exact hx
    exact q (x, dx) _ ((s.skip hdx).skip hx2) (s.fresh0 hx) (s.freshs hx) upd_same⟩
def Mk0 (C : Addr) (sp : Sp) (dvs : List V) (E : XK) (vs : List V) (H : Hp) (Q : VK) : Prop := ∀ x dx, H x = none → H dx = none → dx ≠ x → sp (V.ref x :: (vs ++ dvs)) (upd (upd H dx (.own x)) x (.ins C dx [])) (fun v H3 => v = .non ∧ Q (.ref x) H3) E
theorem w_mk0 {C : Addr} {sp : Sp} {dvs : List V} {E : XK} {t : TA} {σ : L2.St} {Q : VK} (q : t σ H fun vs H2 => Mk0 C sp dvs E vs H2 Q) : tMake C sp dvs E t σ H Q := q
theorem mkEnt0 {vs dvs : List V} {E : XK} {Q : VK} (q : MkN c.CE vs.length dvs.length (spEntryInit c) (fun vs zs => vs ++ zs) E vs dvs H Q) : Mk0 c.CE (spEntryInit c) dvs E vs H Q := q.2.2
end
def f12 (mc ms : Int) (lc ls lb lk lt : Addr) : List (Str × V) := ([("cells", .ref lc), ("most_cells", .int mc), ("stack", .ref ls), ("most_stack", .int ms), ("back", .ref lb), ("book", .ref lk), ("spot", .int (-1)), ("left", .int 0)] : List (Str × V)) ++ ([("at", .int 0), ("told", .ref lt), ("opened", .non), ("steps", .non)] : List (Str × V))
def f15 (mc ms : Int) (lc ls lb lk lt lw li : Addr) : List (Str × V) := ([("cells", .ref lc), ("most_cells", .int mc), ("stack", .ref ls), ("most_stack", .int ms), ("back", .ref lb), ("book", .ref lk), ("spot", .int (-1)), ("left", .int 0)] : List (Str × V)) ++ ([("at", .int 0), ("told", .ref lt), ("opened", .non), ("steps", .non), ("words", .ref lw), ("mode", .bl false), ("ties", .ref li)] : List (Str × V))
theorem f15_book {mc ms : Int} {lc ls lb lk lt lw li : Addr} : (f15 mc ms lc ls lb lk lt lw li).lookup ("book" : Str) = some (.ref lk) := by kernel_rfl
theorem f15_many {mc ms : Int} {lc ls lb lk lt lw li : Addr} {x : Int} {dx : Addr} {es : List (Addr × Addr)} : putF "many_deeds" (.int x) (f15 mc ms lc ls lb lk lt lw li) = hF { newHouse mc ms with many := x } { L := ⟨lc, ls, lb, lk, lt, lw, li⟩, dx := dx, ov := .non, es := es } := by kernel_rfl
theorem entsFrom_snoc {now : Bool} {z : Str} : ∀ {xs : List Str} {k i : Nat}, xs[i]? = some z → entsFrom now k (xs.take (i + 1)) = entsFrom now k (xs.take i) ++ [{ num := ((k + i : Nat) : Int), name := z, kind := .deed, start := 0, fin := 0, worth := 0, beyond := none, now := now }]
  | [], k, i, h => by simp at h
  | x :: r, k, 0, h => by
    simp at h
    subst h
    rfl
  | x :: r, k, i + 1, h => by
    have ih := entsFrom_snoc (now := now) (xs := r) (k := k + 1) (i := i) (by simpa using h)
    show _ :: entsFrom now (k + 1) (r.take (i + 1)) = (_ :: entsFrom now (k + 1) (r.take i)) ++ _
    rw [ih, show k + 1 + i = k + (i + 1) by omega]
    rfl
structure Pre1 (c : Cn) (a dx : Addr) (mc ms : Int) (lc ls lb lk lt : Addr) (hs : Hp) : Prop where
  ob : hs a = some (.ins c.CH dx (f12 mc ms lc ls lb lk lt))
  hlc : hs lc = some (.lst [])
  hls : hs ls = some (.lst [])
  hlb : hs lb = some (.lst [])
  hlk : hs lk = some (.lst [])
  hlt : hs lt = some (.lst [])
  ne : [lc, ls, lb, lk, lt].Nodup
/-- a house whose book is being filled -/
structure Pre2 (c : Cn) (a dx : Addr) (mc ms : Int) (lc ls lb lk lt lw li : Addr) (es : List (Addr × Addr)) (bk : List Ent) (hs : Hp) : Prop where
  ob : hs a = some (.ins c.CH dx (f15 mc ms lc ls lb lk lt lw li))
  hlc : hs lc = some (.lst [])
  hls : hs ls = some (.lst [])
  hlb : hs lb = some (.lst [])
  hlt : hs lt = some (.lst [])
  hlw : hs lw = some (.lst [])
  hli : hs li = some (.lst [])
  book : hs lk = some (.lst (refs es))
  ents : All2 (entV c hs) es bk
  nd : (es.map (·.1)).Nodup
  ne : [lc, ls, lb, lt, lw, li, lk].Nodup
section
variable {c : Cn} {a dx lc ls lb lk lt lw li : Addr} {mc ms : Int} {es : List (Addr × Addr)} {bk : List Ent} {hs H0 H : Hp} {e : Ent} {b : Addr × Addr} {k : VK}
theorem Pre2.push (P : Pre2 c a dx mc ms lc ls lb lk lt lw li es bk hs) (hb : hs b.1 = none) : Pre2 c a dx mc ms lc ls lb lk lt lw li (es ++ [b]) (bk ++ [e]) (upd (upd hs b.1 (.ins c.CE b.2 (eF e))) lk (.lst (refs (es ++ [b])))) := by
  have sm : Same hs (upd hs b.1 (.ins c.CE b.2 (eF e))) := same_new hb
  have hk := sm _ _ P.book
  have h1 := P.ne
  simp only [List.nodup_cons, List.mem_cons, not_or, List.not_mem_nil, not_false_eq_true, and_true, List.nodup_nil] at h1
  have kp : ∀ {d : Addr} {v : HO}, hs d = some v → d ≠ lk → upd (upd hs b.1 (.ins c.CE b.2 (eF e))) lk (.lst (refs (es ++ [b]))) d = some v := fun q z => by
    rw [upd_ne z]
    exact sm _ _ q
  have ek : ∀ {q : Addr × Addr} {e' : Ent}, upd hs b.1 (.ins c.CE b.2 (eF e)) q.1 = some (.ins c.CE q.2 (eF e')) → entV c (upd (upd hs b.1 (.ins c.CE b.2 (eF e))) lk (.lst (refs (es ++ [b])))) q e' := fun h => by
    unfold entV
    rw [upd_ne (ne_of h hk fun z => nomatch z)]
    exact h
  refine ⟨kp P.ob (ne_of P.ob P.book fun z => nomatch z), kp P.hlc (by simp_all), kp P.hls (by simp_all), kp P.hlb (by simp_all), kp P.hlt (by simp_all), kp P.hlw (by simp_all), kp P.hli (by simp_all), upd_same, ?_, ?_, P.ne⟩
  · exact (P.ents.imp fun _ _ _ _ r => ek (sm _ _ r)).app (.cons (ek upd_same) .nil)
  · rw [List.map_append]
    refine List.nodup_append.mpr ⟨P.nd, by simp, fun x hx y hy z => ?_⟩
    have hy' : y = b.1 := by simpa using hy
    subst hy'
    subst z
    obtain ⟨q, hq, e1⟩ := List.mem_map.mp hx
    obtain ⟨i, hi⟩ := List.mem_iff_getElem?.mp hq
    obtain ⟨e', _, r⟩ := P.ents.getL hi
    have r' : hs q.1 = some (.ins c.CE q.2 (eF e')) := r
    rw [e1, hb] at r'
    cases r'
theorem w_push2 (s : Sep H0 hs H) (P : Pre2 c a dx mc ms lc ls lb lk lt lw li es bk hs) (h0 : H0 b.1 = none) (hb : hs b.1 = none) (hH : H b.1 = some (.ins c.CE b.2 (eF e))) (hz : es.length < 1000)
    (q : ∀ H1 hs', Sep H0 hs' H1 → Pre2 c a dx mc ms lc ls lb lk lt lw li (es ++ [b]) (bk ++ [e]) hs' → k .non H1) : rAppend (.ref lk) [.ref b.1] H k := by
  refine ⟨lk, refs es, .ref b.1, rfl, rfl, s.own _ _ P.book, by
    have e1 : (refs es).length = es.length := List.length_map ..
    rw [e1]
    exact Nat.lt_of_lt_of_le hz (by decide), ?_⟩
  have e1 : refs es ++ [V.ref b.1] = refs (es ++ [b]) := by
    unfold refs
    rw [List.map_append]
    rfl
  rw [e1]
  have s1 := s.claim h0 hH hb
  exact q _ _ (s1.put (same_new hb _ _ P.book)) (P.push hb)
end
section
variable {P : Program} {w : World} {K : PySem.W.Frag} {mg : Str → Option Value} {base : Heap} {c : Cn} {cls : Err → Addr}
def spDeedNames : Sp := fun vs H Q _ => vs = [] ∧ ∀ H1 l, Same H H1 → H l = none → H1 l = some (.lst (deedNames.map V.str)) → Q (.ref l) H1
theorem w_kls {H : Hp} {Q : VK} {d : Addr} {ks : List Str} (q : ∀ l, H l = none → Q (.ref l) (upd H l (.lst (ks.map V.str)))) : rKls d ks [.ref d] H Q := ⟨rfl, q⟩
theorem w_catS {H : Hp} {Q : VK} {l b : Addr} {xs ys zs : List Str} (h : H l = some (.lst (xs.map V.str))) (h' : H b = some (.lst (ys.map V.str))) (hz : xs.length + ys.length ≤ 1000) (e : xs ++ ys = zs) (q : ∀ p, H p = none → Q (.ref p) (upd H p (.lst (zs.map V.str)))) : rCat (.ref l) (.ref b) H Q := by
  refine w_cat h h' (by rw [List.length_map, List.length_map]; exact Nat.le_trans hz (by decide)) ?_
  rw [← List.map_append, e]
  exact q
theorem sc_deed_names : FnScope [] [] (defScope (top 47)) := ⟨rfl, rfl, rfl, by decide +kernel, rfl, by decide +kernel, by decide +kernel⟩
theorem ok_deed_names {f : Addr} {fd : FuncData} (F : FnT K "deed_names" "deed_names" (top 47) [] [] f fd) (g : Gb w K mg) (T : HCls K c) (R : Er P w K mg base cls) {fes : Array DictEntry} {fn : Nat} (FD : KDict K w (He.ga K "FACES") fes fn) (hk : fes.toList.map keyName = (faces.map (·.1)).map some) : FnOk P w K mg base (L2N.CX P w) 1 f fd [] spDeedNames := by
  refine F.ok sc_deed_names (fun vs H Q E h => ?_) (fun cdv A outer s H vs Q E hr h => ?_)
  · obtain ⟨rfl, _⟩ := h
    rfl
  · obtain ⟨rfl, k⟩ := h
    try dsimp only at k
    refine ⟨_, (pss_one (ps_ret (pe_op op_cat (pe_op op_cat (pe_op op_cat (pe_op op_cat (pe_op op_cat (pe_op op_cat (pe_callTy (call_kls FD hk rfl (by decide +kernel)) (by rfl) g.list (by decide +kernel) (pa_cons (pe_gR g.rFACES) pa_nil)) (pe_callTy call_lso (by rfl) g.list (by decide +kernel) (pa_cons (pe_gR g.rSIDEWISE) pa_nil))) (pe_callTy call_lso (by rfl) g.list (by decide +kernel) (pa_cons (pe_gR g.rSTORING) pa_nil))) (pe_callTy call_lso (by rfl) g.list (by decide +kernel) (pa_cons (pe_gR g.rPAIRED) pa_nil))) (pe_callTy call_lso (by rfl) g.list (by decide +kernel) (pa_cons (pe_gR g.rOTHERS) pa_nil))) (pe_callTy call_lso (by rfl) g.list (by decide +kernel) (pa_cons (pe_gR g.rMAKING) pa_nil))) (pe_callTy call_lso (by rfl) g.list (by decide +kernel) (pa_cons (pe_gR g.rNAMING) pa_nil))))), ?_⟩
    try dsimp only [cxOf_K]
    walk_at "w"
    refine w_kls fun l hl => ?_
    have sm := same_new (o := .lst ((faces.map (·.1)).map V.str)) hl
    have hl1 : upd H l (.lst ((faces.map (·.1)).map V.str)) l = some (.lst ((faces.map (·.1)).map V.str)) := upd_same
    generalize upd H l (.lst ((faces.map (·.1)).map V.str)) = H1 at sm hl1 ⊢
    walk_at "w"
    refine w_lsoT (g.tSIDEWISE _) fun m0 hm0 => ?_
    have lm0 : l ≠ m0 := ne_of_none hl1 hm0
    have smb0 := same_trans sm (same_new (o := .lst (sidewise.map V.str)) hm0)
    have hma0 : upd H1 m0 (.lst (sidewise.map V.str)) m0 = some (.lst (sidewise.map V.str)) := upd_same
    have hlb0 : upd H1 m0 (.lst (sidewise.map V.str)) l = some (.lst ((faces.map (·.1)).map V.str)) := (upd_ne lm0).trans hl1
    generalize upd H1 m0 (.lst (sidewise.map V.str)) = HB0 at smb0 hma0 hlb0 ⊢
    walk_at "w"
    refine w_catS hlb0 hma0 (by decide +kernel) (zs := faces.map (·.1) ++ sidewise) rfl fun p0 hp0 => ?_
    have smc0 := same_trans smb0 (same_new (o := .lst ((faces.map (·.1) ++ sidewise).map V.str)) hp0)
    have hp00 : H p0 = none := smb0.free hp0
    have hpc0 : upd HB0 p0 (.lst ((faces.map (·.1) ++ sidewise).map V.str)) p0 = some (.lst ((faces.map (·.1) ++ sidewise).map V.str)) := upd_same
    generalize upd HB0 p0 (.lst ((faces.map (·.1) ++ sidewise).map V.str)) = HC0 at smc0 hpc0 ⊢
    walk_at "w"
    refine w_lsoT (g.tSTORING _) fun m1 hm1 => ?_
    have lm1 : p0 ≠ m1 := ne_of_none hpc0 hm1
    have smb1 := same_trans smc0 (same_new (o := .lst (storing.map V.str)) hm1)
    have hma1 : upd HC0 m1 (.lst (storing.map V.str)) m1 = some (.lst (storing.map V.str)) := upd_same
    have hlb1 : upd HC0 m1 (.lst (storing.map V.str)) p0 = some (.lst ((faces.map (·.1) ++ sidewise).map V.str)) := (upd_ne lm1).trans hpc0
    generalize upd HC0 m1 (.lst (storing.map V.str)) = HB1 at smb1 hma1 hlb1 ⊢
    walk_at "w"
    refine w_catS hlb1 hma1 (by decide +kernel) (zs := faces.map (·.1) ++ sidewise ++ storing) rfl fun p1 hp1 => ?_
    have smc1 := same_trans smb1 (same_new (o := .lst ((faces.map (·.1) ++ sidewise ++ storing).map V.str)) hp1)
    have hp01 : H p1 = none := smb1.free hp1
    have hpc1 : upd HB1 p1 (.lst ((faces.map (·.1) ++ sidewise ++ storing).map V.str)) p1 = some (.lst ((faces.map (·.1) ++ sidewise ++ storing).map V.str)) := upd_same
    generalize upd HB1 p1 (.lst ((faces.map (·.1) ++ sidewise ++ storing).map V.str)) = HC1 at smc1 hpc1 ⊢
    walk_at "w"
    refine w_lsoT (g.tPAIRED _) fun m2 hm2 => ?_
    have lm2 : p1 ≠ m2 := ne_of_none hpc1 hm2
    have smb2 := same_trans smc1 (same_new (o := .lst (paired.map V.str)) hm2)
    have hma2 : upd HC1 m2 (.lst (paired.map V.str)) m2 = some (.lst (paired.map V.str)) := upd_same
    have hlb2 : upd HC1 m2 (.lst (paired.map V.str)) p1 = some (.lst ((faces.map (·.1) ++ sidewise ++ storing).map V.str)) := (upd_ne lm2).trans hpc1
    generalize upd HC1 m2 (.lst (paired.map V.str)) = HB2 at smb2 hma2 hlb2 ⊢
    walk_at "w"
    refine w_catS hlb2 hma2 (by decide +kernel) (zs := faces.map (·.1) ++ sidewise ++ storing ++ paired) rfl fun p2 hp2 => ?_
    have smc2 := same_trans smb2 (same_new (o := .lst ((faces.map (·.1) ++ sidewise ++ storing ++ paired).map V.str)) hp2)
    have hp02 : H p2 = none := smb2.free hp2
    have hpc2 : upd HB2 p2 (.lst ((faces.map (·.1) ++ sidewise ++ storing ++ paired).map V.str)) p2 = some (.lst ((faces.map (·.1) ++ sidewise ++ storing ++ paired).map V.str)) := upd_same
    generalize upd HB2 p2 (.lst ((faces.map (·.1) ++ sidewise ++ storing ++ paired).map V.str)) = HC2 at smc2 hpc2 ⊢
    walk_at "w"
    refine w_lsoT (g.tOTHERS _) fun m3 hm3 => ?_
    have lm3 : p2 ≠ m3 := ne_of_none hpc2 hm3
    have smb3 := same_trans smc2 (same_new (o := .lst (others.map V.str)) hm3)
    have hma3 : upd HC2 m3 (.lst (others.map V.str)) m3 = some (.lst (others.map V.str)) := upd_same
    have hlb3 : upd HC2 m3 (.lst (others.map V.str)) p2 = some (.lst ((faces.map (·.1) ++ sidewise ++ storing ++ paired).map V.str)) := (upd_ne lm3).trans hpc2
    generalize upd HC2 m3 (.lst (others.map V.str)) = HB3 at smb3 hma3 hlb3 ⊢
    walk_at "w"
    refine w_catS hlb3 hma3 (by decide +kernel) (zs := faces.map (·.1) ++ sidewise ++ storing ++ paired ++ others) rfl fun p3 hp3 => ?_
    have smc3 := same_trans smb3 (same_new (o := .lst ((faces.map (·.1) ++ sidewise ++ storing ++ paired ++ others).map V.str)) hp3)
    have hp03 : H p3 = none := smb3.free hp3
    have hpc3 : upd HB3 p3 (.lst ((faces.map (·.1) ++ sidewise ++ storing ++ paired ++ others).map V.str)) p3 = some (.lst ((faces.map (·.1) ++ sidewise ++ storing ++ paired ++ others).map V.str)) := upd_same
    generalize upd HB3 p3 (.lst ((faces.map (·.1) ++ sidewise ++ storing ++ paired ++ others).map V.str)) = HC3 at smc3 hpc3 ⊢
    walk_at "w"
    refine w_lsoT (g.tMAKING _) fun m4 hm4 => ?_
    have lm4 : p3 ≠ m4 := ne_of_none hpc3 hm4
    have smb4 := same_trans smc3 (same_new (o := .lst (making.map V.str)) hm4)
    have hma4 : upd HC3 m4 (.lst (making.map V.str)) m4 = some (.lst (making.map V.str)) := upd_same
    have hlb4 : upd HC3 m4 (.lst (making.map V.str)) p3 = some (.lst ((faces.map (·.1) ++ sidewise ++ storing ++ paired ++ others).map V.str)) := (upd_ne lm4).trans hpc3
    generalize upd HC3 m4 (.lst (making.map V.str)) = HB4 at smb4 hma4 hlb4 ⊢
    walk_at "w"
    refine w_catS hlb4 hma4 (by decide +kernel) (zs := faces.map (·.1) ++ sidewise ++ storing ++ paired ++ others ++ making) rfl fun p4 hp4 => ?_
    have smc4 := same_trans smb4 (same_new (o := .lst ((faces.map (·.1) ++ sidewise ++ storing ++ paired ++ others ++ making).map V.str)) hp4)
    have hp04 : H p4 = none := smb4.free hp4
    have hpc4 : upd HB4 p4 (.lst ((faces.map (·.1) ++ sidewise ++ storing ++ paired ++ others ++ making).map V.str)) p4 = some (.lst ((faces.map (·.1) ++ sidewise ++ storing ++ paired ++ others ++ making).map V.str)) := upd_same
    generalize upd HB4 p4 (.lst ((faces.map (·.1) ++ sidewise ++ storing ++ paired ++ others ++ making).map V.str)) = HC4 at smc4 hpc4 ⊢
    walk_at "w"
    refine w_lsoT (g.tNAMING _) fun m5 hm5 => ?_
    have lm5 : p4 ≠ m5 := ne_of_none hpc4 hm5
    have smb5 := same_trans smc4 (same_new (o := .lst (naming.map V.str)) hm5)
    have hma5 : upd HC4 m5 (.lst (naming.map V.str)) m5 = some (.lst (naming.map V.str)) := upd_same
    have hlb5 : upd HC4 m5 (.lst (naming.map V.str)) p4 = some (.lst ((faces.map (·.1) ++ sidewise ++ storing ++ paired ++ others ++ making).map V.str)) := (upd_ne lm5).trans hpc4
    generalize upd HC4 m5 (.lst (naming.map V.str)) = HB5 at smb5 hma5 hlb5 ⊢
    walk_at "w"
    refine w_catS hlb5 hma5 (by decide +kernel) (zs := faces.map (·.1) ++ sidewise ++ storing ++ paired ++ others ++ making ++ naming) rfl fun p5 hp5 => ?_
    have smc5 := same_trans smb5 (same_new (o := .lst ((faces.map (·.1) ++ sidewise ++ storing ++ paired ++ others ++ making ++ naming).map V.str)) hp5)
    have hp05 : H p5 = none := smb5.free hp5
    have hpc5 : upd HB5 p5 (.lst ((faces.map (·.1) ++ sidewise ++ storing ++ paired ++ others ++ making ++ naming).map V.str)) p5 = some (.lst ((faces.map (·.1) ++ sidewise ++ storing ++ paired ++ others ++ making ++ naming).map V.str)) := upd_same
    generalize upd HB5 p5 (.lst ((faces.map (·.1) ++ sidewise ++ storing ++ paired ++ others ++ making ++ naming).map V.str)) = HC5 at smc5 hpc5 ⊢
    walk_at "w"
    exact k _ _ smc5 hp05 hpc5
def spMachInit (c : Cn) : Sp := fun vs H Q _ => ∃ (a dx : Addr) (mc ms : Int) (H0 : Hp), vs = [.ref a, .int mc, .int ms] ∧ Sep H0 (upd emp a (.ins c.CH dx [])) H ∧
  ∀ H1 hs lc ls lb lk lt, Sep H0 hs H1 → Pre1 c a dx mc ms lc ls lb lk lt hs → Q .non H1
theorem sc_Machine_init : FnScope ["self", "most_cells", "most_stack"] ["self", "most_cells", "most_stack"] (defScope (inClass (top 38) 0)) := ⟨rfl, rfl, rfl, by decide +kernel, rfl, by decide +kernel, by decide +kernel⟩
theorem ok_Machine_init {f : Addr} {fd : FuncData} (F : FnT K "__init__" "Machine.__init__" (inClass (top 38) 0) [] [] f fd) (g : Gb w K mg) (T : HCls K c) (R : Er P w K mg base cls) : FnOk P w K mg base (L2N.CX P w) 1 f fd ["self", "most_cells", "most_stack"] (spMachInit c) := by
  refine F.ok sc_Machine_init (fun vs H Q E h => ?_) (fun cdv A outer s H vs Q E hr h => ?_)
  · obtain ⟨a, dx, mc, ms, H0, rfl, _⟩ := h
    rfl
  · obtain ⟨a, dx, mc, ms, H0, rfl, s, k⟩ := h
    try dsimp only at k
    refine ⟨_, (pss_cons (ps_fld (pv 0) (pe_lst pa_nil) rfl)
      (pss_cons (ps_fld (pv 0) (pv 1) rfl)
      (pss_cons (ps_fld (pv 0) (pe_lst pa_nil) rfl)
      (pss_cons (ps_fld (pv 0) (pv 2) rfl)
      (pss_cons (ps_fld (pv 0) (pe_lst pa_nil) rfl)
      (pss_cons (ps_fld (pv 0) (pe_lst pa_nil) rfl)
      (pss_cons (ps_fld (pv 0) (pe_gI g.iNOWHERE) rfl)
      (pss_cons (ps_fld (pv 0) pe_int rfl)
      (pss_cons (ps_fld (pv 0) pe_int rfl)
      (pss_cons (ps_fld (pv 0) (pe_lst pa_nil) rfl)
      (pss_cons (ps_fld (pv 0) pe_non rfl)
      (pss_one (ps_fld (pv 0) pe_non rfl))))))))))))), ?_⟩
    try dsimp only [cxOf_K]
    have ha : upd emp a (.ins c.CH dx []) a = some (.ins c.CH dx []) := upd_same
    generalize upd emp a (.ins c.CH dx []) = hs at s ha
    walk_at "w"
    refine ⟨Nat.zero_le _, fun lc nlc => ?_⟩
    obtain ⟨hs_1, s, hlc, ha, kp⟩ := newI s ha nlc
    clear nlc
    clear kp
    generalize upd _ lc (.lst []) = HH at s ⊢
    walk_at "w"
    refine w_stI s ha T (by decide +kernel) (Nat.le_of_ble_eq_true rfl) fun HH hs_2 s ha kp _ => ?_
    replace hlc := kp _ _ hlc
    clear kp
    walk_at "w"
    refine w_stI s ha T (by decide +kernel) (Nat.le_of_ble_eq_true rfl) fun HH hs_3 s ha kp _ => ?_
    replace hlc := kp _ _ hlc
    clear kp
    walk_at "w"
    refine ⟨Nat.zero_le _, fun ls nls => ?_⟩
    obtain ⟨hs_4, s, hls, ha, kp⟩ := newI s ha nls
    clear nls
    obtain ⟨hlc, dlc_ls⟩ := kp _ hlc
    clear kp
    generalize upd _ ls (.lst []) = HH at s ⊢
    walk_at "w"
    refine w_stI s ha T (by decide +kernel) (Nat.le_of_ble_eq_true rfl) fun HH hs_5 s ha kp _ => ?_
    replace hlc := kp _ _ hlc
    replace hls := kp _ _ hls
    clear kp
    walk_at "w"
    refine w_stI s ha T (by decide +kernel) (Nat.le_of_ble_eq_true rfl) fun HH hs_6 s ha kp _ => ?_
    replace hlc := kp _ _ hlc
    replace hls := kp _ _ hls
    clear kp
    walk_at "w"
    refine ⟨Nat.zero_le _, fun lb nlb => ?_⟩
    obtain ⟨hs_7, s, hlb, ha, kp⟩ := newI s ha nlb
    clear nlb
    obtain ⟨hlc, dlc_lb⟩ := kp _ hlc
    obtain ⟨hls, dls_lb⟩ := kp _ hls
    clear kp
    generalize upd _ lb (.lst []) = HH at s ⊢
    walk_at "w"
    refine w_stI s ha T (by decide +kernel) (Nat.le_of_ble_eq_true rfl) fun HH hs_8 s ha kp _ => ?_
    replace hlc := kp _ _ hlc
    replace hls := kp _ _ hls
    replace hlb := kp _ _ hlb
    clear kp
    walk_at "w"
    refine ⟨Nat.zero_le _, fun lk nlk => ?_⟩
    obtain ⟨hs_9, s, hlk, ha, kp⟩ := newI s ha nlk
    clear nlk
    obtain ⟨hlc, dlc_lk⟩ := kp _ hlc
    obtain ⟨hls, dls_lk⟩ := kp _ hls
    obtain ⟨hlb, dlb_lk⟩ := kp _ hlb
    clear kp
    generalize upd _ lk (.lst []) = HH at s ⊢
    walk_at "w"
    refine w_stI s ha T (by decide +kernel) (Nat.le_of_ble_eq_true rfl) fun HH hs_10 s ha kp _ => ?_
    replace hlc := kp _ _ hlc
    replace hls := kp _ _ hls
    replace hlb := kp _ _ hlb
    replace hlk := kp _ _ hlk
    clear kp
    walk_at "w"
    refine w_stI s ha T (by decide +kernel) (Nat.le_of_ble_eq_true rfl) fun HH hs_11 s ha kp _ => ?_
    replace hlc := kp _ _ hlc
    replace hls := kp _ _ hls
    replace hlb := kp _ _ hlb
    replace hlk := kp _ _ hlk
    clear kp
    walk_at "w"
    refine w_stI s ha T (by decide +kernel) (Nat.le_of_ble_eq_true rfl) fun HH hs_12 s ha kp _ => ?_
    replace hlc := kp _ _ hlc
    replace hls := kp _ _ hls
    replace hlb := kp _ _ hlb
    replace hlk := kp _ _ hlk
    clear kp
    walk_at "w"
    refine w_stI s ha T (by decide +kernel) (Nat.le_of_ble_eq_true rfl) fun HH hs_13 s ha kp _ => ?_
    replace hlc := kp _ _ hlc
    replace hls := kp _ _ hls
    replace hlb := kp _ _ hlb
    replace hlk := kp _ _ hlk
    clear kp
    walk_at "w"
    refine ⟨Nat.zero_le _, fun lt nlt => ?_⟩
    obtain ⟨hs_14, s, hlt, ha, kp⟩ := newI s ha nlt
    clear nlt
    obtain ⟨hlc, dlc_lt⟩ := kp _ hlc
    obtain ⟨hls, dls_lt⟩ := kp _ hls
    obtain ⟨hlb, dlb_lt⟩ := kp _ hlb
    obtain ⟨hlk, dlk_lt⟩ := kp _ hlk
    clear kp
    generalize upd _ lt (.lst []) = HH at s ⊢
    walk_at "w"
    refine w_stI s ha T (by decide +kernel) (Nat.le_of_ble_eq_true rfl) fun HH hs_15 s ha kp _ => ?_
    replace hlc := kp _ _ hlc
    replace hls := kp _ _ hls
    replace hlb := kp _ _ hlb
    replace hlk := kp _ _ hlk
    replace hlt := kp _ _ hlt
    clear kp
    walk_at "w"
    refine w_stI s ha T (by decide +kernel) (Nat.le_of_ble_eq_true rfl) fun HH hs_16 s ha kp _ => ?_
    replace hlc := kp _ _ hlc
    replace hls := kp _ _ hls
    replace hlb := kp _ _ hlb
    replace hlk := kp _ _ hlk
    replace hlt := kp _ _ hlt
    clear kp
    walk_at "w"
    refine w_stI s ha T (by decide +kernel) (Nat.le_of_ble_eq_true rfl) fun HH hs_17 s ha kp _ => ?_
    replace hlc := kp _ _ hlc
    replace hls := kp _ _ hls
    replace hlb := kp _ _ hlb
    replace hlk := kp _ _ hlk
    replace hlt := kp _ _ hlt
    clear kp
    refine k _ hs_17 lc ls lb lk lt s ⟨?_, hlc, hls, hlb, hlk, hlt, ?_⟩
    · rw [ha]
      congr 2
    · simp only [List.nodup_cons, List.mem_cons, not_or, List.not_mem_nil, not_false_eq_true, and_true, List.nodup_nil]
      exact ⟨⟨dlc_ls, dlc_lb, dlc_lk, dlc_lt⟩, ⟨dls_lb, dls_lk, dls_lt⟩, ⟨dlb_lk, dlb_lt⟩, dlk_lt⟩
def spHouseInit (c : Cn) : Sp := fun vs H Q _ => ∃ (a dx : Addr) (mc ms : Int) (H0 : Hp), vs = [.ref a, .int mc, .int ms] ∧ Sep H0 (upd emp a (.ins c.CH dx [])) H ∧
  ∀ H1 L, HOwn c a (newHouse mc ms) [] L H0 H1 → Q .non H1
theorem sc_House_init : FnScope ["self", "cells", "pile", "name"] ["self", "cells", "pile"] (defScope (inClass (top 48) 0)) := ⟨rfl, rfl, rfl, by decide +kernel, rfl, by decide +kernel, by decide +kernel⟩
theorem ok_House_init {f : Addr} {fd : FuncData} (F : FnT K "__init__" "House.__init__" (inClass (top 48) 0) [] [("cells", .int 400), ("pile", .int 32)] f fd) (g : Gb w K mg) (T : HCls K c) (R : Er P w K mg base cls)
    (M_Machine_init : OffOk P w K mg base "Machine" "__init__" 1 (spMachInit c) [])
    (F_deed_names : CallOk P w K mg base "deed_names" 1 spDeedNames [])
    (M_Entry : MakeOk P w K mg base "Entry" c.CE 1 (spEntryInit c) [.int 0, .int 0, .int 0, .bl false])
    (M_Entry_is_now : MakeKOk P w K mg base "Entry" c.CE 1 (spEntryInit c) 3 (["is_now"] : List Str) (fun vs zs => vs ++ [.int 0, .int 0, .int 0] ++ zs)) : FnOk P w K mg base (L2N.CX P w) 3 f fd ["self", "cells", "pile"] (spHouseInit c) := by
  refine F.ok sc_House_init (fun vs H Q E h => ?_) (fun cdv A outer s H vs Q E hr h => ?_)
  · obtain ⟨a, dx, mc, ms, H0, rfl, _⟩ := h
    rfl
  · obtain ⟨a, dx, mc, ms, H0, rfl, s, k⟩ := h
    try dsimp only at k
    refine ⟨_, (pss_cons (ps_expr (pe_oM M_Machine_init (hr.mono (by first | decide | omega)) (L2N.passes_call (L2N.takes_of rfl rfl rfl rfl) fun _ _ _ _ z => z) (pa_cons (pv 0) (pa_cons (pv 1) (pa_cons (pv 2) pa_nil)))))
      (pss_cons (ps_fld (pv 0) (pe_lst pa_nil) rfl)
      (pss_cons (ps_fld (pv 0) pe_bl rfl)
      (pss_cons (ps_fld (pv 0) (pe_lst pa_nil) rfl)
      (pss_cons (ps_for (passes_of rfl) rfl (pi_list (pe_fM0 F_deed_names (hr.mono (by first | decide | omega)) (L2N.passes_call (L2N.takes_of rfl rfl rfl rfl) fun _ _ _ _ z => z))) (pg_name (i := 3) sc_House_init.nd rfl (Or.inl rfl)) (pss_one (ps_expr (pe_bm PySem.F.plainAttrs_list PySem.F.slot_list_append PySem.F.type_list_append mt_append (pe_fld (pv 0) rfl) (pa_cons (pe_cM M_Entry (hr.mono (by first | decide | omega)) (L2N.passes_call (L2N.takes_of rfl rfl rfl rfl) fun _ _ _ _ z => z) (pa_cons (pe_callB call_ln (by rfl) g.len PySem.boot_len (pa_cons (pe_fld (pv 0) rfl) pa_nil)) (pa_cons (pv 3) (pa_cons pe_str pa_nil)))) pa_nil)))))
      (pss_cons (ps_for (passes_of rfl) rfl (pi_tup (pe_gR g.rNOW)) (pg_name (i := 3) sc_House_init.nd rfl (Or.inl rfl)) (pss_one (ps_expr (pe_bm PySem.F.plainAttrs_list PySem.F.slot_list_append PySem.F.type_list_append mt_append (pe_fld (pv 0) rfl) (pa_cons (pe_cMK M_Entry_is_now (hr.mono (by first | decide | omega)) (L2N.passes_call (L2N.takes_of rfl rfl rfl rfl) fun _ _ _ _ z => z) (pa_cons (pe_callB call_ln (by rfl) g.len PySem.boot_len (pa_cons (pe_fld (pv 0) rfl) pa_nil)) (pa_cons (pv 3) (pa_cons pe_str pa_nil))) (pk_cons pe_bl pk_nil)) pa_nil)))))
      (pss_one (ps_fld (pv 0) (pe_callB call_ln (by rfl) g.len PySem.boot_len (pa_cons (pe_fld (pv 0) rfl) pa_nil)) rfl)))))))), ?_⟩
    try dsimp only [cxOf_K]
    walk_at "w"
    refine ⟨a, dx, mc, ms, H0, rfl, s, fun HH hs lc ls lb lk lt s P1 => ?_⟩
    obtain ⟨ha, hlc, hls, hlb, hlk, hlt, hne⟩ := P1
    walk_at "w"
    refine ⟨Nat.zero_le _, fun lw nlw => ?_⟩
    obtain ⟨hs_1, s, hlw, ha, kp⟩ := newI s ha nlw
    clear nlw
    obtain ⟨hlc, dlc_lw⟩ := kp _ hlc
    obtain ⟨hls, dls_lw⟩ := kp _ hls
    obtain ⟨hlb, dlb_lw⟩ := kp _ hlb
    obtain ⟨hlk, dlk_lw⟩ := kp _ hlk
    obtain ⟨hlt, dlt_lw⟩ := kp _ hlt
    clear kp
    generalize upd _ lw (.lst []) = HH at s ⊢
    walk_at "w"
    refine w_stI s ha T (by decide +kernel) (Nat.le_of_ble_eq_true rfl) fun HH hs_2 s ha kp _ => ?_
    replace hlc := kp _ _ hlc
    replace hls := kp _ _ hls
    replace hlb := kp _ _ hlb
    replace hlk := kp _ _ hlk
    replace hlt := kp _ _ hlt
    replace hlw := kp _ _ hlw
    clear kp
    walk_at "w"
    refine w_stI s ha T (by decide +kernel) (Nat.le_of_ble_eq_true rfl) fun HH hs_3 s ha kp _ => ?_
    replace hlc := kp _ _ hlc
    replace hls := kp _ _ hls
    replace hlb := kp _ _ hlb
    replace hlk := kp _ _ hlk
    replace hlt := kp _ _ hlt
    replace hlw := kp _ _ hlw
    clear kp
    walk_at "w"
    refine ⟨Nat.zero_le _, fun li nli => ?_⟩
    obtain ⟨hs_4, s, hli, ha, kp⟩ := newI s ha nli
    clear nli
    obtain ⟨hlc, dlc_li⟩ := kp _ hlc
    obtain ⟨hls, dls_li⟩ := kp _ hls
    obtain ⟨hlb, dlb_li⟩ := kp _ hlb
    obtain ⟨hlk, dlk_li⟩ := kp _ hlk
    obtain ⟨hlt, dlt_li⟩ := kp _ hlt
    obtain ⟨hlw, dlw_li⟩ := kp _ hlw
    clear kp
    generalize upd _ li (.lst []) = HH at s ⊢
    walk_at "w"
    refine w_stI s ha T (by decide +kernel) (Nat.le_of_ble_eq_true rfl) fun HH hs_5 s ha kp _ => ?_
    replace hlc := kp _ _ hlc
    replace hls := kp _ _ hls
    replace hlb := kp _ _ hlb
    replace hlk := kp _ _ hlk
    replace hlt := kp _ _ hlt
    replace hlw := kp _ _ hlw
    replace hli := kp _ _ hli
    clear kp
    have P2 : Pre2 c a dx mc ms lc ls lb lk lt lw li [] [] hs_5 := by
      refine ⟨?_, hlc, hls, hlb, hlt, hlw, hli, hlk, .nil, List.nodup_nil, ?_⟩
      · rw [ha]
        congr 2
      · simp only [List.nodup_cons, List.mem_cons, not_or, List.not_mem_nil, not_false_eq_true, and_true, List.nodup_nil] at hne ⊢
        refine ⟨⟨hne.1.1, hne.1.2.1, hne.1.2.2.2, dlc_lw, dlc_li, hne.1.2.2.1⟩, ⟨hne.2.1.1, hne.2.1.2.2, dls_lw, dls_li, hne.2.1.2.1⟩, ⟨hne.2.2.1.2, dlb_lw, dlb_li, hne.2.2.1.1⟩, ⟨dlt_lw, dlt_li, fun z => hne.2.2.2 z.symm⟩, ⟨dlw_li, fun z => dlk_lw z.symm⟩, fun z => dlk_li z.symm⟩
    clear ha hlc hls hlb hlk hlt hlw hli
    walk_at "w"
    unfold tFor iList
    walk_at "w"
    refine ⟨rfl, fun H2 l sm hl hl1 => ?_⟩
    refine ⟨l, rfl, ⟨_, SqL.of hl1⟩, ?_⟩
    have s1 := s.gain sm hl hl1
    have hl0 := s.fresh0 hl
    refine for_list (xs := deedNames.map V.str) (fun i σ H' => (∃ o, σ = [some (.ref a), some (.int mc), some (.int ms), o]) ∧ ∃ hs es, Sep (upd H0 l (.lst (deedNames.map V.str))) hs H' ∧ Pre2 c a dx mc ms lc ls lb lk lt lw li es (entsFrom false 0 (deedNames.take i)) hs ∧ es.length = i) ⟨⟨none, rfl⟩, _, [], s1, P2, rfl⟩ (fun i σ H' _ h => ?_) (fun i x σ H' hx h => ?_) (fun σ H' h => ?_)
    · obtain ⟨_, hs, es, s, _, _⟩ := h
      exact SqL.of (s.fr _ _ upd_same)
    · obtain ⟨⟨o, rfl⟩, hs, es, s, P, he⟩ := h
      have hi : i < 100 := by
        obtain ⟨l1, _⟩ := List.getElem?_eq_some_iff.mp hx
        rw [List.length_map] at l1
        exact Nat.lt_of_lt_of_le l1 (by decide +kernel)
      rw [List.getElem?_map] at hx
      cases hz : deedNames[i]? with
      | none =>
        rw [hz] at hx
        cases hx
      | some z =>
        rw [hz] at hx
        cases hx
        walk_at "w"
        refine w_rfldI s P.ob T (by decide +kernel) f15_book ?_
        refine w_ty (s.own _ _ P.book) ?_
        walk_at "w"
        refine w_mk0 ?_
        walk_at "w"
        refine w_rfldI s P.ob T (by decide +kernel) f15_book ?_
        walk_at "w"
        refine w_lnG (s.own _ _ P.book) ?_
        walk_at "w"
        refine mkEnt0 (mkEnt_sep (e := { num := ((refs es).length : Int), name := z, kind := .deed, start := 0, fin := 0, worth := 0, beyond := none, now := false }) (gV := fun vs zs => vs ++ zs) (vs := [V.int ((refs es).length : Int), .str z, .str "deed"]) (zs := [.int 0, .int 0, .int 0, .bl false]) s rfl rfl rfl (fun x => rfl) fun b H3 s3 h0 hb hH => ?_)
        walk_at "w"
        refine w_push2 s3 P h0 hb hH (by omega) fun H4 hs' s4 P4 => ?_
        walk_at "w"
        refine ⟨⟨_, rfl⟩, hs', es ++ [b], s4, ?_, by rw [List.length_append, he]; rfl⟩
        rw [entsFrom_snoc hz]
        have e1 : (refs es).length = 0 + i := by
          rw [show (refs es).length = es.length from List.length_map .., he, Nat.zero_add]
        rw [e1] at P4
        exact P4
    · obtain ⟨⟨o, rfl⟩, hs, es, s, P, he⟩ := h
      rw [List.length_map] at P he
      rw [List.take_of_length_le (Nat.le_refl _)] at P
      replace s := s.drop hl0
      clear hl1 s1 sm hl P2
      walk_at "w"
      unfold iTup
      walk_at "w"
      refine ⟨_, rfl, ⟨_, g.tNOW _⟩, ?_⟩
      refine for_tup (xs := nowWords.map V.str) (fun i σ H' => (∃ o, σ = [some (.ref a), some (.int mc), some (.int ms), o]) ∧ ∃ hs es, Sep H0 hs H' ∧ Pre2 c a dx mc ms lc ls lb lk lt lw li es (entsFrom false 0 deedNames ++ entsFrom true deedNames.length (nowWords.take i)) hs ∧ es.length = deedNames.length + i) ⟨⟨o, rfl⟩, hs, es, s, by rw [List.take_zero]; exact (List.append_nil (entsFrom false 0 deedNames)).symm ▸ P, by rw [he]; rfl⟩ (fun i σ H' _ h => g.tNOW _) (fun i x σ H' hx h => ?_) (fun σ H' h => ?_)
      · obtain ⟨⟨o, rfl⟩, hs, es, s, P, he⟩ := h
        have hi : i < 100 := by
          obtain ⟨l1, _⟩ := List.getElem?_eq_some_iff.mp hx
          rw [List.length_map] at l1
          exact Nat.lt_of_lt_of_le l1 (by decide +kernel)
        have hd : deedNames.length ≤ 100 := by decide +kernel
        rw [List.getElem?_map] at hx
        cases hz : nowWords[i]? with
        | none =>
          rw [hz] at hx
          cases hx
        | some z =>
          rw [hz] at hx
          cases hx
          walk_at "w"
          refine w_rfldI s P.ob T (by decide +kernel) f15_book ?_
          refine w_ty (s.own _ _ P.book) ?_
          walk_at "w"
          refine w_mkK ?_
          walk_at "w"
          refine w_rfldI s P.ob T (by decide +kernel) f15_book ?_
          walk_at "w"
          refine w_lnG (s.own _ _ P.book) ?_
          walk_at "w"
          refine mkEnt_sep (e := { num := ((refs es).length : Int), name := z, kind := .deed, start := 0, fin := 0, worth := 0, beyond := none, now := true }) s rfl rfl rfl (fun x => rfl) fun b H3 s3 h0 hb hH => ?_
          walk_at "w"
          refine w_push2 s3 P h0 hb hH (by omega) fun H4 hs' s4 P4 => ?_
          walk_at "w"
          refine ⟨⟨_, rfl⟩, hs', es ++ [b], s4, ?_, by rw [List.length_append, he]; rfl⟩
          rw [entsFrom_snoc hz, ← List.append_assoc]
          have e1 : (refs es).length = deedNames.length + i := by
            rw [show (refs es).length = es.length from List.length_map .., he]
          rw [e1] at P4
          exact P4
      · obtain ⟨⟨o, rfl⟩, hs, es, s, P, he⟩ := h
        rw [List.length_map] at P he
        rw [List.take_of_length_le (Nat.le_refl _)] at P
        walk_at "w"
        refine w_rfldI s P.ob T (by decide +kernel) f15_book ?_
        walk_at "w"
        refine w_lnG (s.own _ _ P.book) ?_
        walk_at "w"
        have hl2 : (refs es).length = deedEnts.length := (List.length_map ..).trans P.ents.len
        rw [hl2]
        refine w_stI s P.ob T (by decide +kernel) (Nat.le_of_ble_eq_true rfl) fun H5 hs5 s5 ha5 kp ke => ?_
        refine k H5 ⟨lc, ls, lb, lk, lt, lw, li⟩ ⟨hs5, { L := ⟨lc, ls, lb, lk, lt, lw, li⟩, dx := dx, ov := .non, es := es }, s5, ?_, rfl⟩
        exact {
          ob := by
            rw [ha5, f15_many (dx := dx) (es := es)]
            rfl
          cells := kp _ _ P.hlc
          stack := kp _ _ P.hls
          back := kp _ _ P.hlb
          told := kp _ _ P.hlt
          words := kp _ _ P.hlw
          ties := ⟨[], kp _ _ P.hli, .nil⟩
          op := rfl
          book := kp _ _ P.book
          ents := P.ents.imp fun _ _ _ _ r => ke _ _ r
          nd := P.nd
          ne := P.ne
          un := fun u hu => nomatch hu }
def spPile (c : Cn) : Sp := fun vs H Q _ => ∃ (p : Addr) (S : MS) (U : List Seen) (L : Ls) (H0 : Hp), vs = [.ref p] ∧ HOwn c p S U L H0 H ∧ ∀ H1 r, H0 r = none → HOwn c p S U L (upd H0 r (.lst (iv S.stack))) H1 → Q (.ref r) H1
theorem sc_pile : FnScope ["self"] ["self"] (defScope (inClass (top 48) 1)) := ⟨rfl, rfl, rfl, by decide +kernel, rfl, by decide +kernel, by decide +kernel⟩
theorem ok_pile {f : Addr} {fd : FuncData} (F : FnT K "pile" "House.pile" (inClass (top 48) 1) [] [] f fd) (g : Gb w K mg) (T : HCls K c) (R : Er P w K mg base cls) : FnOk P w K mg base (L2N.CX P w) 1 f fd ["self"] (spPile c) := by
  refine F.ok sc_pile (fun vs H Q E h => ?_) (fun cdv A outer s H vs Q E hr h => ?_)
  · obtain ⟨p, S, U, L, H0, rfl, _⟩ := h
    rfl
  · obtain ⟨p, S, U, L, H0, rfl, W, k⟩ := h
    try dsimp only at k
    refine ⟨_, (pss_one (ps_ret (pe_callTy call_lso (by rfl) g.list (by decide +kernel) (pa_cons (pe_fld (pv 0) rfl) pa_nil)))), ?_⟩
    try dsimp only [cxOf_K]
    walk_at "w"
    refine w_lso (SqL.of W.stack) fun r hr => ?_
    exact k _ r (W.fresh hr) (W.newF hr)
end
end WH
set_option Elab.async false
set_option linter.all false
set_option maxRecDepth 100000
set_option maxHeartbeats 2000000
namespace WH
open PySem PySem.Spec PyProof.Rows L2
local macro_rules | `(tactic| walk_at "w") => `(tactic| repeat (with_reducible first
  | (refine is_te ?_; first | refine w_var (by with_unfolding_all rfl) ?_ | refine w_c ?_ | refine w_op ?_ | refine w_cb ?_ | refine w_call ?_ | refine w_self (by assumption) (by with_unfolding_all rfl) (by decide +kernel) ?_ | refine w_ife ?_ | (refine is_fld ?_; first | refine w_cells (by assumption) (by assumption) (by with_unfolding_all rfl) ?_ | refine w_stack (by assumption) (by assumption) (by with_unfolding_all rfl) ?_ | refine w_back (by assumption) (by assumption) (by with_unfolding_all rfl) ?_ | refine w_most_cells (by assumption) (by assumption) (by with_unfolding_all rfl) ?_ | refine w_most_stack (by assumption) (by assumption) (by with_unfolding_all rfl) ?_ | refine w_book (by assumption) (by assumption) (by with_unfolding_all rfl) ?_ | refine w_spot (by assumption) (by assumption) (by with_unfolding_all rfl) ?_ | refine w_left (by assumption) (by assumption) (by with_unfolding_all rfl) ?_ | refine w_at (by assumption) (by assumption) (by with_unfolding_all rfl) ?_ | refine w_told (by assumption) (by assumption) (by with_unfolding_all rfl) ?_ | refine w_words (by assumption) (by assumption) (by with_unfolding_all rfl) ?_ | refine w_mode (by assumption) (by assumption) (by with_unfolding_all rfl) ?_ | refine w_ties (by assumption) (by assumption) (by with_unfolding_all rfl) ?_ | refine w_many_deeds (by assumption) (by assumption) (by with_unfolding_all rfl) ?_ | refine w_steps (by assumption) (by assumption) (by with_unfolding_all rfl) ?_ | refine w_fld ?_) | refine w_lst ?_ | refine w_tup ?_ | refine w_bm ?_ | refine w_bm0 ?_ | refine w_un ?_ | refine w_sl ?_ | refine w_chain ?_)
  | (refine is_ta ?_; first | refine w_cons ?_ | refine w_nil ?_)
  | refine w_gn ?_
  | (refine is_ts ?_; first | refine w_seq ?_ | refine w_asg ?_ | refine w_ifs ?_ | refine w_drop ?_ | refine w_next ?_ | refine w_ret ?_ | refine w_retN ?_ | refine w_sfld ?_ | refine w_augS ?_ | refine w_aug_spot (by assumption) (by assumption) (by with_unfolding_all rfl) ?_ | refine w_aug_left (by assumption) (by assumption) (by with_unfolding_all rfl) ?_ | refine w_aug_at (by assumption) (by assumption) (by with_unfolding_all rfl) ?_)
  | (refine is_tt ?_; first | refine w_test ?_ | refine w_and ?_ | refine w_or ?_ | refine w_not ?_ | refine w_tB ?_)
  | (refine is_r2 ?_; first | refine w_i0 ?_ | refine w_eqt ?_ | refine w_eqi ?_ | refine w_net ?_ | refine w_nei ?_ | refine w_isN ?_ | refine w_notN ?_ | refine w_rAdd ?_ | refine w_rSub ?_ | refine w_ipI ?_)
  | (refine is_ty ?_; first | refine w_tyS' (by assumption) ?_ | refine w_tyC (by assumption) ?_ | refine w_tyB (by assumption) ?_ | refine w_tyT (by assumption) ?_ | refine w_tyK (by assumption) ?_ | refine w_tyI (by assumption) ?_)
  | (refine is_ln ?_; first | refine w_lnS (by assumption) ?_ | refine w_lnC (by assumption) ?_ | refine w_lnB (by assumption) ?_ | refine w_lnT (by assumption) ?_ | refine w_lnW (by assumption) ?_ | refine w_lnK (by assumption) ?_)
  | (refine is_rf ?_; first | refine e_kind (by assumption) (by assumption) ?_ | refine e_name (by assumption) (by assumption) ?_ | refine e_number (by assumption) (by assumption) ?_ | refine e_start (by assumption) (by assumption) ?_ | refine e_end (by assumption) (by assumption) ?_ | refine e_was (by assumption) (by assumption) ?_ | refine e_worth (by assumption) (by assumption) ?_ | refine e_beyond (by assumption) (by assumption) ?_ | refine e_is_now (by assumption) (by assumption) ?_)
  | refine w_bl ?_ | refine w_mkw ?_ | refine w_mknw ?_ | refine w_part1 ?_ | refine w_neg ?_ | refine w_smk ?_ | refine w_smkn ?_ | refine w_noP ?_ | refine w_part ?_ | refine w_gcut ?_ | refine w_gsub ?_))

section
variable {P : Program} {w : World} {K : PySem.W.Frag} {mg : Str → Option Value} {base : Heap} {c : Cn} {cls : Err → Addr}
def spHere (c : Cn) : Sp := fun vs H Q _ => ∃ (p : Addr) (S : MS) (U : List Seen) (L : Ls) (H0 : Hp), vs = [.ref p] ∧ HOwn c p S U L H0 H ∧ (S.cells.length : Int) < 2 ^ 29 ∧ ∀ H1, HOwn c p S U L H0 H1 → Q (.int (S.cells.length : Int)) H1
theorem sc_here : FnScope ["self"] ["self"] (defScope (inClass (top 48) 2)) := ⟨rfl, rfl, rfl, by decide +kernel, rfl, by decide +kernel, by decide +kernel⟩
theorem ok_here {f : Addr} {fd : FuncData} (F : FnT K "here" "House.here" (inClass (top 48) 2) [] [] f fd) (g : Gb w K mg) (T : HCls K c) (R : Er P w K mg base cls) : FnOk P w K mg base (L2N.CX P w) 1 f fd ["self"] (spHere c) := by
  refine F.ok sc_here (fun vs H Q E h => ?_) (fun cdv A outer s H vs Q E hr h => ?_)
  · obtain ⟨p, S, U, L, H0, rfl, _⟩ := h
    rfl
  · obtain ⟨p, S, U, L, H0, rfl, W, hz, k⟩ := h
    try dsimp only at k
    refine ⟨_, (pss_one (ps_ret (pe_callB call_ln (by rfl) g.len PySem.boot_len (pa_cons (pe_fld (pv 0) rfl) pa_nil)))), ?_⟩
    try dsimp only [cxOf_K]
    walk_at "w"
    exact k _ W
def cellV (S : MS) (i : Int) : V := if 0 ≤ i ∧ i < (S.cells.length : Int) then .int (cellAt S i) else .non
def spCell (c : Cn) : Sp := fun vs H Q _ => ∃ (p : Addr) (S : MS) (U : List Seen) (L : Ls) (H0 : Hp) (i : Int), vs = [.ref p, .int i] ∧ HOwn c p S U L H0 H ∧ ∀ H1, HOwn c p S U L H0 H1 → Q (cellV S i) H1
theorem sc_cell : FnScope ["self", "address"] ["self", "address"] (defScope (inClass (top 48) 3)) := ⟨rfl, rfl, rfl, by decide +kernel, rfl, by decide +kernel, by decide +kernel⟩
theorem ok_cell {f : Addr} {fd : FuncData} (F : FnT K "cell" "House.cell" (inClass (top 48) 3) [] [] f fd) (g : Gb w K mg) (T : HCls K c) (R : Er P w K mg base cls) : FnOk P w K mg base (L2N.CX P w) 1 f fd ["self", "address"] (spCell c) := by
  refine F.ok sc_cell (fun vs H Q E h => ?_) (fun cdv A outer s H vs Q E hr h => ?_)
  · obtain ⟨p, S, U, L, H0, i, rfl, _⟩ := h
    rfl
  · obtain ⟨p, S, U, L, H0, i, rfl, W, k⟩ := h
    try dsimp only at k
    refine ⟨_, (pss_one (ps_ret (pe_ifExp (pt_chain op_le op_lt pe_int (pv 1) (pe_callB call_ln (by rfl) g.len PySem.boot_len (pa_cons (pe_fld (pv 0) rfl) pa_nil))) (pe_ix ix_list (pe_fld (pv 0) rfl) (pv 1) (fun _ _ => rfl)) pe_non))), ?_⟩
    try dsimp only [cxOf_K]
    walk_at "w"
    refine ite_dec (fun h0 => ?_) (fun h0 => ?_)
    · walk_at "w"
      refine ite_dec (fun h1 => ?_) (fun h1 => ?_)
      · walk_at "w"
        refine w_cellAt W h0 h1 ?_
        have := k _ W
        rw [cellV, if_pos ⟨h0, h1⟩] at this
        exact this
      · walk_at "w"
        have := k _ W
        rw [cellV, if_neg fun z => h1 z.2] at this
        exact this
    · refine ⟨false, rfl, ?_⟩
      refine iteF ?_
      walk_at "w"
      have := k _ W
      rw [cellV, if_neg fun z => h0 z.1] at this
      exact this
end
end WH
set_option Elab.async false
set_option linter.all false
set_option maxRecDepth 100000
set_option maxHeartbeats 4000000
namespace WH
open PySem PySem.Spec PyProof.Rows L2
theorem oexB_ok {K : PySem.W.Frag} {C : Addr} (q : oexB K C = true) : ∃ nm q N bs bm sn sub ab col dd k0 k1 k2 k3 k5, K.lookup C = some (excClassObj nm q C N bs bm true sn sub ab col dd k0 k1 k2 k3 k5 "ValueError.__new__") ∧ PySem.HandSPX.refsVE bm = true := by
  unfold oexB at q
  split at q
  · rename_i dd cd sl ho
    split at q
    · rename_i C' bm k0 k1 k2 k3 n k5 hm hs
      simp only [Bool.and_eq_true, beq_iff_eq, Bool.not_eq_true'] at q
      obtain ⟨⟨rfl, rfl⟩, hdel, hdct, hbm⟩ := q
      obtain ⟨nm, bs, mro, ns, qn, hd, sn, sub, ab, col, del⟩ := cd
      dsimp only at hm hdel hdct
      subst hm hdel hdct
      have hsl : sl = #[k0, k1, k2, k3, some (.builtin "ValueError.__new__"), k5] := by
        obtain ⟨l⟩ := sl
        simp only at hs
        rw [hs]
      subst hsl
      exact ⟨nm, qn, ns, bs, bm, sn, sub, ab, col, dd, k0, k1, k2, k3, k5, ho, hbm⟩
    · cases q
  · cases q
theorem errB_ok {K : PySem.W.Frag} {x : Str} (h : errB K x = true) : OexC K (He.ga K x) ∧ PySem.W.findIn K (.ref (He.ga K x)) "place" = some none ∧ PySem.W.findIn K (.ref (He.ga K x)) "__init__" = some (some (.ref (He.ma K (He.ga K x) "__init__"))) ∧ PySem.W.typeIn K (.ref (He.ma K (He.ga K x) "__init__")) = some (.type "function") := by
  obtain ⟨h1, h⟩ := He.ba h
  obtain ⟨h2, h⟩ := He.ba h
  obtain ⟨h3, h⟩ := He.ba h
  obtain ⟨h4, h⟩ := He.ba h
  obtain ⟨h5, h⟩ := He.ba h
  obtain ⟨h6, h⟩ := He.ba h
  obtain ⟨h7, h8⟩ := He.ba h
  exact ⟨⟨oexB_ok h1, He.eqO_ok h2, of_decide_eq_true h3, of_decide_eq_true h4, h5⟩, He.eqO_ok h6, He.eqO_ok h7, of_decide_eq_true h8⟩
theorem offB_ok {K : PySem.W.Frag} {x : Str} (h : offB K x = true) : ClX.CRead K (He.ga K x) (.type "type") ∧ PySem.W.findCls K (.ref (He.ga K x)) (.type "type") "__init__" = some (.val (.ref (He.ma K (He.ga K x) "__init__"))) ∧ PySem.W.keepIn K (.ref (He.ma K (He.ga K x) "__init__")) = true := by
  obtain ⟨h1, h⟩ := He.ba h
  obtain ⟨h2, h⟩ := He.ba h
  obtain ⟨h3, h4⟩ := He.ba h
  refine ⟨⟨h1, of_decide_eq_true h2⟩, ?_, h4⟩
  split at h3
  · rename_i f e
    rw [e, of_decide_eq_true h3]
  · cases h3
theorem tup2B_ok {K : PySem.W.Frag} {a : Addr} {i j : Int} (h : tup2B K a i j = true) (H : Hp) : SqT K H a [.int i, .int j] := by
  unfold tup2B at h
  split at h
  · rename_i c d its n sl q
    obtain ⟨h1, h2⟩ := He.ba h
    obtain ⟨h3, h4⟩ := He.ba h2
    exact .inr ⟨_, its, n, q, congrArg Value.type (of_decide_eq_true h1), rfl, of_decide_eq_true h3, He.relAll_ok h4⟩
  · cases h
theorem facesB_keys {K : PySem.W.Frag} {w : World} {es : Array DictEntry} {n : Nat} (h : facesB K = true) (D : KDict K w (He.ga K "FACES") es n) : es.toList.map keyName = (faces.map (·.1)).map some := by
  obtain ⟨h1, _⟩ := He.ba h
  rw [D.at_] at h1
  exact of_decide_eq_true h1
theorem facesB_val {K : PySem.W.Frag} (h : facesB K = true) (k : Str) (n l : Int) (e : faces.lookup k = some (n, l)) : ∃ t, PySem.W.nsIn K (He.ga K "FACES") k = some (some (.ref t)) ∧ ∀ H, SqT K H t [.int n, .int l] := by
  obtain ⟨_, h2⟩ := He.ba h
  have h3 := List.all_eq_true.mp h2 _ (faces_mem e)
  dsimp only at h3
  split at h3
  · rename_i t q
    exact ⟨t, q, fun H => tup2B_ok h3 H⟩
  · cases h3
theorem facesB_no {K : PySem.W.Frag} {w : World} {es : Array DictEntry} {n : Nat} (h : facesB K = true) (D : KDict K w (He.ga K "FACES") es n) (k : Str) (e : faces.lookup k = none) : PySem.W.nsIn K (He.ga K "FACES") k = some none := by
  have hk := facesB_keys h D
  have key : ∀ x ∈ es.toList, ∃ z t, x.key = .str z t ∧ z ∈ faces.map (·.1) := fun x hx => by
    have h1 : keyName x ∈ es.toList.map keyName := List.mem_map.mpr ⟨x, hx, rfl⟩
    rw [hk] at h1
    obtain ⟨z, hz, e1⟩ := List.mem_map.mp h1
    unfold keyName at e1
    split at e1
    · rename_i z' t e2
      cases e1
      exact ⟨z, t, e2, hz⟩
    · cases e1
  have nk : ¬ k ∈ faces.map (·.1) := by
    rcases lookup_isSome (z := k) (fs := faces) with ⟨_, h2⟩ | ⟨n, l, h1, _⟩
    · exact h2
    · rw [h1] at e
      cases e
  unfold PySem.W.nsIn
  rw [D.at_]
  have f1 : es.toList.find? (·.key.isStr k) = none := by
    refine List.find?_eq_none.mpr fun x hx => ?_
    obtain ⟨z, t, e1, e2⟩ := key x hx
    rw [e1]
    intro q
    have q' : z = k := by simpa [Value.isStr] using q
    exact nk (q' ▸ e2)
  have f2 : es.toList.any (·.refKey) = false := by
    refine List.any_eq_false.mpr fun x hx => ?_
    obtain ⟨z, t, e1, e2⟩ := key x hx
    unfold DictEntry.refKey
    rw [e1]
    exact Bool.false_ne_true
  dsimp only
  rw [f1, f2]
  rfl
theorem dvS_v {K : PySem.W.Frag} (l : List Str) : (dvS l).map (He.Dv.v K) = l.map V.str := by
  unfold dvS
  rw [List.map_map]
  rfl
structure ErrL (K : PySem.W.Frag) (x : Str) : Prop where
  xf : XfC K (He.ga K x)
  cl : (PySem.W.clsIn K (He.ga K x)).isSome = true
  ty : PySem.W.typeIn K (.ref (He.ga K x)) = some (.type "type")
  ca : PySem.W.findIn K (.ref (He.ga K x)) "__class__" = some (some (.builtin "object.__class__"))
  sub : ∃ r : List Value, (∀ v, PySem.W.subIn K (.ref (He.ga K x)) v = some ((Value.ref (He.ga K x) :: .ref (He.ga K "WordError") :: r).contains v)) ∧ (∀ b, Value.ref b ∉ r) ∧ Value.type "object" ∈ r ∧ Value.type "ValueError" ∈ r
theorem errL_ok {K : PySem.W.Frag} {x : Str} (h : errL K x = true) : ErrL K x := by
  obtain ⟨h1, h⟩ := He.ba h
  obtain ⟨h2, h⟩ := He.ba h
  obtain ⟨h3, h4⟩ := He.ba h
  split at h4
  · rename_i cd hcd
    split at h4
    · rename_i a b r hm
      simp only [Bool.and_eq_true, beq_iff_eq] at h4
      obtain ⟨e1, e2, e3, e4, e5⟩ := h4
      subst e1 e2
      refine ⟨xfB_ok h1, by rw [hcd]; rfl, of_decide_eq_true h3, of_decide_eq_true h2, r, fun v => ?_, fun b hb => ?_, List.contains_iff_mem.mp e4, List.contains_iff_mem.mp e5⟩
      · show PySem.W.mroIn K (He.ga K x) v = _
        unfold PySem.W.mroIn
        rw [hcd, Option.bind_some, hm]
        rfl
      · have := List.all_eq_true.mp e3 _ hb
        cases this
    · cases h4
  · cases h4
theorem nodup_inj {f : Str → Addr} : ∀ {l : List Str}, (l.map f).Nodup → ∀ x ∈ l, ∀ y ∈ l, f x = f y → x = y
  | [], _, x, hx, _, _, _ => nomatch hx
  | a :: r, h, x, hx, y, hy, e => by
    rw [List.map_cons, List.nodup_cons] at h
    rcases List.mem_cons.mp hx with q1 | q1
    · rcases List.mem_cons.mp hy with q2 | q2
      · rw [q1, q2]
      · exact absurd (List.mem_map.mpr ⟨y, q2, by rw [← e, q1]⟩) h.1
    · rcases List.mem_cons.mp hy with q2 | q2
      · exact absurd (List.mem_map.mpr ⟨x, q1, by rw [e, q2]⟩) h.1
      · exact nodup_inj h.2 x q1 y q2 e
theorem err_sub {K : PySem.W.Frag} {x y : Str} (E : ErrL K x) (nd : (ALLE.map (He.ga K)).Nodup) (hx : x ∈ ALLE) (hy : y ∈ ALLE) : PySem.W.subIn K (.ref (He.ga K x)) (.ref (He.ga K y)) = some (y == "WordError" || x == y) := by
  obtain ⟨r, h1, h2, _, _⟩ := E.sub
  rw [h1]
  congr 1
  rw [Bool.eq_iff_iff, List.contains_iff_mem, Bool.or_eq_true, beq_iff_eq, beq_iff_eq, List.mem_cons, List.mem_cons]
  constructor
  · rintro (e | e | e)
    · exact .inr (nodup_inj nd x hx y hy (Value.ref.inj e).symm)
    · exact .inl (nodup_inj nd y hy "WordError" (List.mem_cons_self ..) (Value.ref.inj e))
    · exact absurd e (h2 _)
  · rintro (e | e)
    · exact .inr (.inl (by rw [e]))
    · exact .inl (by rw [e])
theorem err_kit {K : PySem.W.Frag} {x y : Str} (E : ErrL K x) (nd : (ALLE.map (He.ga K)).Nodup) (hx : x ∈ ALLE) (hy : y ∈ ALLE) (c1 : (PySem.W.clsIn K (He.ga K y)).isSome = true) (c2 : PySem.W.typeIn K (.ref (He.ga K y)) = some (.type "type")) :
    PySem.W.kitCls K (.ref (He.ga K x)) (.ref (He.ga K y)) = some (y == "WordError" || x == y) := by
  have e : ((PySem.W.clsIn K (He.ga K y)).isSome && PySem.W.typeIn K (.ref (He.ga K y)) == some (.type "type")) = true := by
    rw [c1, c2]
    simp
  show (if ((PySem.W.clsIn K (He.ga K y)).isSome && PySem.W.typeIn K (.ref (He.ga K y)) == some (.type "type")) = true then _ else _) = _
  rw [if_pos e]
  exact err_sub E nd hx hy
theorem err_one {K : PySem.W.Frag} {x y : Str} (E : ErrL K x) (nd : (ALLE.map (He.ga K)).Nodup) (hx : x ∈ ALLE) (hy : y ∈ ALLE) (c1 : (PySem.W.clsIn K (He.ga K y)).isSome = true) (c2 : PySem.W.typeIn K (.ref (He.ga K y)) = some (.type "type")) :
    PySem.W.kitOne K (.ref (He.ga K x)) (.ref (He.ga K y)) = some (y == "WordError" || x == y) := by
  unfold PySem.W.kitOne
  split
  · rename_i h
    have h2 : x = y := nodup_inj nd x hx y hy (Value.ref.inj (beq_iff_eq.mp h))
    subst h2
    simp
  · exact err_kit E nd hx hy c1 c2
theorem err_ve {K : PySem.W.Frag} {x : Str} (E : ErrL K x) : PySem.W.kitOne K (.ref (He.ga K x)) (.type "ValueError") = some true := by
  obtain ⟨r, h1, _, _, h4⟩ := E.sub
  have e1 : PySem.W.kitMeta "ValueError" = true := by decide +kernel
  show (if (Value.ref (He.ga K x) == Value.type "ValueError") = true then some true else if PySem.W.kitMeta "ValueError" = true then PySem.W.subIn K (.ref (He.ga K x)) (.type "ValueError") else none) = _
  rw [if_neg (fun z => by have := beq_iff_eq.mp z; cases this), if_pos e1, h1]
  congr 1
  exact List.contains_iff_mem.mpr (List.mem_cons_of_mem _ (List.mem_cons_of_mem _ h4))

def clsD (K : PySem.W.Frag) : Err → Addr
  | .noWord _ => He.ga K "NoWord"
  | .noName => He.ga K "NoName"
  | .short => He.ga K "Short"
  | .deep => He.ga K "Deep"
  | .sideShort => He.ga K "SideShort"
  | .sideDeep => He.ga K "SideDeep"
  | .byNought => He.ga K "ByNought"
  | .badCell => He.ga K "BadCell"
  | .full => He.ga K "Full"
  | .tooLong => He.ga K "TooLong"
  | .unfit => He.ga K "Unfit"
  | .onlyWithin => He.ga K "OnlyWithin"
  | .noForget => He.ga K "NoForget"
/-- all that the program's defs promise -/
structure Ctx (P : Program) (w : World) (K : PySem.W.Frag) (mg : Str → Option Value) (base : Heap) (c : Cn) (cls : Err → Addr) : Prop where
  T : HCls K c
  g : Gb w K mg
  R : Er P w K mg base cls
  gH : mg "House" = some (.ref c.CH)
  M_House : MakeOk P w K mg base "House" c.CH 3 (spHouseInit c) [.int 400, .int 32]
  M_House_pile : MakeKOk P w K mg base "House" c.CH 3 (spHouseInit c) 0 (["pile"] : List Str) (fun vs zs => vs ++ [.int 400] ++ zs)
  M_House_cells : MakeKOk P w K mg base "House" c.CH 3 (spHouseInit c) 0 (["cells"] : List Str) (fun vs zs => vs ++ zs ++ [.int 32])
  M_House_cells_pile : MakeKOk P w K mg base "House" c.CH 3 (spHouseInit c) 0 (["cells", "pile"] : List Str) (fun vs zs => vs ++ zs)
  M_pile0 : MethOk P w K mg base c.CH "pile" 1 (spPile c) []
  M_here0 : MethOk P w K mg base c.CH "here" 1 (spHere c) []
  M_cell1 : MethOk P w K mg base c.CH "cell" 1 (spCell c) []
  F_moved : CallOk P w K mg base "moved" 1 spMoved []
  F_compared : CallOk P w K mg base "compared" 1 spCompared []
  F_reckoned : CallOk P w K mg base "reckoned" 1 spReckoned []
  M_Machine_init : OffOk P w K mg base "Machine" "__init__" 1 (spMachInit c) []
  F_deed_names : CallOk P w K mg base "deed_names" 1 spDeedNames []
  M_Entry : MakeOk P w K mg base "Entry" c.CE 1 (spEntryInit c) [.int 0, .int 0, .int 0, .bl false]
  M_Entry_is_now : MakeKOk P w K mg base "Entry" c.CE 1 (spEntryInit c) 3 (["is_now"] : List Str) (fun vs zs => vs ++ [.int 0, .int 0, .int 0] ++ zs)
  M_taken0 : MethOk P w K mg base c.CH "taken" 2 (spTaken c) []
  M_need1 : MethOk P w K mg base c.CH "need" 4 (spNeed c cls) [.int 0]
  M_need2 : MethOk P w K mg base c.CH "need" 4 (spNeed c cls) []
  M_need_side1 : MethOk P w K mg base c.CH "need_side" 4 (spNeedSide c cls) [.int 0]
  M_need_side2 : MethOk P w K mg base c.CH "need_side" 4 (spNeedSide c cls) []
  M_need_cell1 : MethOk P w K mg base c.CH "need_cell" 4 (spNeedCell c cls) []
  M_need_room1 : MethOk P w K mg base c.CH "need_room" 4 (spNeedRoom c cls) []
  M_entry1 : MethOk P w K mg base c.CH "entry" 4 (spEntry c cls) []
  M_forget_from1 : MethOk P w K mg base c.CH "forget_from" 4 (spForgetFrom c cls) []
  M_go_to1 : MethOk P w K mg base c.CH "go_to" 5 (spGoTo c cls) []
  M_do_plain1 : MethOk P w K mg base c.CH "do_plain" 5 (spDoPlain c cls) []
  M_do_loop1 : MethOk P w K mg base c.CH "do_loop" 5 (spDoLoop c cls) []
  M_do_paired1 : MethOk P w K mg base c.CH "do_paired" 6 (spDoPaired c cls) []
  M_do_side1 : MethOk P w K mg base c.CH "do_side" 5 (spDoSide c cls) []
  M_do_cells1 : MethOk P w K mg base c.CH "do_cells" 5 (spDoCells c cls) []
  M_give_deeds0 : MethOk P w K mg base c.CH "give_deeds" 5 (spGiveDeeds c cls) []
  M_lay1 : MethOk P w K mg base c.CH "lay" 5 (spLay c cls) []
  M_number_for1 : MethOk P w K mg base c.CH "number_for" 3 (spNumberFor c cls) []
  M_next_name0 : MethOk P w K mg base c.CH "next_name" 4 (spNextName c cls) []
  M_known1 : MethOk P w K mg base c.CH "known" 3 (spKnown c) []
  M_next_known0 : MethOk P w K mg base c.CH "next_known" 5 (spNextKnown c cls) []
  M_need_tie1 : MethOk P w K mg base c.CH "need_tie" 4 (spNeedTie c cls) []
  M_lay_jump2 : MethOk P w K mg base c.CH "lay_jump" 6 (spLayJump c cls) []
  M_lay_postponed1 : MethOk P w K mg base c.CH "lay_postponed" 6 (spLayPostponed c cls) []
  M_end_word0 : MethOk P w K mg base c.CH "end_word" 6 (spEndWord c cls) []
  M_lay_tied1 : MethOk P w K mg base c.CH "lay_tied" 7 (spLayTied c cls) []
  M_do_laying1 : MethOk P w K mg base c.CH "do_laying" 8 (spDoLaying c cls) []
  M_do_marking1 : MethOk P w K mg base c.CH "do_marking" 4 (spDoMarking c cls) []
  M_do_making1 : MethOk P w K mg base c.CH "do_making" 6 (spDoMaking c cls) []
  M_do_telling1 : MethOk P w K mg base c.CH "do_telling" 9 (spDoTelling c cls) []
  M_add_entry2 : MethOk P w K mg base c.CH "add_entry" 3 (spAddEntry c cls) [.int 0]
  M_Entry_start_worth : MakeKOk P w K mg base "Entry" c.CE 1 (spEntryInit c) 3 (["start", "worth"] : List Str) (fun vs zs => gSW vs [.int 0, .bl false] zs)
  M_Entry_start_end : MakeKOk P w K mg base "Entry" c.CE 1 (spEntryInit c) 3 (["start", "end"] : List Str) (fun vs zs => vs ++ zs ++ [.int 0, .bl false])
  M_add_entry_worth : MethKOk P w K mg base c.CH "add_entry" 3 (spAddEntry c cls) 3 (["worth"] : List Str) (fun vs zs => vs ++ zs)
  F_rounded : CallOk P w K mg base "rounded" 1 spRounded []
  F_truth : CallOk P w K mg base "truth" 1 spTruth []
  F_left_by : CallOk P w K mg base "left_by" 2 spLeftBy []
  F_number_of : CallOk P w K mg base "number_of" 1 spNumberOf []
  M_tell1 : ∀ n, MethOk P w K mg base c.CH "tell" (16 + 3 * n) (spTell c cls (goInto n)) [.int 2000, .bl true]
  M_tell_most_whole : ∀ n, MethKOk P w K mg base c.CH "tell" (16 + 3 * n) (spTell c cls (goInto n)) 2 (["most", "whole"] : List Str) (fun vs zs => vs ++ zs)
  M_tell_most : ∀ n, MethKOk P w K mg base c.CH "tell" (16 + 3 * n) (spTell c cls (goInto n)) 2 (["most"] : List Str) (fun vs zs => vs ++ zs ++ [.bl true])
  M_tell_whole : ∀ n, MethKOk P w K mg base c.CH "tell" (16 + 3 * n) (spTell c cls (goInto n)) 2 (["whole"] : List Str) (fun vs zs => vs ++ [.int 2000] ++ zs)
  eW : ∀ e, PySem.W.exmOne K (.ref (cls e)) (.ref (He.ga K "WordError")) = some true
  xl : XL K mg cls ([] : List Str) ([] : List Str)
  gW : mg "WordError" = some (.ref (He.ga K "WordError"))
section
variable {P : Program} {w : World} {K : PySem.W.Frag} {mg : Str → Option Value} {base : Heap} {h : Heap}
theorem ctx_of (X : K.In h) (G : h.Ns mainGlobals mg) (S : He.SaysT faD fnD tsD w K) (E : exD K = true) : ∃ c : Cn, Ctx P w K mg base c (clsD K) := by
  have D := S.d
  obtain ⟨E, EL⟩ := He.ba E
  obtain ⟨l1, EL⟩ := He.ba EL
  obtain ⟨l2, EL⟩ := He.ba EL
  obtain ⟨l3, EL⟩ := He.ba EL
  obtain ⟨l4, EL⟩ := He.ba EL
  obtain ⟨l5, EL⟩ := He.ba EL
  obtain ⟨l6, l7⟩ := He.ba EL
  obtain ⟨E1, E2⟩ := He.ba E
  obtain ⟨x1, E1⟩ := He.ba E1
  obtain ⟨x2, E1⟩ := He.ba E1
  obtain ⟨x3, E1⟩ := He.ba E1
  obtain ⟨x4, x5⟩ := He.ba E1
  obtain ⟨E2, x8⟩ := He.ba E2
  obtain ⟨x6, x7⟩ := He.ba E2
  obtain ⟨fes, fn, FD⟩ := S.tab 0 (t := ((fun K => He.ga K "FACES"), faces.map (·.1))) rfl
  have hk := facesB_keys x6 FD
  have ee : ∀ z : Str, z ∈ ([("NoWord" : Str), ("NoName" : Str), ("Short" : Str), ("Deep" : Str), ("SideShort" : Str), ("SideDeep" : Str), ("ByNought" : Str), ("BadCell" : Str), ("Full" : Str), ("TooLong" : Str), ("Unfit" : Str), ("OnlyWithin" : Str), ("NoForget" : Str)] : List Str) → errB K z = true := fun z hz => (He.ba (List.all_eq_true.mp x7 z hz)).1
  have ew : ∀ z : Str, z ∈ ([("NoWord" : Str), ("NoName" : Str), ("Short" : Str), ("Deep" : Str), ("SideShort" : Str), ("SideDeep" : Str), ("ByNought" : Str), ("BadCell" : Str), ("Full" : Str), ("TooLong" : Str), ("Unfit" : Str), ("OnlyWithin" : Str), ("NoForget" : Str)] : List Str) → PySem.W.exmOne K (.ref (He.ga K z)) (.ref (He.ga K "WordError")) = some true := fun z hz => of_decide_eq_true (He.ba (List.all_eq_true.mp x7 z hz)).2
  have tt : ∀ (z : Str) (l : List Str), (z, dvS l) ∈ ([(("PAIRED" : Str), dvS paired), (("WITHIN" : Str), dvS within), (("SIDEWISE" : Str), dvS sidewise), (("STORING" : Str), dvS storing), (("MAKING" : Str), dvS making), (("NAMING" : Str), dvS naming), (("NOW" : Str), dvS nowWords), (("OTHERS" : Str), dvS others)] : List (Str × List He.Dv)) → ∀ H, SqT K H (He.ga K z) (l.map V.str) := fun z l hz H => by
    have q := He.tupB_ok (List.all_eq_true.mp x8 _ hz) H
    rw [dvS_v] at q
    exact q
  have vV : PySem.W.findCls K (.type "ValueError") (.type "type") "__init__" = some (.val (.builtin "ValueError.__init__")) := by
    have q := He.eqO_ok x5
    cases z : PySem.W.findCls K (.type "ValueError") (.type "type") "__init__" with
    | none =>
      rw [z] at q
      cases q
    | some r =>
      rw [z] at q
      cases r with
      | val v =>
        have q2 : (some (some v) : Option (Option Value)) = some (some (.builtin "ValueError.__init__")) := q
        rw [Option.some.inj (Option.some.inj q2)]
      | _ => cases q
  have n_len : mg "len" = none := He.free_ok X G (D.fact 42 (f := .free "len") rfl)
  have n_list : mg "list" = none := He.free_ok X G (D.fact 43 (f := .free "list") rfl)
  have n_str : mg "str" = none := He.free_ok X G (D.fact 44 (f := .free "str") rfl)
  have n_int : mg "int" = none := He.free_ok X G (D.fact 45 (f := .free "int") rfl)
  have n_range : mg "range" = none := He.free_ok X G (D.fact 46 (f := .free "range") rfl)
  have n_reversed : mg "reversed" = none := He.free_ok X G (D.fact 47 (f := .free "reversed") rfl)
  have n_divmod : mg "divmod" = none := He.free_ok X G (D.fact 48 (f := .free "divmod") rfl)
  have n_ValueError : mg "ValueError" = none := He.free_ok X G (D.fact 49 (f := .free "ValueError") rfl)
  have n_isinstance : mg "isinstance" = none := He.free_ok X G (D.fact 50 (f := .free "isinstance") rfl)
  have n_max : mg "max" = none := He.free_ok X G (D.fact 51 (f := .free "max") rfl)
  have n_tuple : mg "tuple" = none := He.free_ok X G (D.fact 52 (f := .free "tuple") rfl)
  have n_bool : mg "bool" = none := He.free_ok X G (D.fact 53 (f := .free "bool") rfl)
  have n_min : mg "min" = none := He.free_ok X G (D.fact 54 (f := .free "min") rfl)
  have g : Gb w K mg := {
    len := n_len
    list := n_list
    str := n_str
    int := n_int
    range := n_range
    reversed := n_reversed
    divmod := n_divmod
    iLEAST := He.int_ok X G (D.fact 55 (f := .int "LEAST" (-32768)) rfl)
    iGREATEST := He.int_ok X G (D.fact 56 (f := .int "GREATEST" 32767) rfl)
    iALL := He.int_ok X G (D.fact 57 (f := .int "ALL" 65536) rfl)
    iSIDE := He.int_ok X G (D.fact 58 (f := .int "SIDE" 32) rfl)
    iNOWHERE := He.int_ok X G (D.fact 59 (f := .int "NOWHERE" (-1)) rfl)
    sFIGURES := He.str_ok X G (D.fact 60 (f := .str "FIGURES" "0123456789") rfl)
    rPAIRED := He.glo_ok X G (D.fact 33 (f := .glo "PAIRED") rfl)
    rWITHIN := He.glo_ok X G (D.fact 34 (f := .glo "WITHIN") rfl)
    rSIDEWISE := He.glo_ok X G (D.fact 35 (f := .glo "SIDEWISE") rfl)
    rSTORING := He.glo_ok X G (D.fact 36 (f := .glo "STORING") rfl)
    rMAKING := He.glo_ok X G (D.fact 37 (f := .glo "MAKING") rfl)
    rNAMING := He.glo_ok X G (D.fact 38 (f := .glo "NAMING") rfl)
    rNOW := He.glo_ok X G (D.fact 39 (f := .glo "NOW") rfl)
    rOTHERS := He.glo_ok X G (D.fact 40 (f := .glo "OTHERS") rfl)
    rFACES := He.glo_ok X G (D.fact 41 (f := .glo "FACES") rfl)
    tPAIRED := tt "PAIRED" paired (List.mem_of_getElem? (i := 0) rfl)
    tWITHIN := tt "WITHIN" within (List.mem_of_getElem? (i := 1) rfl)
    tSIDEWISE := tt "SIDEWISE" sidewise (List.mem_of_getElem? (i := 2) rfl)
    tSTORING := tt "STORING" storing (List.mem_of_getElem? (i := 3) rfl)
    tMAKING := tt "MAKING" making (List.mem_of_getElem? (i := 4) rfl)
    tNAMING := tt "NAMING" naming (List.mem_of_getElem? (i := 5) rfl)
    tNOW := tt "NOW" nowWords (List.mem_of_getElem? (i := 6) rfl)
    tOTHERS := tt "OTHERS" others (List.mem_of_getElem? (i := 7) rfl)
    dFACES := ⟨fes, fn, FD, hk⟩
    hFACES := fun k n l e => facesB_val x6 k n l e
    mFACES := fun k e => facesB_no x6 FD k e }
  let c : Cn := ⟨He.ga K "House", He.ga K "Entry", of_decide_eq_true x1⟩
  have T : HCls K c := {
    cH := He.cls_ok (D.fact 61 (f := .cls "House") rfl)
    cE := He.cls_ok (D.fact 63 (f := .cls "Entry") rfl)
    nH := fun f hf => He.noat_ok (D.facts (f := .noat "House" f) (List.mem_append_left _ (List.mem_append_right _ (List.mem_map.mpr ⟨f, List.contains_iff_mem.mp hf, rfl⟩))))
    nE := fun f hf => He.noat_ok (D.facts (f := .noat "Entry" f) (List.mem_append_right _ (List.mem_map.mpr ⟨f, List.contains_iff_mem.mp hf, rfl⟩))) }
  obtain ⟨fd_d_WordError_init, FF_d_WordError_init⟩ := D.def_ 0 (d := d_WordError_init) rfl
  have F_d_WordError_init : FnT K "__init__" "WordError.__init__" (inClass (top 2) 0) [] [] (He.fAd K ("WordError", some "__init__")) fd_d_WordError_init := FF_d_WordError_init
  clear FF_d_WordError_init
  have O_WE := ok_WE (P := P) (w := w) (base := base) F_d_WordError_init n_ValueError vV
  have B_WE := kbindsN (ps := ["self", "place"]) F_d_WordError_init 1 (["place"] : List Str) (fun us ws => us ++ ws) (fun r1 r2 => Vals.append r1 r2) (fun kV doc pm an cdv ct us ws h1 h2 => match us, ws, h1, h2 with | [_], [_], _, _ => rfl)
  obtain ⟨o1, o2, o3⟩ := offB_ok x2
  have W_WE : OffKOk P w K mg base "WordError" "__init__" 1 (spWE K) 1 (["place"] : List Str) (fun vs zs => vs ++ zs) := ⟨_, _, _, _, _, _, He.glo_ok X G (D.fact 19 (f := .glo "WordError") rfl), o1, o2, o3, O_WE, B_WE⟩
  obtain ⟨fd_d_NoWord_init, FF_d_NoWord_init⟩ := D.def_ 1 (d := d_NoWord_init) rfl
  have F_d_NoWord_init : FnT K "__init__" "NoWord.__init__" (inClass (top 3) 0) [] [] (He.fAd K ("NoWord", some "__init__")) fd_d_NoWord_init := FF_d_NoWord_init
  clear FF_d_NoWord_init
  have O_NW := ok_NW (P := P) (w := w) (base := base) F_d_NoWord_init W_WE
  have B_NW := kbindsN (ps := ["self", "place", "word"]) F_d_NoWord_init 1 (["place", "word"] : List Str) (fun us ws => us ++ ws) (fun r1 r2 => Vals.append r1 r2) (fun kV doc pm an cdv ct us ws h1 h2 => match us, ws, h1, h2 with | [_], [_, _], _, _ => rfl)
  obtain ⟨p1, p2, p3, p4⟩ := errB_ok (ee "NoWord" (List.mem_of_getElem? (i := 0) rfl))
  have e_noWord : ∀ z : Str, WErrN P w K mg base "NoWord" (clsD K (.noWord z)) := fun z => ⟨He.glo_ok X G (D.fact 20 (f := .glo "NoWord") rfl), p1, p2, He.eqO_ok x4, _, _, _, _, p3, p4, O_NW, B_NW⟩
  obtain ⟨fd_d_NoName_init, FF_d_NoName_init⟩ := D.def_ 66 (d := d_NoName_init) rfl
  have F_d_NoName_init : FnT K "__init__" "WordError.__init__" (inClass (top 2) 0) [] [] (He.fAd K ("NoName", some "__init__")) fd_d_NoName_init := FF_d_NoName_init
  clear FF_d_NoName_init
  have e_noName : WErr P w K mg base "NoName" (clsD K .noName) := by
    obtain ⟨p1, p2, p3, p4⟩ := errB_ok (ee "NoName" (List.mem_of_getElem? (i := 1) rfl))
    exact ⟨He.glo_ok X G (D.fact 21 (f := .glo "NoName") rfl), p1, p2, _, _, _, _, p3, p4, ok_WE F_d_NoName_init n_ValueError vV, kbindsN (ps := ["self", "place"]) F_d_NoName_init 1 (["place"] : List Str) (fun us ws => us ++ ws) (fun r1 r2 => Vals.append r1 r2) (fun kV doc pm an cdv ct us ws h1 h2 => match us, ws, h1, h2 with | [_], [_], _, _ => rfl)⟩
  obtain ⟨fd_d_Short_init, FF_d_Short_init⟩ := D.def_ 67 (d := d_Short_init) rfl
  have F_d_Short_init : FnT K "__init__" "WordError.__init__" (inClass (top 2) 0) [] [] (He.fAd K ("Short", some "__init__")) fd_d_Short_init := FF_d_Short_init
  clear FF_d_Short_init
  have e_short : WErr P w K mg base "Short" (clsD K .short) := by
    obtain ⟨p1, p2, p3, p4⟩ := errB_ok (ee "Short" (List.mem_of_getElem? (i := 2) rfl))
    exact ⟨He.glo_ok X G (D.fact 22 (f := .glo "Short") rfl), p1, p2, _, _, _, _, p3, p4, ok_WE F_d_Short_init n_ValueError vV, kbindsN (ps := ["self", "place"]) F_d_Short_init 1 (["place"] : List Str) (fun us ws => us ++ ws) (fun r1 r2 => Vals.append r1 r2) (fun kV doc pm an cdv ct us ws h1 h2 => match us, ws, h1, h2 with | [_], [_], _, _ => rfl)⟩
  obtain ⟨fd_d_Deep_init, FF_d_Deep_init⟩ := D.def_ 68 (d := d_Deep_init) rfl
  have F_d_Deep_init : FnT K "__init__" "WordError.__init__" (inClass (top 2) 0) [] [] (He.fAd K ("Deep", some "__init__")) fd_d_Deep_init := FF_d_Deep_init
  clear FF_d_Deep_init
  have e_deep : WErr P w K mg base "Deep" (clsD K .deep) := by
    obtain ⟨p1, p2, p3, p4⟩ := errB_ok (ee "Deep" (List.mem_of_getElem? (i := 3) rfl))
    exact ⟨He.glo_ok X G (D.fact 23 (f := .glo "Deep") rfl), p1, p2, _, _, _, _, p3, p4, ok_WE F_d_Deep_init n_ValueError vV, kbindsN (ps := ["self", "place"]) F_d_Deep_init 1 (["place"] : List Str) (fun us ws => us ++ ws) (fun r1 r2 => Vals.append r1 r2) (fun kV doc pm an cdv ct us ws h1 h2 => match us, ws, h1, h2 with | [_], [_], _, _ => rfl)⟩
  obtain ⟨fd_d_SideShort_init, FF_d_SideShort_init⟩ := D.def_ 69 (d := d_SideShort_init) rfl
  have F_d_SideShort_init : FnT K "__init__" "WordError.__init__" (inClass (top 2) 0) [] [] (He.fAd K ("SideShort", some "__init__")) fd_d_SideShort_init := FF_d_SideShort_init
  clear FF_d_SideShort_init
  have e_sideShort : WErr P w K mg base "SideShort" (clsD K .sideShort) := by
    obtain ⟨p1, p2, p3, p4⟩ := errB_ok (ee "SideShort" (List.mem_of_getElem? (i := 4) rfl))
    exact ⟨He.glo_ok X G (D.fact 24 (f := .glo "SideShort") rfl), p1, p2, _, _, _, _, p3, p4, ok_WE F_d_SideShort_init n_ValueError vV, kbindsN (ps := ["self", "place"]) F_d_SideShort_init 1 (["place"] : List Str) (fun us ws => us ++ ws) (fun r1 r2 => Vals.append r1 r2) (fun kV doc pm an cdv ct us ws h1 h2 => match us, ws, h1, h2 with | [_], [_], _, _ => rfl)⟩
  obtain ⟨fd_d_SideDeep_init, FF_d_SideDeep_init⟩ := D.def_ 70 (d := d_SideDeep_init) rfl
  have F_d_SideDeep_init : FnT K "__init__" "WordError.__init__" (inClass (top 2) 0) [] [] (He.fAd K ("SideDeep", some "__init__")) fd_d_SideDeep_init := FF_d_SideDeep_init
  clear FF_d_SideDeep_init
  have e_sideDeep : WErr P w K mg base "SideDeep" (clsD K .sideDeep) := by
    obtain ⟨p1, p2, p3, p4⟩ := errB_ok (ee "SideDeep" (List.mem_of_getElem? (i := 5) rfl))
    exact ⟨He.glo_ok X G (D.fact 25 (f := .glo "SideDeep") rfl), p1, p2, _, _, _, _, p3, p4, ok_WE F_d_SideDeep_init n_ValueError vV, kbindsN (ps := ["self", "place"]) F_d_SideDeep_init 1 (["place"] : List Str) (fun us ws => us ++ ws) (fun r1 r2 => Vals.append r1 r2) (fun kV doc pm an cdv ct us ws h1 h2 => match us, ws, h1, h2 with | [_], [_], _, _ => rfl)⟩
  obtain ⟨fd_d_ByNought_init, FF_d_ByNought_init⟩ := D.def_ 71 (d := d_ByNought_init) rfl
  have F_d_ByNought_init : FnT K "__init__" "WordError.__init__" (inClass (top 2) 0) [] [] (He.fAd K ("ByNought", some "__init__")) fd_d_ByNought_init := FF_d_ByNought_init
  clear FF_d_ByNought_init
  have e_byNought : WErr P w K mg base "ByNought" (clsD K .byNought) := by
    obtain ⟨p1, p2, p3, p4⟩ := errB_ok (ee "ByNought" (List.mem_of_getElem? (i := 6) rfl))
    exact ⟨He.glo_ok X G (D.fact 26 (f := .glo "ByNought") rfl), p1, p2, _, _, _, _, p3, p4, ok_WE F_d_ByNought_init n_ValueError vV, kbindsN (ps := ["self", "place"]) F_d_ByNought_init 1 (["place"] : List Str) (fun us ws => us ++ ws) (fun r1 r2 => Vals.append r1 r2) (fun kV doc pm an cdv ct us ws h1 h2 => match us, ws, h1, h2 with | [_], [_], _, _ => rfl)⟩
  obtain ⟨fd_d_BadCell_init, FF_d_BadCell_init⟩ := D.def_ 72 (d := d_BadCell_init) rfl
  have F_d_BadCell_init : FnT K "__init__" "WordError.__init__" (inClass (top 2) 0) [] [] (He.fAd K ("BadCell", some "__init__")) fd_d_BadCell_init := FF_d_BadCell_init
  clear FF_d_BadCell_init
  have e_badCell : WErr P w K mg base "BadCell" (clsD K .badCell) := by
    obtain ⟨p1, p2, p3, p4⟩ := errB_ok (ee "BadCell" (List.mem_of_getElem? (i := 7) rfl))
    exact ⟨He.glo_ok X G (D.fact 27 (f := .glo "BadCell") rfl), p1, p2, _, _, _, _, p3, p4, ok_WE F_d_BadCell_init n_ValueError vV, kbindsN (ps := ["self", "place"]) F_d_BadCell_init 1 (["place"] : List Str) (fun us ws => us ++ ws) (fun r1 r2 => Vals.append r1 r2) (fun kV doc pm an cdv ct us ws h1 h2 => match us, ws, h1, h2 with | [_], [_], _, _ => rfl)⟩
  obtain ⟨fd_d_Full_init, FF_d_Full_init⟩ := D.def_ 73 (d := d_Full_init) rfl
  have F_d_Full_init : FnT K "__init__" "WordError.__init__" (inClass (top 2) 0) [] [] (He.fAd K ("Full", some "__init__")) fd_d_Full_init := FF_d_Full_init
  clear FF_d_Full_init
  have e_full : WErr P w K mg base "Full" (clsD K .full) := by
    obtain ⟨p1, p2, p3, p4⟩ := errB_ok (ee "Full" (List.mem_of_getElem? (i := 8) rfl))
    exact ⟨He.glo_ok X G (D.fact 28 (f := .glo "Full") rfl), p1, p2, _, _, _, _, p3, p4, ok_WE F_d_Full_init n_ValueError vV, kbindsN (ps := ["self", "place"]) F_d_Full_init 1 (["place"] : List Str) (fun us ws => us ++ ws) (fun r1 r2 => Vals.append r1 r2) (fun kV doc pm an cdv ct us ws h1 h2 => match us, ws, h1, h2 with | [_], [_], _, _ => rfl)⟩
  obtain ⟨fd_d_TooLong_init, FF_d_TooLong_init⟩ := D.def_ 74 (d := d_TooLong_init) rfl
  have F_d_TooLong_init : FnT K "__init__" "WordError.__init__" (inClass (top 2) 0) [] [] (He.fAd K ("TooLong", some "__init__")) fd_d_TooLong_init := FF_d_TooLong_init
  clear FF_d_TooLong_init
  have e_tooLong : WErr P w K mg base "TooLong" (clsD K .tooLong) := by
    obtain ⟨p1, p2, p3, p4⟩ := errB_ok (ee "TooLong" (List.mem_of_getElem? (i := 9) rfl))
    exact ⟨He.glo_ok X G (D.fact 29 (f := .glo "TooLong") rfl), p1, p2, _, _, _, _, p3, p4, ok_WE F_d_TooLong_init n_ValueError vV, kbindsN (ps := ["self", "place"]) F_d_TooLong_init 1 (["place"] : List Str) (fun us ws => us ++ ws) (fun r1 r2 => Vals.append r1 r2) (fun kV doc pm an cdv ct us ws h1 h2 => match us, ws, h1, h2 with | [_], [_], _, _ => rfl)⟩
  obtain ⟨fd_d_Unfit_init, FF_d_Unfit_init⟩ := D.def_ 75 (d := d_Unfit_init) rfl
  have F_d_Unfit_init : FnT K "__init__" "WordError.__init__" (inClass (top 2) 0) [] [] (He.fAd K ("Unfit", some "__init__")) fd_d_Unfit_init := FF_d_Unfit_init
  clear FF_d_Unfit_init
  have e_unfit : WErr P w K mg base "Unfit" (clsD K .unfit) := by
    obtain ⟨p1, p2, p3, p4⟩ := errB_ok (ee "Unfit" (List.mem_of_getElem? (i := 10) rfl))
    exact ⟨He.glo_ok X G (D.fact 30 (f := .glo "Unfit") rfl), p1, p2, _, _, _, _, p3, p4, ok_WE F_d_Unfit_init n_ValueError vV, kbindsN (ps := ["self", "place"]) F_d_Unfit_init 1 (["place"] : List Str) (fun us ws => us ++ ws) (fun r1 r2 => Vals.append r1 r2) (fun kV doc pm an cdv ct us ws h1 h2 => match us, ws, h1, h2 with | [_], [_], _, _ => rfl)⟩
  obtain ⟨fd_d_OnlyWithin_init, FF_d_OnlyWithin_init⟩ := D.def_ 76 (d := d_OnlyWithin_init) rfl
  have F_d_OnlyWithin_init : FnT K "__init__" "WordError.__init__" (inClass (top 2) 0) [] [] (He.fAd K ("OnlyWithin", some "__init__")) fd_d_OnlyWithin_init := FF_d_OnlyWithin_init
  clear FF_d_OnlyWithin_init
  have e_onlyWithin : WErr P w K mg base "OnlyWithin" (clsD K .onlyWithin) := by
    obtain ⟨p1, p2, p3, p4⟩ := errB_ok (ee "OnlyWithin" (List.mem_of_getElem? (i := 11) rfl))
    exact ⟨He.glo_ok X G (D.fact 31 (f := .glo "OnlyWithin") rfl), p1, p2, _, _, _, _, p3, p4, ok_WE F_d_OnlyWithin_init n_ValueError vV, kbindsN (ps := ["self", "place"]) F_d_OnlyWithin_init 1 (["place"] : List Str) (fun us ws => us ++ ws) (fun r1 r2 => Vals.append r1 r2) (fun kV doc pm an cdv ct us ws h1 h2 => match us, ws, h1, h2 with | [_], [_], _, _ => rfl)⟩
  obtain ⟨fd_d_NoForget_init, FF_d_NoForget_init⟩ := D.def_ 77 (d := d_NoForget_init) rfl
  have F_d_NoForget_init : FnT K "__init__" "WordError.__init__" (inClass (top 2) 0) [] [] (He.fAd K ("NoForget", some "__init__")) fd_d_NoForget_init := FF_d_NoForget_init
  clear FF_d_NoForget_init
  have e_noForget : WErr P w K mg base "NoForget" (clsD K .noForget) := by
    obtain ⟨p1, p2, p3, p4⟩ := errB_ok (ee "NoForget" (List.mem_of_getElem? (i := 12) rfl))
    exact ⟨He.glo_ok X G (D.fact 32 (f := .glo "NoForget") rfl), p1, p2, _, _, _, _, p3, p4, ok_WE F_d_NoForget_init n_ValueError vV, kbindsN (ps := ["self", "place"]) F_d_NoForget_init 1 (["place"] : List Str) (fun us ws => us ++ ws) (fun r1 r2 => Vals.append r1 r2) (fun kV doc pm an cdv ct us ws h1 h2 => match us, ws, h1, h2 with | [_], [_], _, _ => rfl)⟩
  have R : Er P w K mg base (clsD K) := { noWord := e_noWord, noName := e_noName, short := e_short, deep := e_deep, sideShort := e_sideShort, sideDeep := e_sideDeep, byNought := e_byNought, badCell := e_badCell, full := e_full, tooLong := e_tooLong, unfit := e_unfit, onlyWithin := e_onlyWithin, noForget := e_noForget, nws := fun _ _ => rfl }
  obtain ⟨fd_d_rounded, FF_d_rounded⟩ := D.def_ 2 (d := d_rounded) rfl
  have F_d_rounded : FnT K "rounded" "rounded" (top 21) [] [] (He.fAd K ("rounded", none)) fd_d_rounded := FF_d_rounded
  clear FF_d_rounded
  have O_rounded := ok_rounded (P := P) (w := w) (K := K) (mg := mg) (base := base) F_d_rounded g
  have F_rounded : CallOk P w K mg base "rounded" 1 spRounded [] := ⟨_, _, _, _, He.glo_ok X G (D.fact 0 (f := .glo "rounded") rfl), F_d_rounded.kp, O_rounded, (F_d_rounded.bindsN (ps := ["number"]) fun _ _ _ _ _ _ us hl => match us, hl with | [_], _ => rfl), .nil⟩
  obtain ⟨fd_d_truth, FF_d_truth⟩ := D.def_ 4 (d := d_truth) rfl
  have F_d_truth : FnT K "truth" "truth" (top 23) [] [] (He.fAd K ("truth", none)) fd_d_truth := FF_d_truth
  clear FF_d_truth
  have O_truth := ok_truth (P := P) (w := w) (K := K) (mg := mg) (base := base) F_d_truth 
  have F_truth : CallOk P w K mg base "truth" 1 spTruth [] := ⟨_, _, _, _, He.glo_ok X G (D.fact 2 (f := .glo "truth") rfl), F_d_truth.kp, O_truth, (F_d_truth.bindsN (ps := ["is_so"]) fun _ _ _ _ _ _ us hl => match us, hl with | [_], _ => rfl), .nil⟩
  obtain ⟨fd_d_compared, FF_d_compared⟩ := D.def_ 6 (d := d_compared) rfl
  have F_d_compared : FnT K "compared" "compared" (top 27) [] [] (He.fAd K ("compared", none)) fd_d_compared := FF_d_compared
  clear FF_d_compared
  have O_compared := ok_compared (P := P) (w := w) (K := K) (mg := mg) (base := base) F_d_compared 
  have F_compared : CallOk P w K mg base "compared" 1 spCompared [] := ⟨_, _, _, _, He.glo_ok X G (D.fact 4 (f := .glo "compared") rfl), F_d_compared.kp, O_compared, (F_d_compared.bindsN (ps := ["word", "one", "other"]) fun _ _ _ _ _ _ us hl => match us, hl with | [_, _, _], _ => rfl), .nil⟩
  obtain ⟨fd_d_moved, FF_d_moved⟩ := D.def_ 5 (d := d_moved) rfl
  have F_d_moved : FnT K "moved" "moved" (top 26) [] [] (He.fAd K ("moved", none)) fd_d_moved := FF_d_moved
  clear FF_d_moved
  have O_moved := ok_moved (P := P) (w := w) (K := K) (mg := mg) (base := base) F_d_moved 
  have F_moved : CallOk P w K mg base "moved" 1 spMoved [] := ⟨_, _, _, _, He.glo_ok X G (D.fact 3 (f := .glo "moved") rfl), F_d_moved.kp, O_moved, (F_d_moved.bindsN (ps := ["word", "some"]) fun _ _ _ _ _ _ us hl => match us, hl with | [_, _], _ => rfl), .nil⟩
  obtain ⟨fd_d_reckoned, FF_d_reckoned⟩ := D.def_ 7 (d := d_reckoned) rfl
  have F_d_reckoned : FnT K "reckoned" "reckoned" (top 28) [] [] (He.fAd K ("reckoned", none)) fd_d_reckoned := FF_d_reckoned
  clear FF_d_reckoned
  have O_reckoned := ok_reckoned (P := P) (w := w) (K := K) (mg := mg) (base := base) F_d_reckoned g
  have F_reckoned : CallOk P w K mg base "reckoned" 1 spReckoned [] := ⟨_, _, _, _, He.glo_ok X G (D.fact 5 (f := .glo "reckoned") rfl), F_d_reckoned.kp, O_reckoned, (F_d_reckoned.bindsN (ps := ["word", "one", "other"]) fun _ _ _ _ _ _ us hl => match us, hl with | [_, _, _], _ => rfl), .nil⟩
  obtain ⟨fd_d_left_by, FF_d_left_by⟩ := D.def_ 8 (d := d_left_by) rfl
  have F_d_left_by : FnT K "left_by" "left_by" (top 29) [] [] (He.fAd K ("left_by", none)) fd_d_left_by := FF_d_left_by
  clear FF_d_left_by
  have O_left_by := ok_left_by (P := P) (w := w) (K := K) (mg := mg) (base := base) F_d_left_by g F_moved F_truth F_rounded F_compared F_reckoned
  have F_left_by : CallOk P w K mg base "left_by" 2 spLeftBy [] := ⟨_, _, _, _, He.glo_ok X G (D.fact 6 (f := .glo "left_by") rfl), F_d_left_by.kp, O_left_by, (F_d_left_by.bindsN (ps := ["word", "some"]) fun _ _ _ _ _ _ us hl => match us, hl with | [_, _], _ => rfl), .nil⟩
  obtain ⟨fd_d_number_of, FF_d_number_of⟩ := D.def_ 3 (d := d_number_of) rfl
  have F_d_number_of : FnT K "number_of" "number_of" (top 22) [] [] (He.fAd K ("number_of", none)) fd_d_number_of := FF_d_number_of
  clear FF_d_number_of
  have O_number_of := ok_number_of (P := P) (w := w) (K := K) (mg := mg) (base := base) F_d_number_of g
  have F_number_of : CallOk P w K mg base "number_of" 1 spNumberOf [] := ⟨_, _, _, _, He.glo_ok X G (D.fact 1 (f := .glo "number_of") rfl), F_d_number_of.kp, O_number_of, (F_d_number_of.bindsN (ps := ["word"]) fun _ _ _ _ _ _ us hl => match us, hl with | [_], _ => rfl), .nil⟩
  obtain ⟨fd_d_H_need, FF_d_H_need⟩ := D.def_ 12 (d := d_H_need) rfl
  have F_d_H_need : FnT K "need" "Machine.need" (inClass (top 38) 1) [.int 0] [] (He.fAd K ("House", some "need")) fd_d_H_need := FF_d_H_need
  clear FF_d_H_need
  have O_need := ok_need (P := P) (w := w) (K := K) (mg := mg) (base := base) (c := c) F_d_H_need g T R
  have M_need1 : MethOk P w K mg base c.CH "need" 4 (spNeed c (clsD K)) [.int 0] := by
    obtain ⟨ds_, v_, b_⟩ := F_d_H_need.binds1 (ps := ["self", "many", "more"]) 2 0 (by simp) rfl (fun T kV doc pm an cdv ct us its h1 h2 => match us, its, h1, h2 with | [_, _], [_], _, _ => ⟨_, rfl, rfl⟩)
    exact ⟨_, _, _, _, He.meth_ok (D.fact 65 (f := .meth "House" "need") rfl), O_need, b_, v_⟩
  have M_need2 : MethOk P w K mg base c.CH "need" 4 (spNeed c (clsD K)) [] := by
    obtain ⟨ds_, v_, b_⟩ := F_d_H_need.binds1 (ps := ["self", "many", "more"]) 3 1 (by simp) rfl (fun T kV doc pm an cdv ct us its h1 h2 => match us, its, h1, h2 with | [_, _, _], [_], _, _ => ⟨_, rfl, rfl⟩)
    exact ⟨_, _, _, _, He.meth_ok (D.fact 65 (f := .meth "House" "need") rfl), O_need, b_, v_⟩
  obtain ⟨fd_d_H_need_side, FF_d_H_need_side⟩ := D.def_ 13 (d := d_H_need_side) rfl
  have F_d_H_need_side : FnT K "need_side" "Machine.need_side" (inClass (top 38) 2) [.int 0] [] (He.fAd K ("House", some "need_side")) fd_d_H_need_side := FF_d_H_need_side
  clear FF_d_H_need_side
  have O_need_side := ok_need_side (P := P) (w := w) (K := K) (mg := mg) (base := base) (c := c) F_d_H_need_side g T R
  have M_need_side1 : MethOk P w K mg base c.CH "need_side" 4 (spNeedSide c (clsD K)) [.int 0] := by
    obtain ⟨ds_, v_, b_⟩ := F_d_H_need_side.binds1 (ps := ["self", "many", "more"]) 2 0 (by simp) rfl (fun T kV doc pm an cdv ct us its h1 h2 => match us, its, h1, h2 with | [_, _], [_], _, _ => ⟨_, rfl, rfl⟩)
    exact ⟨_, _, _, _, He.meth_ok (D.fact 66 (f := .meth "House" "need_side") rfl), O_need_side, b_, v_⟩
  have M_need_side2 : MethOk P w K mg base c.CH "need_side" 4 (spNeedSide c (clsD K)) [] := by
    obtain ⟨ds_, v_, b_⟩ := F_d_H_need_side.binds1 (ps := ["self", "many", "more"]) 3 1 (by simp) rfl (fun T kV doc pm an cdv ct us its h1 h2 => match us, its, h1, h2 with | [_, _, _], [_], _, _ => ⟨_, rfl, rfl⟩)
    exact ⟨_, _, _, _, He.meth_ok (D.fact 66 (f := .meth "House" "need_side") rfl), O_need_side, b_, v_⟩
  obtain ⟨fd_d_H_need_cell, FF_d_H_need_cell⟩ := D.def_ 14 (d := d_H_need_cell) rfl
  have F_d_H_need_cell : FnT K "need_cell" "Machine.need_cell" (inClass (top 38) 3) [] [] (He.fAd K ("House", some "need_cell")) fd_d_H_need_cell := FF_d_H_need_cell
  clear FF_d_H_need_cell
  have O_need_cell := ok_need_cell (P := P) (w := w) (K := K) (mg := mg) (base := base) (c := c) F_d_H_need_cell g T R
  have M_need_cell1 : MethOk P w K mg base c.CH "need_cell" 4 (spNeedCell c (clsD K)) [] := ⟨_, _, _, _, He.meth_ok (D.fact 67 (f := .meth "House" "need_cell") rfl), O_need_cell, (F_d_H_need_cell.bindsN (ps := ["self", "address"]) fun _ _ _ _ _ _ us hl => match us, hl with | [_, _], _ => rfl), .nil⟩
  obtain ⟨fd_d_H_need_room, FF_d_H_need_room⟩ := D.def_ 15 (d := d_H_need_room) rfl
  have F_d_H_need_room : FnT K "need_room" "Machine.need_room" (inClass (top 38) 4) [] [] (He.fAd K ("House", some "need_room")) fd_d_H_need_room := FF_d_H_need_room
  clear FF_d_H_need_room
  have O_need_room := ok_need_room (P := P) (w := w) (K := K) (mg := mg) (base := base) (c := c) F_d_H_need_room g T R
  have M_need_room1 : MethOk P w K mg base c.CH "need_room" 4 (spNeedRoom c (clsD K)) [] := ⟨_, _, _, _, He.meth_ok (D.fact 68 (f := .meth "House" "need_room") rfl), O_need_room, (F_d_H_need_room.bindsN (ps := ["self", "many"]) fun _ _ _ _ _ _ us hl => match us, hl with | [_, _], _ => rfl), .nil⟩
  obtain ⟨fd_d_H_entry, FF_d_H_entry⟩ := D.def_ 16 (d := d_H_entry) rfl
  have F_d_H_entry : FnT K "entry" "Machine.entry" (inClass (top 38) 5) [] [] (He.fAd K ("House", some "entry")) fd_d_H_entry := FF_d_H_entry
  clear FF_d_H_entry
  have O_entry := ok_entry (P := P) (w := w) (K := K) (mg := mg) (base := base) (c := c) F_d_H_entry g T R
  have M_entry1 : MethOk P w K mg base c.CH "entry" 4 (spEntry c (clsD K)) [] := ⟨_, _, _, _, He.meth_ok (D.fact 69 (f := .meth "House" "entry") rfl), O_entry, (F_d_H_entry.bindsN (ps := ["self", "number"]) fun _ _ _ _ _ _ us hl => match us, hl with | [_, _], _ => rfl), .nil⟩
  obtain ⟨fd_d_H_forget_from, FF_d_H_forget_from⟩ := D.def_ 21 (d := d_H_forget_from) rfl
  have F_d_H_forget_from : FnT K "forget_from" "Machine.forget_from" (inClass (top 38) 10) [] [] (He.fAd K ("House", some "forget_from")) fd_d_H_forget_from := FF_d_H_forget_from
  clear FF_d_H_forget_from
  have O_forget_from := ok_forget_from (P := P) (w := w) (K := K) (mg := mg) (base := base) (c := c) F_d_H_forget_from T R
  have M_forget_from1 : MethOk P w K mg base c.CH "forget_from" 4 (spForgetFrom c (clsD K)) [] := ⟨_, _, _, _, He.meth_ok (D.fact 74 (f := .meth "House" "forget_from") rfl), O_forget_from, (F_d_H_forget_from.bindsN (ps := ["self", "number"]) fun _ _ _ _ _ _ us hl => match us, hl with | [_, _], _ => rfl), .nil⟩
  obtain ⟨fd_d_H_do_loop, FF_d_H_do_loop⟩ := D.def_ 25 (d := d_H_do_loop) rfl
  have F_d_H_do_loop : FnT K "do_loop" "Machine.do_loop" (inClass (top 38) 14) [] [] (He.fAd K ("House", some "do_loop")) fd_d_H_do_loop := FF_d_H_do_loop
  clear FF_d_H_do_loop
  have O_do_loop := ok_do_loop (P := P) (w := w) (K := K) (mg := mg) (base := base) (c := c) F_d_H_do_loop T R M_need_side1
  have M_do_loop1 : MethOk P w K mg base c.CH "do_loop" 5 (spDoLoop c (clsD K)) [] := ⟨_, _, _, _, He.meth_ok (D.fact 78 (f := .meth "House" "do_loop") rfl), O_do_loop, (F_d_H_do_loop.bindsN (ps := ["self", "number"]) fun _ _ _ _ _ _ us hl => match us, hl with | [_, _], _ => rfl), .nil⟩
  obtain ⟨fd_d_H_go_to, FF_d_H_go_to⟩ := D.def_ 20 (d := d_H_go_to) rfl
  have F_d_H_go_to : FnT K "go_to" "Machine.go_to" (inClass (top 38) 9) [] [] (He.fAd K ("House", some "go_to")) fd_d_H_go_to := FF_d_H_go_to
  clear FF_d_H_go_to
  have O_go_to := ok_go_to (P := P) (w := w) (K := K) (mg := mg) (base := base) (c := c) F_d_H_go_to T R M_need2 M_need_side2
  have M_go_to1 : MethOk P w K mg base c.CH "go_to" 5 (spGoTo c (clsD K)) [] := ⟨_, _, _, _, He.meth_ok (D.fact 73 (f := .meth "House" "go_to") rfl), O_go_to, (F_d_H_go_to.bindsN (ps := ["self", "entry"]) fun _ _ _ _ _ _ us hl => match us, hl with | [_, _], _ => rfl), .nil⟩
  obtain ⟨fd_d_H_do_plain, FF_d_H_do_plain⟩ := D.def_ 23 (d := d_H_do_plain) rfl
  have F_d_H_do_plain : FnT K "do_plain" "Machine.do_plain" (inClass (top 38) 12) [] [] (He.fAd K ("House", some "do_plain")) fd_d_H_do_plain := FF_d_H_do_plain
  clear FF_d_H_do_plain
  have O_do_plain := ok_do_plain (P := P) (w := w) (K := K) (mg := mg) (base := base) (c := c) F_d_H_do_plain g T R FD M_need2 F_left_by
  have M_do_plain1 : MethOk P w K mg base c.CH "do_plain" 5 (spDoPlain c (clsD K)) [] := ⟨_, _, _, _, He.meth_ok (D.fact 76 (f := .meth "House" "do_plain") rfl), O_do_plain, (F_d_H_do_plain.bindsN (ps := ["self", "name"]) fun _ _ _ _ _ _ us hl => match us, hl with | [_, _], _ => rfl), .nil⟩
  obtain ⟨fd_d_H_do_side, FF_d_H_do_side⟩ := D.def_ 26 (d := d_H_do_side) rfl
  have F_d_H_do_side : FnT K "do_side" "Machine.do_side" (inClass (top 38) 15) [] [] (He.fAd K ("House", some "do_side")) fd_d_H_do_side := FF_d_H_do_side
  clear FF_d_H_do_side
  have O_do_side := ok_do_side (P := P) (w := w) (K := K) (mg := mg) (base := base) (c := c) F_d_H_do_side T R M_need1 M_need_side2 M_need2 M_need_side1
  have M_do_side1 : MethOk P w K mg base c.CH "do_side" 5 (spDoSide c (clsD K)) [] := ⟨_, _, _, _, He.meth_ok (D.fact 79 (f := .meth "House" "do_side") rfl), O_do_side, (F_d_H_do_side.bindsN (ps := ["self", "name"]) fun _ _ _ _ _ _ us hl => match us, hl with | [_, _], _ => rfl), .nil⟩
  obtain ⟨fd_d_H_do_paired, FF_d_H_do_paired⟩ := D.def_ 24 (d := d_H_do_paired) rfl
  have F_d_H_do_paired : FnT K "do_paired" "Machine.do_paired" (inClass (top 38) 13) [] [] (He.fAd K ("House", some "do_paired")) fd_d_H_do_paired := FF_d_H_do_paired
  clear FF_d_H_do_paired
  have O_do_paired := ok_do_paired (P := P) (w := w) (K := K) (mg := mg) (base := base) (c := c) F_d_H_do_paired T R M_need_cell1 M_need2 M_need1 M_do_loop1
  have M_do_paired1 : MethOk P w K mg base c.CH "do_paired" 6 (spDoPaired c (clsD K)) [] := ⟨_, _, _, _, He.meth_ok (D.fact 77 (f := .meth "House" "do_paired") rfl), O_do_paired, (F_d_H_do_paired.bindsN (ps := ["self", "name"]) fun _ _ _ _ _ _ us hl => match us, hl with | [_, _], _ => rfl), .nil⟩
  obtain ⟨fd_d_H_do_cells, FF_d_H_do_cells⟩ := D.def_ 27 (d := d_H_do_cells) rfl
  have F_d_H_do_cells : FnT K "do_cells" "Machine.do_cells" (inClass (top 38) 16) [] [] (He.fAd K ("House", some "do_cells")) fd_d_H_do_cells := FF_d_H_do_cells
  clear FF_d_H_do_cells
  have O_do_cells := ok_do_cells (P := P) (w := w) (K := K) (mg := mg) (base := base) (c := c) F_d_H_do_cells g T R M_need2 M_need1 M_need_cell1 F_rounded M_need_room1
  have M_do_cells1 : MethOk P w K mg base c.CH "do_cells" 5 (spDoCells c (clsD K)) [] := ⟨_, _, _, _, He.meth_ok (D.fact 80 (f := .meth "House" "do_cells") rfl), O_do_cells, (F_d_H_do_cells.bindsN (ps := ["self", "name"]) fun _ _ _ _ _ _ us hl => match us, hl with | [_, _], _ => rfl), .nil⟩
  obtain ⟨fd_d_H_give_deeds, FF_d_H_give_deeds⟩ := D.def_ 29 (d := d_H_give_deeds) rfl
  have F_d_H_give_deeds : FnT K "give_deeds" "Machine.give_deeds" (inClass (top 38) 18) [] [] (He.fAd K ("House", some "give_deeds")) fd_d_H_give_deeds := FF_d_H_give_deeds
  clear FF_d_H_give_deeds
  have O_give_deeds := ok_give_deeds (P := P) (w := w) (K := K) (mg := mg) (base := base) (c := c) F_d_H_give_deeds T R M_need_side1
  have M_give_deeds0 : MethOk P w K mg base c.CH "give_deeds" 5 (spGiveDeeds c (clsD K)) [] := ⟨_, _, _, _, He.meth_ok (D.fact 82 (f := .meth "House" "give_deeds") rfl), O_give_deeds, (F_d_H_give_deeds.bindsN (ps := ["self"]) fun _ _ _ _ _ _ us hl => match us, hl with | [_], _ => rfl), .nil⟩
  obtain ⟨fd_d_H_lay, FF_d_H_lay⟩ := D.def_ 45 (d := d_H_lay) rfl
  have F_d_H_lay : FnT K "lay" "House.lay" (inClass (top 48) 14) [] [] (He.fAd K ("House", some "lay")) fd_d_H_lay := FF_d_H_lay
  clear FF_d_H_lay
  have O_lay := ok_lay (P := P) (w := w) (K := K) (mg := mg) (base := base) (c := c) F_d_H_lay g T R M_need_room1
  have M_lay1 : MethOk P w K mg base c.CH "lay" 5 (spLay c (clsD K)) [] := ⟨_, _, _, _, He.meth_ok (D.fact 96 (f := .meth "House" "lay") rfl), O_lay, (F_d_H_lay.bindsN (ps := ["self", "some"]) fun _ _ _ _ _ _ us hl => match us, hl with | [_, _], _ => rfl), .nil⟩
  obtain ⟨fd_d_H_next_name, FF_d_H_next_name⟩ := D.def_ 46 (d := d_H_next_name) rfl
  have F_d_H_next_name : FnT K "next_name" "House.next_name" (inClass (top 48) 15) [] [] (He.fAd K ("House", some "next_name")) fd_d_H_next_name := FF_d_H_next_name
  clear FF_d_H_next_name
  have O_next_name := ok_next_name (P := P) (w := w) (K := K) (mg := mg) (base := base) (c := c) F_d_H_next_name g T R
  have M_next_name0 : MethOk P w K mg base c.CH "next_name" 4 (spNextName c (clsD K)) [] := ⟨_, _, _, _, He.meth_ok (D.fact 97 (f := .meth "House" "next_name") rfl), O_next_name, (F_d_H_next_name.bindsN (ps := ["self"]) fun _ _ _ _ _ _ us hl => match us, hl with | [_], _ => rfl), .nil⟩
  obtain ⟨fd_d_H_known, FF_d_H_known⟩ := D.def_ 37 (d := d_H_known) rfl
  have F_d_H_known : FnT K "known" "House.known" (inClass (top 48) 6) [] [] (He.fAd K ("House", some "known")) fd_d_H_known := FF_d_H_known
  clear FF_d_H_known
  have O_known := ok_known (P := P) (w := w) (K := K) (mg := mg) (base := base) (c := c) F_d_H_known g T R
  have M_known1 : MethOk P w K mg base c.CH "known" 3 (spKnown c) [] := ⟨_, _, _, _, He.meth_ok (D.fact 88 (f := .meth "House" "known") rfl), O_known, (F_d_H_known.bindsN (ps := ["self", "name"]) fun _ _ _ _ _ _ us hl => match us, hl with | [_, _], _ => rfl), .nil⟩
  obtain ⟨fd_d_H_number_for, FF_d_H_number_for⟩ := D.def_ 44 (d := d_H_number_for) rfl
  have F_d_H_number_for : FnT K "number_for" "House.number_for" (inClass (top 48) 13) [] [] (He.fAd K ("House", some "number_for")) fd_d_H_number_for := FF_d_H_number_for
  clear FF_d_H_number_for
  have O_number_for := ok_number_for (P := P) (w := w) (K := K) (mg := mg) (base := base) (c := c) F_d_H_number_for T R
  have M_number_for1 : MethOk P w K mg base c.CH "number_for" 3 (spNumberFor c (clsD K)) [] := ⟨_, _, _, _, He.meth_ok (D.fact 95 (f := .meth "House" "number_for") rfl), O_number_for, (F_d_H_number_for.bindsN (ps := ["self", "name"]) fun _ _ _ _ _ _ us hl => match us, hl with | [_, _], _ => rfl), .nil⟩
  obtain ⟨fd_d_H_next_known, FF_d_H_next_known⟩ := D.def_ 47 (d := d_H_next_known) rfl
  have F_d_H_next_known : FnT K "next_known" "House.next_known" (inClass (top 48) 16) [] [] (He.fAd K ("House", some "next_known")) fd_d_H_next_known := FF_d_H_next_known
  clear FF_d_H_next_known
  have O_next_known := ok_next_known (P := P) (w := w) (K := K) (mg := mg) (base := base) (c := c) F_d_H_next_known T R M_next_name0 M_known1
  have M_next_known0 : MethOk P w K mg base c.CH "next_known" 5 (spNextKnown c (clsD K)) [] := ⟨_, _, _, _, He.meth_ok (D.fact 98 (f := .meth "House" "next_known") rfl), O_next_known, (F_d_H_next_known.bindsN (ps := ["self"]) fun _ _ _ _ _ _ us hl => match us, hl with | [_], _ => rfl), .nil⟩
  obtain ⟨fd_d_H_need_tie, FF_d_H_need_tie⟩ := D.def_ 55 (d := d_H_need_tie) rfl
  have F_d_H_need_tie : FnT K "need_tie" "House.need_tie" (inClass (top 48) 24) [] [] (He.fAd K ("House", some "need_tie")) fd_d_H_need_tie := FF_d_H_need_tie
  clear FF_d_H_need_tie
  have O_need_tie := ok_need_tie (P := P) (w := w) (K := K) (mg := mg) (base := base) (c := c) F_d_H_need_tie T R
  have M_need_tie1 : MethOk P w K mg base c.CH "need_tie" 4 (spNeedTie c (clsD K)) [] := ⟨_, _, _, _, He.meth_ok (D.fact 106 (f := .meth "House" "need_tie") rfl), O_need_tie, (F_d_H_need_tie.bindsN (ps := ["self", "sort"]) fun _ _ _ _ _ _ us hl => match us, hl with | [_, _], _ => rfl), .nil⟩
  obtain ⟨fd_d_H_lay_jump, FF_d_H_lay_jump⟩ := D.def_ 56 (d := d_H_lay_jump) rfl
  have F_d_H_lay_jump : FnT K "lay_jump" "House.lay_jump" (inClass (top 48) 25) [] [] (He.fAd K ("House", some "lay_jump")) fd_d_H_lay_jump := FF_d_H_lay_jump
  clear FF_d_H_lay_jump
  have O_lay_jump := ok_lay_jump (P := P) (w := w) (K := K) (mg := mg) (base := base) (c := c) F_d_H_lay_jump g T R M_lay1 M_number_for1
  have M_lay_jump2 : MethOk P w K mg base c.CH "lay_jump" 6 (spLayJump c (clsD K)) [] := ⟨_, _, _, _, He.meth_ok (D.fact 107 (f := .meth "House" "lay_jump") rfl), O_lay_jump, (F_d_H_lay_jump.bindsN (ps := ["self", "name", "goal"]) fun _ _ _ _ _ _ us hl => match us, hl with | [_, _, _], _ => rfl), .nil⟩
  obtain ⟨fd_d_H_lay_postponed, FF_d_H_lay_postponed⟩ := D.def_ 54 (d := d_H_lay_postponed) rfl
  have F_d_H_lay_postponed : FnT K "lay_postponed" "House.lay_postponed" (inClass (top 48) 23) [] [] (He.fAd K ("House", some "lay_postponed")) fd_d_H_lay_postponed := FF_d_H_lay_postponed
  clear FF_d_H_lay_postponed
  have O_lay_postponed := ok_lay_postponed (P := P) (w := w) (K := K) (mg := mg) (base := base) (c := c) F_d_H_lay_postponed T R M_lay1 M_number_for1
  have M_lay_postponed1 : MethOk P w K mg base c.CH "lay_postponed" 6 (spLayPostponed c (clsD K)) [] := ⟨_, _, _, _, He.meth_ok (D.fact 105 (f := .meth "House" "lay_postponed") rfl), O_lay_postponed, (F_d_H_lay_postponed.bindsN (ps := ["self", "entry"]) fun _ _ _ _ _ _ us hl => match us, hl with | [_, _], _ => rfl), .nil⟩
  obtain ⟨fd_d_H_do_marking, FF_d_H_do_marking⟩ := D.def_ 49 (d := d_H_do_marking) rfl
  have F_d_H_do_marking : FnT K "do_marking" "House.do_marking" (inClass (top 48) 18) [] [] (He.fAd K ("House", some "do_marking")) fd_d_H_do_marking := FF_d_H_do_marking
  clear FF_d_H_do_marking
  have O_do_marking := ok_do_marking (P := P) (w := w) (K := K) (mg := mg) (base := base) (c := c) F_d_H_do_marking g T R
  have M_do_marking1 : MethOk P w K mg base c.CH "do_marking" 4 (spDoMarking c (clsD K)) [] := ⟨_, _, _, _, He.meth_ok (D.fact 100 (f := .meth "House" "do_marking") rfl), O_do_marking, (F_d_H_do_marking.bindsN (ps := ["self", "name"]) fun _ _ _ _ _ _ us hl => match us, hl with | [_, _], _ => rfl), .nil⟩
  obtain ⟨fd_d_E_init, FF_d_E_init⟩ := D.def_ 9 (d := d_E_init) rfl
  have F_d_E_init : FnT K "__init__" "Entry.__init__" (inClass (top 37) 0) [] [("start", .int 0), ("end", .int 0), ("worth", .int 0), ("is_now", .bl false)] (He.fAd K ("Entry", some "__init__")) fd_d_E_init := FF_d_E_init
  clear FF_d_E_init
  have O_Entry_init := ok_Entry_init (P := P) (w := w) (K := K) (mg := mg) (base := base) (c := c) F_d_E_init T R
  have M_Entry : MakeOk P w K mg base "Entry" c.CE 1 (spEntryInit c) [.int 0, .int 0, .int 0, .bl false] := by
    obtain ⟨ds_, v_, b_⟩ := F_d_E_init.binds0 (ps := ["self", "number", "name", "kind", "start", "end", "worth", "is_now"]) 4 (by simp) rfl (fun DD doc pm an cdv ct us ks h1 h2 => match us, ks, h1, h2 with | [_, _, _, _], [_, _, _, _], _, _ => ⟨_, _, _, _, _, _, rfl, rfl, ⟨_, _, _, _, _, _, rfl, rfl, ⟨_, _, _, _, _, _, rfl, rfl, ⟨_, _, _, _, _, _, rfl, rfl, rfl⟩⟩⟩⟩)
    exact ⟨_, _, _, _, He.glo_ok X G (D.fact 17 (f := .glo "Entry") rfl), He.mkr_ok (D.fact 64 (f := .mkr "Entry") rfl), O_Entry_init, b_, v_⟩
  have M_Entry_is_now : MakeKOk P w K mg base "Entry" c.CE 1 (spEntryInit c) 3 (["is_now"] : List Str) (fun vs zs => vs ++ [.int 0, .int 0, .int 0] ++ zs) := by
    obtain ⟨mv_, kb_⟩ := F_d_E_init.kbinds0 (ps := ["self", "number", "name", "kind", "start", "end", "worth", "is_now"]) 4 (["is_now"] : List Str) ([("start", .int 0), ("end", .int 0), ("worth", .int 0)] : List (Str × V)) (fun us mv ws => us ++ mv ++ ws) (by simp) (by simp) (fun r1 r2 r3 => Vals.append (Vals.append r1 r2) r3) (fun DD doc pm an cdv ct us mv ws h1 h2 h3 => match us, mv, ws, h1, h2, h3 with | [_, _, _, _], [_, _, _], [_], _, _, _ => ⟨_, _, _, _, _, _, rfl, rfl, ⟨_, _, _, _, _, _, rfl, rfl, ⟨_, _, _, _, _, _, rfl, rfl, rfl⟩⟩⟩)
    exact ⟨_, _, _, _, He.glo_ok X G (D.fact 17 (f := .glo "Entry") rfl), He.mkr_ok (D.fact 64 (f := .mkr "Entry") rfl), O_Entry_init, kb_⟩
  have M_Entry_start_worth : MakeKOk P w K mg base "Entry" c.CE 1 (spEntryInit c) 3 (["start", "worth"] : List Str) (fun vs zs => gSW vs [.int 0, .bl false] zs) := by
    obtain ⟨mv_, kb_⟩ := F_d_E_init.kbinds0 (ps := ["self", "number", "name", "kind", "start", "end", "worth", "is_now"]) 4 (["start", "worth"] : List Str) ([("end", .int 0), ("is_now", .bl false)] : List (Str × V)) (fun us mv ws => gSW us mv ws) (by simp) (by simp) (fun r1 r2 r3 => Vals.append r1 (Vals.append (r3.take 1) (Vals.append (r2.take 1) (Vals.append (r3.drop 1) (r2.drop 1))))) (fun DD doc pm an cdv ct us mv ws h1 h2 h3 => match us, mv, ws, h1, h2, h3 with | [_, _, _, _], [_, _], [_, _], _, _, _ => ⟨_, _, _, _, _, _, rfl, rfl, ⟨_, _, _, _, _, _, rfl, rfl, rfl⟩⟩)
    exact ⟨_, _, _, _, He.glo_ok X G (D.fact 17 (f := .glo "Entry") rfl), He.mkr_ok (D.fact 64 (f := .mkr "Entry") rfl), O_Entry_init, kb_⟩
  have M_Entry_start_end : MakeKOk P w K mg base "Entry" c.CE 1 (spEntryInit c) 3 (["start", "end"] : List Str) (fun vs zs => vs ++ zs ++ [.int 0, .bl false]) := by
    obtain ⟨mv_, kb_⟩ := F_d_E_init.kbinds0 (ps := ["self", "number", "name", "kind", "start", "end", "worth", "is_now"]) 4 (["start", "end"] : List Str) ([("worth", .int 0), ("is_now", .bl false)] : List (Str × V)) (fun us mv ws => us ++ ws ++ mv) (by simp) (by simp) (fun r1 r2 r3 => Vals.append (Vals.append r1 r3) r2) (fun DD doc pm an cdv ct us mv ws h1 h2 h3 => match us, mv, ws, h1, h2, h3 with | [_, _, _, _], [_, _], [_, _], _, _, _ => ⟨_, _, _, _, _, _, rfl, rfl, ⟨_, _, _, _, _, _, rfl, rfl, rfl⟩⟩)
    exact ⟨_, _, _, _, He.glo_ok X G (D.fact 17 (f := .glo "Entry") rfl), He.mkr_ok (D.fact 64 (f := .mkr "Entry") rfl), O_Entry_init, kb_⟩
  obtain ⟨fd_d_H_add_entry, FF_d_H_add_entry⟩ := D.def_ 50 (d := d_H_add_entry) rfl
  have F_d_H_add_entry : FnT K "add_entry" "House.add_entry" (inClass (top 48) 19) [] [("worth", .int 0)] (He.fAd K ("House", some "add_entry")) fd_d_H_add_entry := FF_d_H_add_entry
  clear FF_d_H_add_entry
  have O_add_entry := ok_add_entry (P := P) (w := w) (K := K) (mg := mg) (base := base) (c := c) F_d_H_add_entry g T R M_Entry_start_worth
  have M_add_entry2 : MethOk P w K mg base c.CH "add_entry" 3 (spAddEntry c (clsD K)) [.int 0] := by
    obtain ⟨ds_, v_, b_⟩ := F_d_H_add_entry.binds0 (ps := ["self", "name", "kind", "worth"]) 3 (by simp) rfl (fun DD doc pm an cdv ct us ks h1 h2 => match us, ks, h1, h2 with | [_, _, _], [_], _, _ => ⟨_, _, _, _, _, _, rfl, rfl, rfl⟩)
    exact ⟨_, _, _, _, He.meth_ok (D.fact 101 (f := .meth "House" "add_entry") rfl), O_add_entry, b_, v_⟩
  have M_add_entry_worth : MethKOk P w K mg base c.CH "add_entry" 3 (spAddEntry c (clsD K)) 3 (["worth"] : List Str) (fun vs zs => vs ++ zs) := by
    obtain ⟨mv_, kb_⟩ := F_d_H_add_entry.kbinds0 (ps := ["self", "name", "kind", "worth"]) 3 (["worth"] : List Str) ([] : List (Str × V)) (fun us mv ws => us ++ ws) (by simp) (by simp) (fun r1 r2 r3 => Vals.append r1 r3) (fun DD doc pm an cdv ct us mv ws h1 h2 h3 => match us, mv, ws, h1, h2, h3 with | [_, _, _], [], [_], _, _, _ => rfl)
    exact ⟨_, _, _, _, He.meth_ok (D.fact 101 (f := .meth "House" "add_entry") rfl), O_add_entry, kb_⟩
  obtain ⟨fd_d_H_end_word, FF_d_H_end_word⟩ := D.def_ 53 (d := d_H_end_word) rfl
  have F_d_H_end_word : FnT K "end_word" "House.end_word" (inClass (top 48) 22) [] [] (He.fAd K ("House", some "end_word")) fd_d_H_end_word := FF_d_H_end_word
  clear FF_d_H_end_word
  have O_end_word := ok_end_word (P := P) (w := w) (K := K) (mg := mg) (base := base) (c := c) F_d_H_end_word g T R M_lay1 M_number_for1 M_Entry_start_end
  have M_end_word0 : MethOk P w K mg base c.CH "end_word" 6 (spEndWord c (clsD K)) [] := ⟨_, _, _, _, He.meth_ok (D.fact 104 (f := .meth "House" "end_word") rfl), O_end_word, (F_d_H_end_word.bindsN (ps := ["self"]) fun _ _ _ _ _ _ us hl => match us, hl with | [_], _ => rfl), .nil⟩
  obtain ⟨fd_d_H_lay_tied, FF_d_H_lay_tied⟩ := D.def_ 57 (d := d_H_lay_tied) rfl
  have F_d_H_lay_tied : FnT K "lay_tied" "House.lay_tied" (inClass (top 48) 26) [] [] (He.fAd K ("House", some "lay_tied")) fd_d_H_lay_tied := FF_d_H_lay_tied
  clear FF_d_H_lay_tied
  have O_lay_tied := ok_lay_tied (P := P) (w := w) (K := K) (mg := mg) (base := base) (c := c) F_d_H_lay_tied g T R M_lay_jump2 M_need_tie1 M_lay1 M_number_for1
  have M_lay_tied1 : MethOk P w K mg base c.CH "lay_tied" 7 (spLayTied c (clsD K)) [] := ⟨_, _, _, _, He.meth_ok (D.fact 108 (f := .meth "House" "lay_tied") rfl), O_lay_tied, (F_d_H_lay_tied.bindsN (ps := ["self", "name"]) fun _ _ _ _ _ _ us hl => match us, hl with | [_, _], _ => rfl), .nil⟩
  obtain ⟨fd_d_H_do_laying, FF_d_H_do_laying⟩ := D.def_ 52 (d := d_H_do_laying) rfl
  have F_d_H_do_laying : FnT K "do_laying" "House.do_laying" (inClass (top 48) 21) [] [] (He.fAd K ("House", some "do_laying")) fd_d_H_do_laying := FF_d_H_do_laying
  clear FF_d_H_do_laying
  have O_do_laying := ok_do_laying (P := P) (w := w) (K := K) (mg := mg) (base := base) (c := c) F_d_H_do_laying g T R M_end_word0 M_lay1 M_need1 M_number_for1 M_lay_postponed1 M_next_known0 M_lay_tied1
  have M_do_laying1 : MethOk P w K mg base c.CH "do_laying" 8 (spDoLaying c (clsD K)) [] := ⟨_, _, _, _, He.meth_ok (D.fact 103 (f := .meth "House" "do_laying") rfl), O_do_laying, (F_d_H_do_laying.bindsN (ps := ["self", "name"]) fun _ _ _ _ _ _ us hl => match us, hl with | [_, _], _ => rfl), .nil⟩
  obtain ⟨fd_d_H_do_making, FF_d_H_do_making⟩ := D.def_ 51 (d := d_H_do_making) rfl
  have F_d_H_do_making : FnT K "do_making" "House.do_making" (inClass (top 48) 20) [] [] (He.fAd K ("House", some "do_making")) fd_d_H_do_making := FF_d_H_do_making
  clear FF_d_H_do_making
  have O_do_making := ok_do_making (P := P) (w := w) (K := K) (mg := mg) (base := base) (c := c) F_d_H_do_making g T R M_next_known0 M_forget_from1 M_next_name0 M_need1 M_add_entry_worth M_add_entry2 M_need_room1
  have M_do_making1 : MethOk P w K mg base c.CH "do_making" 6 (spDoMaking c (clsD K)) [] := ⟨_, _, _, _, He.meth_ok (D.fact 102 (f := .meth "House" "do_making") rfl), O_do_making, (F_d_H_do_making.bindsN (ps := ["self", "name"]) fun _ _ _ _ _ _ us hl => match us, hl with | [_, _], _ => rfl), .nil⟩
  obtain ⟨fd_d_H_do_telling, FF_d_H_do_telling⟩ := D.def_ 48 (d := d_H_do_telling) rfl
  have F_d_H_do_telling : FnT K "do_telling" "House.do_telling" (inClass (top 48) 17) [] [] (He.fAd K ("House", some "do_telling")) fd_d_H_do_telling := FF_d_H_do_telling
  clear FF_d_H_do_telling
  have O_do_telling := ok_do_telling (P := P) (w := w) (K := K) (mg := mg) (base := base) (c := c) F_d_H_do_telling g T R M_do_making1 M_need2 M_next_known0 F_truth M_do_marking1 M_next_name0 M_do_laying1
  have M_do_telling1 : MethOk P w K mg base c.CH "do_telling" 9 (spDoTelling c (clsD K)) [] := ⟨_, _, _, _, He.meth_ok (D.fact 99 (f := .meth "House" "do_telling") rfl), O_do_telling, (F_d_H_do_telling.bindsN (ps := ["self", "name"]) fun _ _ _ _ _ _ us hl => match us, hl with | [_, _], _ => rfl), .nil⟩
  obtain ⟨fd_d_H_taken, FF_d_H_taken⟩ := D.def_ 40 (d := d_H_taken) rfl
  have F_d_H_taken : FnT K "taken" "House.taken" (inClass (top 48) 9) [] [] (He.fAd K ("House", some "taken")) fd_d_H_taken := FF_d_H_taken
  clear FF_d_H_taken
  have O_taken := ok_taken (P := P) (w := w) (K := K) (mg := mg) (base := base) (c := c) F_d_H_taken g T R
  have M_taken0 : MethOk P w K mg base c.CH "taken" 2 (spTaken c) [] := ⟨_, _, _, _, He.meth_ok (D.fact 91 (f := .meth "House" "taken") rfl), O_taken, (F_d_H_taken.bindsN (ps := ["self"]) fun _ _ _ _ _ _ us hl => match us, hl with | [_], _ => rfl), .nil⟩
  obtain ⟨fd_d_deed_names, FF_d_deed_names⟩ := D.def_ 30 (d := d_deed_names) rfl
  have F_d_deed_names : FnT K "deed_names" "deed_names" (top 47) [] [] (He.fAd K ("deed_names", none)) fd_d_deed_names := FF_d_deed_names
  clear FF_d_deed_names
  have O_deed_names := ok_deed_names (P := P) (w := w) (K := K) (mg := mg) (base := base) (c := c) F_d_deed_names g T R FD hk
  have F_deed_names : CallOk P w K mg base "deed_names" 1 spDeedNames [] := ⟨_, _, _, _, He.glo_ok X G (D.fact 7 (f := .glo "deed_names") rfl), F_d_deed_names.kp, O_deed_names, (F_d_deed_names.bindsN (ps := []) fun _ _ _ _ _ _ us hl => match us, hl with | [], _ => rfl), .nil⟩
  obtain ⟨fd_d_Machine_init, FF_d_Machine_init⟩ := D.def_ 11 (d := d_Machine_init) rfl
  have F_d_Machine_init : FnT K "__init__" "Machine.__init__" (inClass (top 38) 0) [] [] (He.fAd K ("Machine", some "__init__")) fd_d_Machine_init := FF_d_Machine_init
  clear FF_d_Machine_init
  have O_Machine_init := ok_Machine_init (P := P) (w := w) (K := K) (mg := mg) (base := base) (c := c) F_d_Machine_init g T R
  have M_Machine_init : OffOk P w K mg base "Machine" "__init__" 1 (spMachInit c) [] := by
    obtain ⟨o4, o5, o6⟩ := offB_ok x3
    exact ⟨_, _, _, _, _, _, He.glo_ok X G (D.fact 18 (f := .glo "Machine") rfl), o4, o5, o6, O_Machine_init, (F_d_Machine_init.bindsN (ps := ["self", "most_cells", "most_stack"]) fun _ _ _ _ _ _ us hl => match us, hl with | [_, _, _], _ => rfl), .nil⟩
  obtain ⟨fd_d_House_init, FF_d_House_init⟩ := D.def_ 31 (d := d_House_init) rfl
  have F_d_House_init : FnT K "__init__" "House.__init__" (inClass (top 48) 0) [] [("cells", .int 400), ("pile", .int 32)] (He.fAd K ("House", some "__init__")) fd_d_House_init := FF_d_House_init
  clear FF_d_House_init
  have O_House_init := ok_House_init (P := P) (w := w) (K := K) (mg := mg) (base := base) (c := c) F_d_House_init g T R M_Machine_init F_deed_names M_Entry M_Entry_is_now
  have M_House : MakeOk P w K mg base "House" c.CH 3 (spHouseInit c) [.int 400, .int 32] := by
    obtain ⟨ds_, v_, b_⟩ := F_d_House_init.binds0 (ps := ["self", "cells", "pile"]) 1 (by simp) rfl (fun DD doc pm an cdv ct us ks h1 h2 => match us, ks, h1, h2 with | [_], [_, _], _, _ => ⟨_, _, _, _, _, _, rfl, rfl, ⟨_, _, _, _, _, _, rfl, rfl, rfl⟩⟩)
    exact ⟨_, _, _, _, He.glo_ok X G (D.fact 16 (f := .glo "House") rfl), He.mkr_ok (D.fact 62 (f := .mkr "House") rfl), O_House_init, b_, v_⟩
  have M_House_pile : MakeKOk P w K mg base "House" c.CH 3 (spHouseInit c) 0 (["pile"] : List Str) (fun vs zs => vs ++ [.int 400] ++ zs) := by
    obtain ⟨mv_, kb_⟩ := F_d_House_init.kbinds0 (ps := ["self", "cells", "pile"]) 1 (["pile"] : List Str) ([("cells", .int 400)] : List (Str × V)) (fun us mv ws => us ++ mv ++ ws) (by simp) (by simp) (fun r1 r2 r3 => Vals.append (Vals.append r1 r2) r3) (fun DD doc pm an cdv ct us mv ws h1 h2 h3 => match us, mv, ws, h1, h2, h3 with | [_], [_], [_], _, _, _ => ⟨_, _, _, _, _, _, rfl, rfl, rfl⟩)
    exact ⟨_, _, _, _, He.glo_ok X G (D.fact 16 (f := .glo "House") rfl), He.mkr_ok (D.fact 62 (f := .mkr "House") rfl), O_House_init, kb_⟩
  have M_House_cells : MakeKOk P w K mg base "House" c.CH 3 (spHouseInit c) 0 (["cells"] : List Str) (fun vs zs => vs ++ zs ++ [.int 32]) := by
    obtain ⟨mv_, kb_⟩ := F_d_House_init.kbinds0 (ps := ["self", "cells", "pile"]) 1 (["cells"] : List Str) ([("pile", .int 32)] : List (Str × V)) (fun us mv ws => us ++ ws ++ mv) (by simp) (by simp) (fun r1 r2 r3 => Vals.append (Vals.append r1 r3) r2) (fun DD doc pm an cdv ct us mv ws h1 h2 h3 => match us, mv, ws, h1, h2, h3 with | [_], [_], [_], _, _, _ => ⟨_, _, _, _, _, _, rfl, rfl, rfl⟩)
    exact ⟨_, _, _, _, He.glo_ok X G (D.fact 16 (f := .glo "House") rfl), He.mkr_ok (D.fact 62 (f := .mkr "House") rfl), O_House_init, kb_⟩
  have M_House_cells_pile : MakeKOk P w K mg base "House" c.CH 3 (spHouseInit c) 0 (["cells", "pile"] : List Str) (fun vs zs => vs ++ zs) := by
    obtain ⟨mv_, kb_⟩ := F_d_House_init.kbinds0 (ps := ["self", "cells", "pile"]) 1 (["cells", "pile"] : List Str) ([] : List (Str × V)) (fun us mv ws => us ++ ws) (by simp) (by simp) (fun r1 r2 r3 => Vals.append r1 r3) (fun DD doc pm an cdv ct us mv ws h1 h2 h3 => match us, mv, ws, h1, h2, h3 with | [_], [], [_, _], _, _, _ => rfl)
    exact ⟨_, _, _, _, He.glo_ok X G (D.fact 16 (f := .glo "House") rfl), He.mkr_ok (D.fact 62 (f := .mkr "House") rfl), O_House_init, kb_⟩
  obtain ⟨fd_d_H_pile, FF_d_H_pile⟩ := D.def_ 32 (d := d_H_pile) rfl
  have F_d_H_pile : FnT K "pile" "House.pile" (inClass (top 48) 1) [] [] (He.fAd K ("House", some "pile")) fd_d_H_pile := FF_d_H_pile
  clear FF_d_H_pile
  have O_pile := ok_pile (P := P) (w := w) (K := K) (mg := mg) (base := base) (c := c) F_d_H_pile g T R
  have M_pile0 : MethOk P w K mg base c.CH "pile" 1 (spPile c) [] := ⟨_, _, _, _, He.meth_ok (D.fact 83 (f := .meth "House" "pile") rfl), O_pile, (F_d_H_pile.bindsN (ps := ["self"]) fun _ _ _ _ _ _ us hl => match us, hl with | [_], _ => rfl), .nil⟩
  obtain ⟨fd_d_H_here, FF_d_H_here⟩ := D.def_ 33 (d := d_H_here) rfl
  have F_d_H_here : FnT K "here" "House.here" (inClass (top 48) 2) [] [] (He.fAd K ("House", some "here")) fd_d_H_here := FF_d_H_here
  clear FF_d_H_here
  have O_here := ok_here (P := P) (w := w) (K := K) (mg := mg) (base := base) (c := c) F_d_H_here g T R
  have M_here0 : MethOk P w K mg base c.CH "here" 1 (spHere c) [] := ⟨_, _, _, _, He.meth_ok (D.fact 84 (f := .meth "House" "here") rfl), O_here, (F_d_H_here.bindsN (ps := ["self"]) fun _ _ _ _ _ _ us hl => match us, hl with | [_], _ => rfl), .nil⟩
  obtain ⟨fd_d_H_cell, FF_d_H_cell⟩ := D.def_ 34 (d := d_H_cell) rfl
  have F_d_H_cell : FnT K "cell" "House.cell" (inClass (top 48) 3) [] [] (He.fAd K ("House", some "cell")) fd_d_H_cell := FF_d_H_cell
  clear FF_d_H_cell
  have O_cell := ok_cell (P := P) (w := w) (K := K) (mg := mg) (base := base) (c := c) F_d_H_cell g T R
  have M_cell1 : MethOk P w K mg base c.CH "cell" 1 (spCell c) [] := ⟨_, _, _, _, He.meth_ok (D.fact 85 (f := .meth "House" "cell") rfl), O_cell, (F_d_H_cell.bindsN (ps := ["self", "address"]) fun _ _ _ _ _ _ us hl => match us, hl with | [_, _], _ => rfl), .nil⟩
  obtain ⟨fd_d_H_do_other, FF_d_H_do_other⟩ := D.def_ 28 (d := d_H_do_other) rfl
  have F_d_H_do_other : FnT K "do_other" "Machine.do_other" (inClass (top 38) 17) [] [] (He.fAd K ("House", some "do_other")) fd_d_H_do_other := FF_d_H_do_other
  clear FF_d_H_do_other
  obtain ⟨fd_d_H_do, FF_d_H_do⟩ := D.def_ 22 (d := d_H_do) rfl
  have F_d_H_do : FnT K "do" "Machine.do" (inClass (top 38) 11) [] [] (He.fAd K ("House", some "do")) fd_d_H_do := FF_d_H_do
  clear FF_d_H_do
  obtain ⟨fd_d_H_go_into, FF_d_H_go_into⟩ := D.def_ 19 (d := d_H_go_into) rfl
  have F_d_H_go_into : FnT K "go_into" "Machine.go_into" (inClass (top 38) 8) [] [] (He.fAd K ("House", some "go_into")) fd_d_H_go_into := FF_d_H_go_into
  clear FF_d_H_go_into
  obtain ⟨fd_d_H_enter, FF_d_H_enter⟩ := D.def_ 18 (d := d_H_enter) rfl
  have F_d_H_enter : FnT K "enter" "Machine.enter" (inClass (top 38) 7) [] [] (He.fAd K ("House", some "enter")) fd_d_H_enter := FF_d_H_enter
  clear FF_d_H_enter
  obtain ⟨fd_d_H_perform, FF_d_H_perform⟩ := D.def_ 17 (d := d_H_perform) rfl
  have F_d_H_perform : FnT K "perform" "Machine.perform" (inClass (top 38) 6) [] [] (He.fAd K ("House", some "perform")) fd_d_H_perform := FF_d_H_perform
  clear FF_d_H_perform
  obtain ⟨fd_d_H_one_word, FF_d_H_one_word⟩ := D.def_ 43 (d := d_H_one_word) rfl
  have F_d_H_one_word : FnT K "one_word" "House.one_word" (inClass (top 48) 12) [] [] (He.fAd K ("House", some "one_word")) fd_d_H_one_word := FF_d_H_one_word
  clear FF_d_H_one_word
  obtain ⟨fd_d_H_tell, FF_d_H_tell⟩ := D.def_ 39 (d := d_H_tell) rfl
  have F_d_H_tell : FnT K "tell" "House.tell" (inClass (top 48) 8) [] [("most", .int 2000), ("whole", .bl true)] (He.fAd K ("House", some "tell")) fd_d_H_tell := FF_d_H_tell
  clear FF_d_H_tell
  have go : ∀ (n : Nat) (go : Ent → M Unit), MethOk P w K mg base c.CH "go_into" (n + 9) (spGo c (clsD K) go) [] → MethOk P w K mg base c.CH "go_into" (n + 12) (spGo c (clsD K) (goWith go)) [] := fun n go M_go_into1 => by
    have O_do_other := ok_do_other (P := P) (w := w) (K := K) (mg := mg) (base := base) (c := c) (n := n) (go := go) F_d_H_do_other T R M_need1 M_need_side1 M_entry1 M_go_into1 M_need_side2 M_give_deeds0 M_do_telling1
    have M_do_other1 : MethOk P w K mg base c.CH "do_other" (n + 10) (spDoOther c (clsD K) go) [] := ⟨_, _, _, _, He.meth_ok (D.fact 81 (f := .meth "House" "do_other") rfl), O_do_other, (F_d_H_do_other.bindsN (ps := ["self", "name"]) fun _ _ _ _ _ _ us hl => match us, hl with | [_, _], _ => rfl), .nil⟩
    have O_do := ok_do (P := P) (w := w) (K := K) (mg := mg) (base := base) (c := c) (n := n) (go := go) F_d_H_do g T R FD M_do_plain1 M_do_paired1 M_do_side1 M_do_cells1 M_do_other1
    have M_do1 : MethOk P w K mg base c.CH "do" (n + 11) (spDo c (clsD K) go) [] := ⟨_, _, _, _, He.meth_ok (D.fact 75 (f := .meth "House" "do") rfl), O_do, (F_d_H_do.bindsN (ps := ["self", "name"]) fun _ _ _ _ _ _ us hl => match us, hl with | [_, _], _ => rfl), .nil⟩
    have O_go_into := ok_go_into (P := P) (w := w) (K := K) (mg := mg) (base := base) (c := c) (n := n) (go := go) F_d_H_go_into T R M_do1 M_need2 M_forget_from1 M_go_to1
    exact ⟨_, _, _, _, He.meth_ok (D.fact 72 (f := .meth "House" "go_into") rfl), O_go_into, (F_d_H_go_into.bindsN (ps := ["self", "entry"]) fun _ _ _ _ _ _ us hl => match us, hl with | [_, _], _ => rfl), .nil⟩
  have gos : ∀ n : Nat, MethOk P w K mg base c.CH "go_into" (12 + 3 * n) (spGo c (clsD K) (goInto n)) [] := fun n => by
    induction n with
    | zero =>
      refine go 0 (fun _ => stuck) ?_
      have O_go_into : FnOk P w K mg base (L2N.CX P w) 9 (He.fAd K ("House", some "go_into")) fd_d_H_go_into ["self", "entry"] (spGo c (clsD K) fun _ => stuck) :=
        ⟨fun vs H Q E z => by
          obtain ⟨p, S, U, L, H0, b, e, rfl, _⟩ := z
          rfl, fun A outer s H args us vs Q E _ _ _ _ z => by
          obtain ⟨p, S, U, L, H0, b, e, rfl, _, _, _, z⟩ := z
          exact z.elim⟩
      exact ⟨_, _, _, _, He.meth_ok (D.fact 72 (f := .meth "House" "go_into") rfl), O_go_into, (F_d_H_go_into.bindsN (ps := ["self", "entry"]) fun _ _ _ _ _ _ us hl => match us, hl with | [_, _], _ => rfl), .nil⟩
    | succ n ih =>
      have e : 12 + 3 * (n + 1) = (3 + 3 * n) + 12 := by omega
      rw [e]
      exact go (3 + 3 * n) (goInto n) (by
        have e2 : 3 + 3 * n + 9 = 12 + 3 * n := by omega
        rw [e2]
        exact ih)
  have gW : mg "WordError" = some (.ref (He.ga K "WordError")) := He.glo_ok X G (D.fact 19 (f := .glo "WordError") rfl)
  have hW : ∀ e, PySem.W.exmOne K (.ref (clsD K e)) (.ref (He.ga K "WordError")) = some true := fun e => match e with
    | .noWord _ => ew "NoWord" (List.mem_of_getElem? (i := 0) rfl)
    | .noName => ew "NoName" (List.mem_of_getElem? (i := 1) rfl)
    | .short => ew "Short" (List.mem_of_getElem? (i := 2) rfl)
    | .deep => ew "Deep" (List.mem_of_getElem? (i := 3) rfl)
    | .sideShort => ew "SideShort" (List.mem_of_getElem? (i := 4) rfl)
    | .sideDeep => ew "SideDeep" (List.mem_of_getElem? (i := 5) rfl)
    | .byNought => ew "ByNought" (List.mem_of_getElem? (i := 6) rfl)
    | .badCell => ew "BadCell" (List.mem_of_getElem? (i := 7) rfl)
    | .full => ew "Full" (List.mem_of_getElem? (i := 8) rfl)
    | .tooLong => ew "TooLong" (List.mem_of_getElem? (i := 9) rfl)
    | .unfit => ew "Unfit" (List.mem_of_getElem? (i := 10) rfl)
    | .onlyWithin => ew "OnlyWithin" (List.mem_of_getElem? (i := 11) rfl)
    | .noForget => ew "NoForget" (List.mem_of_getElem? (i := 12) rfl)
  obtain ⟨fd_d_H_strike, FF_d_H_strike⟩ := D.def_ 42 (d := d_H_strike) rfl
  have F_d_H_strike : FnT K "strike" "House.strike" (inClass (top 48) 11) [] [] (He.fAd K ("House", some "strike")) fd_d_H_strike := FF_d_H_strike
  clear FF_d_H_strike
  have H_strike : MethHOk P w K mg base c.CH "strike" 1 (spStrike c) := ⟨_, _, _, He.meth_ok (D.fact 93 (f := .meth "House" "strike") rfl), ok_strike (P := P) (w := w) (K := K) (mg := mg) (base := base) (c := c) F_d_H_strike T, (F_d_H_strike.bindsN (ps := ["self"]) fun _ _ _ _ _ _ us hl => match us, hl with | [_], _ => rfl)⟩
  obtain ⟨fd_d_H_put_back, FF_d_H_put_back⟩ := D.def_ 41 (d := d_H_put_back) rfl
  have F_d_H_put_back : FnT K "put_back" "House.put_back" (inClass (top 48) 10) [] [] (He.fAd K ("House", some "put_back")) fd_d_H_put_back := FF_d_H_put_back
  clear FF_d_H_put_back
  have H_put_back : MethHOk P w K mg base c.CH "put_back" 1 (spPutBack c) := ⟨_, _, _, He.meth_ok (D.fact 92 (f := .meth "House" "put_back") rfl), ok_put_back (P := P) (w := w) (K := K) (mg := mg) (base := base) (c := c) F_d_H_put_back T, (F_d_H_put_back.bindsN (ps := ["self", "kept"]) fun _ _ _ _ _ _ us hl => match us, hl with | [_, _], _ => rfl)⟩
  have tlO : ∀ m : Nat, FnOk P w K mg base (L2N.CX P w) (16 + 3 * m) (He.fAd K ("House", some "tell")) fd_d_H_tell ["self", "text", "most", "whole"] (spTell c (clsD K) (goInto m)) := fun m => by
    have M_go_into1 : MethOk P w K mg base c.CH "go_into" ((3 + 3 * m) + 9) (spGo c (clsD K) (goInto m)) [] := by
      have e2 : 3 + 3 * m + 9 = 12 + 3 * m := by omega
      rw [e2]
      exact gos m
    let go := goInto m
    let n := 3 + 3 * m
    have O_enter := ok_enter (P := P) (w := w) (K := K) (mg := mg) (base := base) (c := c) (n := n) (go := go) F_d_H_enter g T R M_go_into1
    have M_enter1 : MethOk P w K mg base c.CH "enter" (n + 10) (spGo c (clsD K) (enterG go)) [] := ⟨_, _, _, _, He.meth_ok (D.fact 71 (f := .meth "House" "enter") rfl), O_enter, (F_d_H_enter.bindsN (ps := ["self", "entry"]) fun _ _ _ _ _ _ us hl => match us, hl with | [_, _], _ => rfl), .nil⟩
    have O_perform := ok_perform (P := P) (w := w) (K := K) (mg := mg) (base := base) (c := c) (n := n) (go := go) F_d_H_perform g T R M_enter1 M_need_cell1 M_entry1
    have M_perform1 : MethOk P w K mg base c.CH "perform" (n + 11) (spGo c (clsD K) (performG go)) [] := ⟨_, _, _, _, He.meth_ok (D.fact 70 (f := .meth "House" "perform") rfl), O_perform, (F_d_H_perform.bindsN (ps := ["self", "entry"]) fun _ _ _ _ _ _ us hl => match us, hl with | [_, _], _ => rfl), .nil⟩
    have O_one_word := ok_one_word (P := P) (w := w) (K := K) (mg := mg) (base := base) (c := c) (n := n) (go := go) F_d_H_one_word T R M_known1 M_lay1 M_perform1 F_number_of M_number_for1 M_need2
    have M_one_word1 : MethOk P w K mg base c.CH "one_word" (n + 12) (spOneWord c (clsD K) go) [] := ⟨_, _, _, _, He.meth_ok (D.fact 94 (f := .meth "House" "one_word") rfl), O_one_word, (F_d_H_one_word.bindsN (ps := ["self", "word"]) fun _ _ _ _ _ _ us hl => match us, hl with | [_, _], _ => rfl), .nil⟩
    have O_tell := ok_tell (P := P) (w := w) (K := K) (mg := mg) (base := base) (c := c) (n := n) (go := go) F_d_H_tell g T R M_taken0 M_one_word1 H_strike H_put_back gW hW
    have e3 : 16 + 3 * m = n + 13 := by
      show 16 + 3 * m = 3 + 3 * m + 13
      omega
    rw [e3]
    exact O_tell
  have t_M_tell1 : ∀ n : Nat, MethOk P w K mg base c.CH "tell" (16 + 3 * n) (spTell c (clsD K) (goInto n)) [.int 2000, .bl true] := fun n => by
    obtain ⟨ds_, v_, b_⟩ := F_d_H_tell.binds0 (ps := ["self", "text", "most", "whole"]) 2 (by simp) rfl (fun DD doc pm an cdv ct us ks h1 h2 => match us, ks, h1, h2 with | [_, _], [_, _], _, _ => ⟨_, _, _, _, _, _, rfl, rfl, ⟨_, _, _, _, _, _, rfl, rfl, rfl⟩⟩)
    exact ⟨_, _, _, _, He.meth_ok (D.fact 90 (f := .meth "House" "tell") rfl), tlO n, b_, v_⟩
  have t_M_tell_most_whole : ∀ n : Nat, MethKOk P w K mg base c.CH "tell" (16 + 3 * n) (spTell c (clsD K) (goInto n)) 2 (["most", "whole"] : List Str) (fun vs zs => vs ++ zs) := fun n => by
    obtain ⟨mv_, kb_⟩ := F_d_H_tell.kbinds0 (ps := ["self", "text", "most", "whole"]) 2 (["most", "whole"] : List Str) ([] : List (Str × V)) (fun us mv ws => us ++ ws) (by simp) (by simp) (fun r1 r2 r3 => Vals.append r1 r3) (fun DD doc pm an cdv ct us mv ws h1 h2 h3 => match us, mv, ws, h1, h2, h3 with | [_, _], [], [_, _], _, _, _ => rfl)
    exact ⟨_, _, _, _, He.meth_ok (D.fact 90 (f := .meth "House" "tell") rfl), tlO n, kb_⟩
  have t_M_tell_most : ∀ n : Nat, MethKOk P w K mg base c.CH "tell" (16 + 3 * n) (spTell c (clsD K) (goInto n)) 2 (["most"] : List Str) (fun vs zs => vs ++ zs ++ [.bl true]) := fun n => by
    obtain ⟨mv_, kb_⟩ := F_d_H_tell.kbinds0 (ps := ["self", "text", "most", "whole"]) 2 (["most"] : List Str) ([("whole", .bl true)] : List (Str × V)) (fun us mv ws => us ++ ws ++ mv) (by simp) (by simp) (fun r1 r2 r3 => Vals.append (Vals.append r1 r3) r2) (fun DD doc pm an cdv ct us mv ws h1 h2 h3 => match us, mv, ws, h1, h2, h3 with | [_, _], [_], [_], _, _, _ => ⟨_, _, _, _, _, _, rfl, rfl, rfl⟩)
    exact ⟨_, _, _, _, He.meth_ok (D.fact 90 (f := .meth "House" "tell") rfl), tlO n, kb_⟩
  have t_M_tell_whole : ∀ n : Nat, MethKOk P w K mg base c.CH "tell" (16 + 3 * n) (spTell c (clsD K) (goInto n)) 2 (["whole"] : List Str) (fun vs zs => vs ++ [.int 2000] ++ zs) := fun n => by
    obtain ⟨mv_, kb_⟩ := F_d_H_tell.kbinds0 (ps := ["self", "text", "most", "whole"]) 2 (["whole"] : List Str) ([("most", .int 2000)] : List (Str × V)) (fun us mv ws => us ++ mv ++ ws) (by simp) (by simp) (fun r1 r2 r3 => Vals.append (Vals.append r1 r2) r3) (fun DD doc pm an cdv ct us mv ws h1 h2 h3 => match us, mv, ws, h1, h2, h3 with | [_, _], [_], [_], _, _, _ => ⟨_, _, _, _, _, _, rfl, rfl, rfl⟩)
    exact ⟨_, _, _, _, He.meth_ok (D.fact 90 (f := .meth "House" "tell") rfl), tlO n, kb_⟩
  have nmE : ∀ e, clsD K e = He.ga K (errName e) := fun e => by cases e <;> rfl
  have memE : ∀ e, errName e ∈ (["NoWord", "NoName", "Short", "Deep", "SideShort", "SideDeep", "ByNought", "BadCell", "Full", "TooLong", "Unfit", "OnlyWithin", "NoForget"] : List Str) := fun e => match e with
    | .noWord _ => List.mem_of_getElem? (i := 0) rfl
    | .noName => List.mem_of_getElem? (i := 1) rfl
    | .short => List.mem_of_getElem? (i := 2) rfl
    | .deep => List.mem_of_getElem? (i := 3) rfl
    | .sideShort => List.mem_of_getElem? (i := 4) rfl
    | .sideDeep => List.mem_of_getElem? (i := 5) rfl
    | .byNought => List.mem_of_getElem? (i := 6) rfl
    | .badCell => List.mem_of_getElem? (i := 7) rfl
    | .full => List.mem_of_getElem? (i := 8) rfl
    | .tooLong => List.mem_of_getElem? (i := 9) rfl
    | .unfit => List.mem_of_getElem? (i := 10) rfl
    | .onlyWithin => List.mem_of_getElem? (i := 11) rfl
    | .noForget => List.mem_of_getElem? (i := 12) rfl
  have le : ∀ e, ErrL K (errName e) := fun e => errL_ok (List.all_eq_true.mp l3 _ (memE e))
  have inA : ∀ e, errName e ∈ ALLE := fun e => List.mem_cons_of_mem _ (memE e)
  have tgt : ∀ y ∈ ALLE, (PySem.W.clsIn K (He.ga K y)).isSome = true ∧ PySem.W.typeIn K (.ref (He.ga K y)) = some (.type "type") ∧ PySem.W.subIn K (.ref (He.ga K y)) (.type "BaseException") = some true := fun y hy => by
    rcases List.mem_cons.mp hy with rfl | hy
    · exact ⟨l5, of_decide_eq_true l6, of_decide_eq_true l7⟩
    · have E := errL_ok (List.all_eq_true.mp l3 _ hy)
      exact ⟨E.cl, E.ty, E.xf.exC⟩
  have nd := of_decide_eq_true l4
  have sx : ∀ y ∈ ([] : List Str), y ∈ ALLE := by decide +kernel
  have si : ∀ y ∈ ([] : List Str), y ∈ ALLE := by decide +kernel
  have xl : XL K mg (clsD K) ([] : List Str) ([] : List Str) := {
    xf := fun e => by rw [nmE]; exact (le e).xf
    pl := fun e => by rw [nmE]; exact (errB_ok (ee _ (memE e))).2.1
    wd := fun z => He.eqO_ok x4
    gx := fun x hx => nomatch hx
    gi := fun x hx => nomatch hx
    xm := fun x hx e => by
      rw [nmE]
      obtain ⟨c1, c2, c3⟩ := tgt x (sx x hx)
      show (if (PySem.W.subIn K (.ref (He.ga K x)) (.type "BaseException") == some true) = true then _ else _) = _
      rw [if_pos (by rw [c3]; simp)]
      exact err_kit (le e) nd (inA e) (sx x hx) c1 c2
    ei := fun e => by
      rw [nmE]
      obtain ⟨r, h1, _, h3, _⟩ := (le e).sub
      exact ⟨(le e).cl, (le e).xf.ga, (le e).xf.gg, (le e).xf.exC, (le e).ca, of_decide_eq_true l1, of_decide_eq_true l2, (h1 _).trans (congrArg some (List.contains_iff_mem.mpr (List.mem_cons_of_mem _ (List.mem_cons_of_mem _ h3))))⟩
    gv := n_ValueError
    ki := fun x hx e => by
      rw [nmE]
      obtain ⟨c1, c2, _⟩ := tgt x (si x hx)
      exact err_one (le e) nd (inA e) (si x hx) c1 c2
    kv := fun e => by rw [nmE]; exact err_ve (le e) }
  exact ⟨c, { xl := xl, T := T, g := g, R := R, gH := He.glo_ok X G (D.fact 16 (f := .glo "House") rfl), M_House := M_House, M_House_pile := M_House_pile, M_House_cells := M_House_cells, M_House_cells_pile := M_House_cells_pile, M_pile0 := M_pile0, M_here0 := M_here0, M_cell1 := M_cell1, F_moved := F_moved, F_compared := F_compared, F_reckoned := F_reckoned, M_Machine_init := M_Machine_init, F_deed_names := F_deed_names, M_Entry := M_Entry, M_Entry_is_now := M_Entry_is_now, M_taken0 := M_taken0, M_need1 := M_need1, M_need2 := M_need2, M_need_side1 := M_need_side1, M_need_side2 := M_need_side2, M_need_cell1 := M_need_cell1, M_need_room1 := M_need_room1, M_entry1 := M_entry1, M_forget_from1 := M_forget_from1, M_go_to1 := M_go_to1, M_do_plain1 := M_do_plain1, M_do_loop1 := M_do_loop1, M_do_paired1 := M_do_paired1, M_do_side1 := M_do_side1, M_do_cells1 := M_do_cells1, M_give_deeds0 := M_give_deeds0, M_lay1 := M_lay1, M_number_for1 := M_number_for1, M_next_name0 := M_next_name0, M_known1 := M_known1, M_next_known0 := M_next_known0, M_need_tie1 := M_need_tie1, M_lay_jump2 := M_lay_jump2, M_lay_postponed1 := M_lay_postponed1, M_end_word0 := M_end_word0, M_lay_tied1 := M_lay_tied1, M_do_laying1 := M_do_laying1, M_do_marking1 := M_do_marking1, M_do_making1 := M_do_making1, M_do_telling1 := M_do_telling1, M_add_entry2 := M_add_entry2, M_Entry_start_worth := M_Entry_start_worth, M_Entry_start_end := M_Entry_start_end, M_add_entry_worth := M_add_entry_worth, F_rounded := F_rounded, F_truth := F_truth, F_left_by := F_left_by, F_number_of := F_number_of, M_tell1 := t_M_tell1, M_tell_most_whole := t_M_tell_most_whole, M_tell_most := t_M_tell_most, M_tell_whole := t_M_tell_whole, eW := hW, gW := gW }⟩
end
end WH
set_option Elab.async false
set_option linter.all false
set_option maxRecDepth 100000
set_option maxHeartbeats 2000000
namespace WH
open PySem PySem.Spec PyProof.Rows L2
local macro_rules | `(tactic| walk_at "w") => `(tactic| repeat (with_reducible first
  | (refine is_te ?_; first | refine w_var (by with_unfolding_all rfl) ?_ | refine w_c ?_ | refine w_op ?_ | refine w_cb ?_ | refine w_call ?_ | refine w_self (by assumption) (by with_unfolding_all rfl) (by decide +kernel) ?_ | refine w_ife ?_ | (refine is_fld ?_; first | refine w_cells (by assumption) (by assumption) (by with_unfolding_all rfl) ?_ | refine w_stack (by assumption) (by assumption) (by with_unfolding_all rfl) ?_ | refine w_back (by assumption) (by assumption) (by with_unfolding_all rfl) ?_ | refine w_most_cells (by assumption) (by assumption) (by with_unfolding_all rfl) ?_ | refine w_most_stack (by assumption) (by assumption) (by with_unfolding_all rfl) ?_ | refine w_book (by assumption) (by assumption) (by with_unfolding_all rfl) ?_ | refine w_spot (by assumption) (by assumption) (by with_unfolding_all rfl) ?_ | refine w_left (by assumption) (by assumption) (by with_unfolding_all rfl) ?_ | refine w_at (by assumption) (by assumption) (by with_unfolding_all rfl) ?_ | refine w_told (by assumption) (by assumption) (by with_unfolding_all rfl) ?_ | refine w_words (by assumption) (by assumption) (by with_unfolding_all rfl) ?_ | refine w_mode (by assumption) (by assumption) (by with_unfolding_all rfl) ?_ | refine w_ties (by assumption) (by assumption) (by with_unfolding_all rfl) ?_ | refine w_many_deeds (by assumption) (by assumption) (by with_unfolding_all rfl) ?_ | refine w_steps (by assumption) (by assumption) (by with_unfolding_all rfl) ?_ | refine w_fld ?_) | refine w_lst ?_ | refine w_tup ?_ | refine w_bm ?_ | refine w_bm0 ?_ | refine w_un ?_ | refine w_sl ?_ | refine w_chain ?_)
  | (refine is_ta ?_; first | refine w_cons ?_ | refine w_nil ?_)
  | refine w_gn ?_
  | (refine is_ts ?_; first | refine w_seq ?_ | refine w_asg ?_ | refine w_ifs ?_ | refine w_drop ?_ | refine w_next ?_ | refine w_ret ?_ | refine w_retN ?_ | refine w_sfld ?_ | refine w_augS ?_ | refine w_aug_spot (by assumption) (by assumption) (by with_unfolding_all rfl) ?_ | refine w_aug_left (by assumption) (by assumption) (by with_unfolding_all rfl) ?_ | refine w_aug_at (by assumption) (by assumption) (by with_unfolding_all rfl) ?_)
  | (refine is_tt ?_; first | refine w_test ?_ | refine w_and ?_ | refine w_or ?_ | refine w_not ?_ | refine w_tB ?_)
  | (refine is_r2 ?_; first | refine w_i0 ?_ | refine w_eqt ?_ | refine w_eqi ?_ | refine w_net ?_ | refine w_nei ?_ | refine w_isN ?_ | refine w_notN ?_ | refine w_rAdd ?_ | refine w_rSub ?_ | refine w_ipI ?_)
  | (refine is_ty ?_; first | refine w_tyS' (by assumption) ?_ | refine w_tyC (by assumption) ?_ | refine w_tyB (by assumption) ?_ | refine w_tyT (by assumption) ?_ | refine w_tyK (by assumption) ?_ | refine w_tyI (by assumption) ?_)
  | (refine is_ln ?_; first | refine w_lnS (by assumption) ?_ | refine w_lnC (by assumption) ?_ | refine w_lnB (by assumption) ?_ | refine w_lnT (by assumption) ?_ | refine w_lnW (by assumption) ?_ | refine w_lnK (by assumption) ?_)
  | (refine is_rf ?_; first | refine e_kind (by assumption) (by assumption) ?_ | refine e_name (by assumption) (by assumption) ?_ | refine e_number (by assumption) (by assumption) ?_ | refine e_start (by assumption) (by assumption) ?_ | refine e_end (by assumption) (by assumption) ?_ | refine e_was (by assumption) (by assumption) ?_ | refine e_worth (by assumption) (by assumption) ?_ | refine e_beyond (by assumption) (by assumption) ?_ | refine e_is_now (by assumption) (by assumption) ?_)
  | refine w_bl ?_ | refine w_mkw ?_ | refine w_mknw ?_ | refine w_part1 ?_ | refine w_neg ?_ | refine w_smk ?_ | refine w_smkn ?_ | refine w_noP ?_ | refine w_part ?_ | refine w_gcut ?_ | refine w_gsub ?_))

/-- built-in names that the law alone calls -/
structure Gl (mg : Str → Option Value) : Prop where
  isinstance : mg "isinstance" = none
  max : mg "max" = none
  tuple : mg "tuple" = none
  bool : mg "bool" = none
  min : mg "min" = none
theorem passN {X : Cx} : Passes (L2N.CX X.prog X.w) X (fun _ _ _ => False) := fun _ _ _ _ _ _ _ c => by
  obtain ⟨_, _, _, _, _, _, _, _, _, _, _, _, z⟩ := c
  exact z.elim
/-- what the law draws from -/
def LawH (h l : Addr) (H : Hp) : Prop := ∃ (m k : Int) (cs : List Int), H h = some (.lst [.int m, .ref l, .int k]) ∧ H l = some (.lst (iv cs)) ∧ 0 ≤ m ∧ m < 2147483647 ∧ 0 ≤ k ∧ cs.length ≤ 1000
/-- all else stays -/
def Kept (h l : Addr) (H H' : Hp) : Prop := ∀ b o, H b = some o → b ≠ h → b ≠ l → H' b = some o
theorem Kept.refl {h l : Addr} {H : Hp} : Kept h l H H := fun _ _ e _ _ => e
theorem Kept.trans {h l : Addr} {H1 H2 H3 : Hp} (a : Kept h l H1 H2) (b : Kept h l H2 H3) : Kept h l H1 H3 := fun c o e n1 n2 => b c o (a c o e n1 n2) n1 n2
theorem Kept.same {h l : Addr} {H H' : Hp} (s : Same H H') : Kept h l H H' := fun c o e _ _ => s c o e
theorem Kept.put {h l : Addr} {H : Hp} {u : HO} : Kept h l H (upd H h u) := fun c o e n _ => (upd_ne n).trans e
theorem Kept.put2 {h l : Addr} {H : Hp} {u : HO} : Kept h l H (upd H l u) := fun c o e _ n => (upd_ne n).trans e
theorem LawH.ne {h l : Addr} {H : Hp} (L : LawH h l H) : h ≠ l := by
  obtain ⟨m, k, cs, h1, h2, _⟩ := L
  intro e
  rw [e, h2] at h1
  injection h1 with h1
  injection h1 with h1
  cases cs with
  | nil => cases h1
  | cons a r =>
    injection h1 with _ h1
    cases r with
    | nil => cases h1
    | cons b r =>
      injection h1 with h1
      cases h1
section
variable {P : Program} {w : World} {K : PySem.W.Frag} {mg : Str → Option Value} {base : Heap} {c : Cn} {cls : Err → Addr}
theorem fmod_pos {a b : Int} (hb : 0 < b) : 0 ≤ a.fmod b ∧ a.fmod b < b := by
  rw [Int.fmod_eq_emod_of_nonneg _ (Int.le_of_lt hb)]
  exact ⟨Int.emod_nonneg _ (by omega), Int.emod_lt_of_pos _ hb⟩
theorem atI_int {xs : List V} {j : Int} {v : V} (h0 : 0 ≤ j) (h : xs[j.toNat]? = some v) : atI xs j = some v := by
  have e := atI_nat h
  rw [Int.toNat_of_nonneg h0] at e
  exact e
theorem ixN_int {n : Nat} {j : Int} (h0 : 0 ≤ j) (h : j < n) : ixN n j = some j.toNat := by
  unfold ixN
  rw [if_pos h0, if_pos (by omega)]
theorem pick_at {cs : List Int} {k : Int} : ∃ x, atI (iv cs ++ iv [0]) (k.fmod (if (cs.length : Int) > 1 then (cs.length : Int) else 1)) = some (.int x) ∧ (cs = [] → x = 0) := by
  have h1 : 0 < (if (cs.length : Int) > 1 then (cs.length : Int) else 1) := by split <;> omega
  have h2 := fmod_pos (a := k) h1
  have h3 : (k.fmod (if (cs.length : Int) > 1 then (cs.length : Int) else 1)).toNat < (cs ++ [0]).length := by
    rw [List.length_append]
    have h4 : (if (cs.length : Int) > 1 then (cs.length : Int) else 1) ≤ cs.length + 1 := by split <;> omega
    have h5 : ([0] : List Int).length = 1 := rfl
    omega
  refine ⟨(cs ++ [0])[(k.fmod (if (cs.length : Int) > 1 then (cs.length : Int) else 1)).toNat], ?_, fun e => ?_⟩
  · rw [← iv_app]
    exact atI_int h2.1 (iv_get (List.getElem?_eq_getElem h3))
  · subst e
    have e2 : ∀ (i : Nat) (h : i < (([] : List Int) ++ [0]).length), (([] : List Int) ++ [0])[i] = 0 := fun i h => by
      have : i = 0 := by
        have h6 : (([] : List Int) ++ [0]).length = 1 := rfl
        omega
      subst this
      rfl
    exact e2 _ _
theorem w_max2 {i j : Int} {H : Hp} {Q : VK} (q : Q (.int (if j > i then j else i)) H) : rMax2 [.int i, .int j] H Q := ⟨i, j, rfl, q⟩
theorem w_setL {l : Addr} {xs : List V} {i : Int} {v : V} {H : Hp} {R : Hp → Prop} (h : H l = some (.lst xs)) (h0 : 0 ≤ i) (h1 : i < xs.length) (q : R (upd H l (.lst (xs.set i.toNat v)))) : rSetL (.ref l) (.int i) v H R :=
  ⟨l, xs, i, i.toNat, rfl, rfl, h, ixN_int h0 h1, q⟩
theorem w_setE {l : Addr} {xs ys : List V} {i : Int} {v : V} {H : Hp} {R : Hp → Prop} (h : H l = some (.lst xs)) (h0 : 0 ≤ i) (h1 : i < xs.length) (e : xs.set i.toNat v = ys) (q : R (upd H l (.lst ys))) : rSetL (.ref l) (.int i) v H R := w_setL h h0 h1 (by rw [e]; exact q)
def spLMix (K : PySem.W.Frag) : Sp := fun vs H Q _ => ∃ (a : Addr) (ns : List Int) (seed : Int), vs = [.ref a, .int seed] ∧ SqL K H a (iv ns) ∧ ns.length ≤ 1000 ∧ 0 ≤ seed ∧ seed < 2147483647 ∧ ∀ H' h l, LawH h l H' → Same H H' → H h = none → H l = none → Q (.ref h) H'
theorem sc_law_mix : FnScope ["_law_script", "_law_seed", "_law_mixed", "_law_cell"] ["_law_script", "_law_seed"] (defScope (top 50)) := ⟨rfl, rfl, rfl, by decide +kernel, rfl, by decide +kernel, by decide +kernel⟩
theorem ok_law_mix {f : Addr} {fd : FuncData} (F : FnT K "_law_mix" "_law_mix" (top 50) [] [] f fd) (g : Gb w K mg) : FnOk P w K mg base (L2N.CX P w) 1 f fd ["_law_script", "_law_seed"] (spLMix K) := by
  refine F.ok sc_law_mix (fun vs H Q E h => ?_) (fun cdv A outer s H vs Q E hr h => ?_)
  · obtain ⟨a, ns, seed, rfl, _⟩ := h
    rfl
  · obtain ⟨a, ns, seed, rfl, hs, hl, h0, h1, k⟩ := h
    try dsimp only at k
    refine ⟨_, (pss_cons (ps_set (i := 2) sc_law_mix.nd rfl (by first | exact Or.inl rfl | exact Or.inr rfl) (pv 1))
      (pss_cons (ps_for (passes_of rfl) rfl (pi_list (pv 0)) (pg_name (i := 3) sc_law_mix.nd rfl (by first | exact Or.inl rfl | exact Or.inr rfl)) (pss_one (ps_set (i := 2) sc_law_mix.nd rfl (by first | exact Or.inl rfl | exact Or.inr rfl) (pe_op op_modN (pe_op op_add (pe_op op_add (pe_op op_mul (pv 2) pe_int) (pe_op op_modN (pv 3) pe_int)) pe_int) pe_int))))
      (pss_one (ps_ret (pe_lst (pa_cons (pv 2) (pa_cons (pe_callTy call_lso (by rfl) g.list (by decide +kernel) (pa_cons (pv 0) pa_nil)) (pa_cons pe_int pa_nil)))))))), ?_⟩
    try dsimp only [cxOf_K]
    walk_at "w"
    unfold tFor iList
    walk_at "w"
    refine ⟨a, rfl, ⟨_, hs⟩, ?_⟩
    refine for_list (xs := iv ns) (fun i σ H' => H' = H ∧ ∃ m o, σ = [some (.ref a), some (.int seed), some (.int m), o] ∧ 0 ≤ m ∧ m < 2147483647) ⟨rfl, seed, none, rfl, h0, h1⟩ (fun i σ H' _ h => by rw [h.1]; exact hs) (fun i x σ H' hx h => ?_) (fun σ H' h => ?_)
    · obtain ⟨rfl, m, o, rfl, hm0, hm1⟩ := h
      unfold iv at hx
      rw [List.getElem?_map] at hx
      cases hz : ns[i]? with
      | none =>
        rw [hz] at hx
        cases hx
      | some z =>
        rw [hz] at hx
        cases hx
        walk_at "w"
        refine w_i (.inl ⟨by omega, by omega⟩) ?_
        walk_at "w"
        refine w_i (by decide) ?_
        walk_at "w"
        refine w_i (by decide) ?_
        walk_at "w"
        have hb := fmod_pos (a := m * 48271 + z.fmod 2147483629 + 1) (b := 2147483647) (by decide)
        exact ⟨rfl, _, _, rfl, hb.1, hb.2⟩
    · obtain ⟨rfl, m, o, rfl, hm0, hm1⟩ := h
      walk_at "w"
      refine ⟨a, _, rfl, .inl hs, fun l hlf => ?_⟩
      walk_at "w"
      refine ⟨by show 3 ≤ sizeLine; decide, fun h hh => ?_⟩
      have hl2 : upd H' l (.lst (iv ns)) l = some (.lst (iv ns)) := upd_same
      have n1 : l ≠ h := ne_of_none hl2 hh
      have hh0 : H' h = none := (same_new hlf).free hh
      refine k _ h l ⟨m, 0, ns, upd_same, ?_, hm0, hm1, Int.le_refl _, hl⟩ (fun b o e => ?_) hh0 hlf
      · rw [upd_ne n1]
        exact hl2
      · rw [upd_ne (ne_of_none e hh0), upd_ne (ne_of_none e hlf)]
        exact e
def spLNext : Sp := fun vs H Q _ => ∃ (h l : Addr) (many : Int), vs = [.ref h, .int many] ∧ LawH h l H ∧ 1 ≤ many ∧ many < 1073741824 ∧ ∀ H' r, LawH h l H' → Kept h l H H' → 0 ≤ r → r < many → Q (.int r) H'
theorem sc_law_next : FnScope ["_law_h", "_law_many", "_law_cell"] ["_law_h", "_law_many"] (defScope (top 51)) := ⟨rfl, rfl, rfl, by decide +kernel, rfl, by decide +kernel, by decide +kernel⟩
theorem ok_law_next {f : Addr} {fd : FuncData} (F : FnT K "_law_next" "_law_next" (top 51) [] [] f fd) (g : Gb w K mg) (gl : Gl mg) : FnOk P w K mg base (L2N.CX P w) 1 f fd ["_law_h", "_law_many"] spLNext := by
  refine F.ok sc_law_next (fun vs H Q E h => ?_) (fun cdv A outer s H vs Q E hr h => ?_)
  · obtain ⟨h, l, many, rfl, _⟩ := h
    rfl
  · obtain ⟨h, l, many, rfl, L, hm1, hm2, k⟩ := h
    try dsimp only at k
    refine ⟨_, (pss_cons (ps_set (i := 2) sc_law_next.nd rfl (by first | exact Or.inl rfl | exact Or.inr rfl) (pe_ix ix_list (pe_op op_cat (pe_ix ix_list (pv 0) pe_int (fun _ _ => rfl)) (pe_lst (pa_cons pe_int pa_nil))) (pe_op op_modN (pe_ix ix_list (pv 0) pe_int (fun _ _ => rfl)) (pe_callB (call_mx2 rfl) (by rfl) gl.max (by decide +kernel) (pa_cons pe_int (pa_cons (pe_callB call_ln (by rfl) g.len PySem.boot_len (pa_cons (pe_ix ix_list (pv 0) pe_int (fun _ _ => rfl)) pa_nil)) pa_nil)))) (fun _ _ => rfl)))
      (pss_cons (ps_if (pt_cmpR op_ge (pv 2) (pe_op op_pow pe_int pe_int) (nomark _)) (pss_cons (ps_asg (pe_op op_fdivN (pv 2) (pv 1)) (pg_sub (pe_ix ix_list (pv 0) pe_int (fun _ _ => rfl)) (pe_op op_modN (pe_ix ix_list (pv 0) pe_int (fun _ _ => rfl)) (pe_callB call_ln (by rfl) g.len PySem.boot_len (pa_cons (pe_ix ix_list (pv 0) pe_int (fun _ _ => rfl)) pa_nil))) set_list))
      (pss_one (ps_ret (pe_op op_modN (pv 2) (pv 1))))) pss_nil)
      (pss_cons (ps_asg (pe_op op_modN (pe_op op_add (pe_op op_add (pe_op op_mul (pe_ix ix_list (pv 0) pe_int (fun _ _ => rfl)) pe_int) (pe_op op_mul (pv 2) pe_int)) pe_int) pe_int) (pg_sub (pv 0) pe_int set_list))
      (pss_cons (ps_asg (pe_op op_add (pe_ix ix_list (pv 0) pe_int (fun _ _ => rfl)) pe_int) (pg_sub (pv 0) pe_int set_list))
      (pss_one (ps_ret (pe_op op_modN (pe_op op_fdivN (pe_ix ix_list (pv 0) pe_int (fun _ _ => rfl)) pe_int) (pv 1)))))))), ?_⟩
    try dsimp only [cxOf_K]
    have hne := L.ne
    obtain ⟨m, kk, cs, h1, h2, hm, hm', hk, hcs⟩ := L
    walk_at "w"
    refine w_ixL h1 (atI_nat (j := 1) rfl) ?_
    walk_at "w"
    refine ⟨by show 1 ≤ sizeLine; decide, fun q hq => ?_⟩
    have sq := same_new (o := .lst (iv [0])) hq
    have hqq : upd H q (.lst (iv [0])) q = some (.lst (iv [0])) := upd_same
    show rCat _ _ (upd H q (.lst (iv [0]))) _
    have h1' := sq _ _ h1
    have h2' := sq _ _ h2
    generalize upd H q (.lst (iv [0])) = H1 at sq hqq h1' h2' ⊢
    refine w_cat h2' hqq (by rw [iv_len, iv_len]; show cs.length + 1 ≤ sizeLine; exact Nat.le_trans (Nat.add_le_add_right hcs 1) (by decide)) fun q2 hq2 => ?_
    have sq2 := same_new (o := .lst (iv cs ++ iv [0])) hq2
    have hqq2 : upd H1 q2 (.lst (iv cs ++ iv [0])) q2 = some (.lst (iv cs ++ iv [0])) := upd_same
    have h1'' := sq2 _ _ h1'
    have h2'' := sq2 _ _ h2'
    have sqq := same_trans sq sq2
    generalize upd H1 q2 (.lst (iv cs ++ iv [0])) = H2 at sq2 hqq2 h1'' h2'' sqq ⊢
    clear hqq h1' h2' sq sq2 h1 h2
    walk_at "w"
    refine w_ixL h1'' (atI_nat (j := 2) rfl) ?_
    walk_at "w"
    refine w_ixL h1'' (atI_nat (j := 1) rfl) ?_
    walk_at "w"
    refine w_lnG h2'' ?_
    rw [iv_len]
    walk_at "w"
    refine w_max2 ?_
    refine w_i (by split <;> omega) ?_
    obtain ⟨x, hx, hx0⟩ := pick_at (cs := cs) (k := kk)
    refine w_ixL hqq2 hx ?_
    walk_at "w"
    refine w_i ⟨by decide, by decide, by decide⟩ ?_
    walk_at "w"
    refine ite_dec (fun hbig => ?_) (fun hbig => ?_)
    · have hbig' : (1000000000000000000 : Int) ≤ x := hbig
      have hcn : 0 < (cs.length : Int) := by
        cases cs with
        | nil =>
          have := hx0 rfl
          omega
        | cons a r =>
          rw [List.length_cons]
          omega
      have hj := fmod_pos (a := kk) hcn
      walk_at "w"
      refine w_i ⟨by omega, by omega⟩ ?_
      walk_at "w"
      refine w_ixL h1'' (atI_nat (j := 1) rfl) ?_
      walk_at "w"
      refine w_ixL h1'' (atI_nat (j := 2) rfl) ?_
      walk_at "w"
      refine w_ixL h1'' (atI_nat (j := 1) rfl) ?_
      walk_at "w"
      refine w_lnG h2'' ?_
      rw [iv_len]
      refine w_i (by omega) ?_
      refine w_setL h2'' hj.1 (by rw [iv_len]; exact hj.2) ?_
      walk_at "w"
      refine w_i (by omega) ?_
      have hr := fmod_pos (a := x) (b := many) (by omega)
      refine k _ _ ⟨m, kk, cs.set (kk.fmod cs.length).toNat (x.fdiv many), ?_, ?_, hm, hm', hk, by rw [List.length_set]; exact hcs⟩ (fun b o e n1 n2 => ?_) hr.1 hr.2
      · rw [upd_ne hne]
        exact h1''
      · rw [upd_same]
        unfold iv
        rw [List.map_set]
      · rw [upd_ne n2]
        exact sqq _ _ e
    · walk_at "w"
      refine w_ixL h1'' (atI_nat (j := 0) rfl) ?_
      walk_at "w"
      refine w_i (.inl ⟨by omega, by omega⟩) ?_
      walk_at "w"
      refine w_i (.inr ⟨by decide, by decide⟩) ?_
      walk_at "w"
      refine w_i (by decide) ?_
      have hr := fmod_pos (a := m * 48271 + x * 69621 + 11) (b := 2147483647) (by decide)
      generalize (m * 48271 + x * 69621 + 11).fmod 2147483647 = m2 at hr ⊢
      walk_at "w"
      refine w_setE (i := 0) (ys := [.int m2, .ref l, .int kk]) h1'' (by decide) (by show (0 : Int) < 3; decide) rfl ?_
      have h3 : upd H2 h (.lst [.int m2, .ref l, .int kk]) h = some (.lst [.int m2, .ref l, .int kk]) := upd_same
      have h4 : upd H2 h (.lst [.int m2, .ref l, .int kk]) l = some (.lst (iv cs)) := (upd_ne hne.symm).trans h2''
      have kp : Kept h l H (upd H2 h (.lst [.int m2, .ref l, .int kk])) := (Kept.same sqq).trans Kept.put
      generalize upd H2 h (.lst [.int m2, .ref l, .int kk]) = H3 at h3 h4 kp ⊢
      walk_at "w"
      refine w_ixL h3 (atI_nat (j := 2) rfl) ?_
      walk_at "w"
      refine w_setE (i := 2) (ys := [.int m2, .ref l, .int (kk + 1)]) h3 (by decide) (by show (2 : Int) < 3; decide) rfl ?_
      have h5 : upd H3 h (.lst [.int m2, .ref l, .int (kk + 1)]) h = some (.lst [.int m2, .ref l, .int (kk + 1)]) := upd_same
      have h6 : upd H3 h (.lst [.int m2, .ref l, .int (kk + 1)]) l = some (.lst (iv cs)) := (upd_ne hne.symm).trans h4
      have kp2 : Kept h l H (upd H3 h (.lst [.int m2, .ref l, .int (kk + 1)])) := kp.trans Kept.put
      generalize upd H3 h (.lst [.int m2, .ref l, .int (kk + 1)]) = H4 at h5 h6 kp2 ⊢
      walk_at "w"
      refine w_ixL h5 (atI_nat (j := 0) rfl) ?_
      walk_at "w"
      refine w_i ⟨by decide, by decide⟩ ?_
      walk_at "w"
      refine w_i (by omega) ?_
      have hr2 := fmod_pos (a := m2.fdiv 7) (b := many) (by omega)
      exact k _ _ ⟨m2, kk + 1, cs, h5, h6, hr.1, hr.2, by omega, hcs⟩ kp2 hr2.1 hr2.2
def spLRound : Sp := fun vs H Q _ => ∃ n : Int, vs = [.int n] ∧ Q (.int ((n + 32768) % 65536 - 32768)) H
theorem sc_law_round : FnScope ["_law_number_here"] ["_law_number_here"] (defScope (top 53)) := ⟨rfl, rfl, rfl, by decide +kernel, rfl, by decide +kernel, by decide +kernel⟩
theorem ok_law_round {f : Addr} {fd : FuncData} (F : FnT K "_law_round" "_law_round" (top 53) [] [] f fd) : FnOk P w K mg base (L2N.CX P w) 1 f fd ["_law_number_here"] spLRound := by
  refine F.ok sc_law_round (fun vs H Q E h => ?_) (fun cdv A outer s H vs Q E hr h => ?_)
  · obtain ⟨n, rfl, _⟩ := h
    rfl
  · obtain ⟨n, rfl, k⟩ := h
    try dsimp only at k
    refine ⟨_, (pss_one (ps_ret (pe_op op_sub (pe_op op_modN (pe_op op_add (pv 0) pe_int) pe_int) pe_int))), ?_⟩
    try dsimp only [cxOf_K]
    walk_at "w"
    refine w_i (by decide) ?_
    walk_at "w"
    rw [Int.fmod_eq_emod_of_nonneg _ (by decide)]
    exact k
end
end WH
set_option Elab.async false
set_option linter.all false
set_option maxRecDepth 100000
set_option maxHeartbeats 1000000
namespace WH
open PySem PyProof.Rows
/-! ### a number's word -/
def itxt (i : Int) : Str := Str.ofString (toString i)
theorem it_pos (n : Nat) : (itxt (n : Int)).cps.toList = TL.numL n := TL.tl_num n
theorem it_neg (n : Nat) : (itxt (Int.negSucc n)).cps.toList = 45 :: TL.numL (n + 1) := by
  have e := it_pos (n + 1)
  have e1 : toString (Int.negSucc n) = "-" ++ toString (((n + 1 : Nat) : Int)) := rfl
  unfold itxt at e ⊢
  rw [e1, Str.ofString_eq_toList, String.toList_append]
  rw [Str.ofString_eq_toList] at e
  have e2 : ((⟨((toString (((n + 1 : Nat) : Int))).toList.map Char.toNat).toArray⟩ : Str)).cps.toList = (toString (((n + 1 : Nat) : Int))).toList.map Char.toNat := by simp
  rw [e2] at e
  rw [← e]
  simp
theorem numL_head : ∀ n : Nat, 1 ≤ n → (TL.numL n).head? ≠ some 48 := fun n => by
  induction n using Nat.strongRecOn with
  | _ n ih =>
    intro h
    by_cases h1 : n < 10
    · rw [TL.numL_lt h1]
      intro e
      have := Option.some.inj e
      omega
    · rw [TL.numL_step (by omega)]
      have h2 := ih (n / 10) (by omega) (by omega)
      cases e : TL.numL (n / 10) with
      | nil => exact absurd e (TL.numL_ne _)
      | cons a r =>
        rw [e] at h2
        exact h2
theorem numL_all (n : Nat) : (TL.numL n).all isDig = true := List.all_eq_true.mpr fun c hc => by
  have := TL.numL_digits n c hc
  unfold isDig
  simp
  exact this
theorem numL_no45 (n : Nat) : (TL.numL n).head? ≠ some 45 := by
  cases e : TL.numL n with
  | nil => simp
  | cons a r =>
    intro h
    have h1 := Option.some.inj h
    have h2 := TL.numL_digits n a (by rw [e]; exact List.mem_cons_self)
    omega
theorem numFig_num {neg : Bool} {l : List Nat} {n : Nat} (hn : n < 100000) (h : n ≠ 0 ∨ l = [48]) (hr : -32768 ≤ (if neg then -(n : Int) else n) ∧ (if neg then -(n : Int) else n) ≤ 32767) : numFig neg l (TL.numL n) = some (if neg then -(n : Int) else n) := by
  unfold numFig
  have h1 : decide (1 ≤ (TL.numL n).length) = true := decide_eq_true (Nat.succ_le_of_lt (List.length_pos_iff.mpr (TL.numL_ne n)))
  have h2 : decide ((TL.numL n).length ≤ 5) = true := decide_eq_true (TL.numL_len (by decide) hn)
  rw [h1, h2, numL_all]
  have h3 : (decide ((TL.numL n).head? = some 48) && decide (l ≠ [48])) = false := by
    rw [Bool.and_eq_false_iff]
    rcases h with h | h
    · exact .inl (decide_eq_false (numL_head n (by omega)))
    · exact .inr (decide_eq_false fun z => z h)
  rw [h3]
  have h4 : valOf (TL.numL n) = (n : Int) := by rw [val_dig (numL_all n), TL.numL_val]
  rw [h4]
  show numRange _ = _
  unfold numRange
  rw [if_pos hr]
theorem num_itxt {i : Int} (h1 : -32768 ≤ i) (h2 : i ≤ 32767) : numberOf (itxt i) = some i := by
  unfold numberOf
  rw [numOf_fig]
  cases i with
  | ofNat n =>
    have e : (itxt (Int.ofNat n)).cps.toList = TL.numL n := it_pos n
    show numFig _ (itxt (Int.ofNat n)).cps.toList _ = some (n : Int)
    rw [e, decide_eq_false (numL_no45 n)]
    rw [if_neg Bool.false_ne_true]
    have h2' : (n : Int) ≤ 32767 := h2
    refine numFig_num (neg := false) (by omega) ?_ ⟨by show -32768 ≤ (n : Int); omega, h2'⟩
    by_cases z : n = 0
    · subst z
      exact .inr rfl
    · exact .inl z
  | negSucc n =>
    rw [it_neg n]
    have e2 : Int.negSucc n = -(((n + 1 : Nat)) : Int) := rfl
    have e3 : decide ((45 :: TL.numL (n + 1)).head? = some 45) = true := rfl
    rw [e3, if_pos rfl, e2]
    rw [e2] at h1 h2
    exact numFig_num (neg := true) (by omega) (.inl (by omega)) ⟨h1, h2⟩
theorem itxt_len {i : Int} (h1 : -32768 ≤ i) (h2 : i ≤ 32767) : (itxt i).length ≤ 6 := by
  unfold itxt
  rw [PySem.ofString_length]
  exact PySem.int_text_length_le10 (by decide) (by omega)
theorem itxt_signs (i : Int) : (itxt i).cps.toList ≠ [] ∧ ∀ c ∈ (itxt i).cps.toList, c = 45 ∨ (48 ≤ c ∧ c ≤ 57) := by
  cases i with
  | ofNat n =>
    have e := it_pos n
    show (itxt (n : Int)).cps.toList ≠ [] ∧ ∀ c ∈ (itxt (n : Int)).cps.toList, _
    rw [e]
    exact ⟨TL.numL_ne n, fun c hc => .inr (TL.numL_digits n c hc)⟩
  | negSucc n =>
    rw [it_neg n]
    refine ⟨by simp, fun c hc => ?_⟩
    rcases List.mem_cons.mp hc with h | h
    · exact .inl h
    · exact .inr (TL.numL_digits _ c h)
/-- a word without blanks -/
def isWord (z : Str) : Prop := z.cps.toList ≠ [] ∧ ∀ c ∈ z.cps.toList, Unicode.isSpace c = false
theorem sign_no {c : Nat} (h : c = 45 ∨ (48 ≤ c ∧ c ≤ 57)) : Unicode.isSpace c = false := by
  have h2 : c = 45 ∨ c = 48 ∨ c = 49 ∨ c = 50 ∨ c = 51 ∨ c = 52 ∨ c = 53 ∨ c = 54 ∨ c = 55 ∨ c = 56 ∨ c = 57 := by omega
  rcases h2 with e | e | e | e | e | e | e | e | e | e | e <;> subst e <;> decide +kernel
theorem itxt_word (i : Int) : isWord (itxt i) := ⟨(itxt_signs i).1, fun c hc => sign_no ((itxt_signs i).2 c hc)⟩
/-- words joined by blanks are told apart -/
theorem words_join {ws : List Str} (h : ∀ z ∈ ws, isWord z) : Txt.words (Txt.join " " ws) = ws := by
  refine TL.map_tl_inj ?_
  rw [TL.words_tl, TL.join_eq, TL.tl_join]
  have e : TL.tl (" " : Str) = [32] := by decide +kernel
  rw [e]
  cases ws with
  | nil => rfl
  | cons a r =>
    rw [TL.wfold_join ((a :: r).map TL.tl) [] (by simp) fun p hp => by
      obtain ⟨z, hz, rfl⟩ := List.mem_map.mp hp
      exact h z hz]
    rfl
end WH
set_option Elab.async false
set_option linter.all false
set_option maxRecDepth 100000
set_option maxHeartbeats 1000000
namespace WH
open PySem PyProof.Rows
theorem bind_ok {α β : Type} {m : M α} {f : α → M β} {S S1 : MS} {a : α} (h : m S = .ok a S1) : M.bind m f S = f a S1 := by
  unfold M.bind
  rw [h]
theorem must_ok {c : MS → Bool} {S : MS} (h : c S = true) : must c S = .ok () S := by
  unfold must
  rw [h]
  rfl
theorem need_ok' {a b : Int} {S : MS} (h1 : a ≤ (S.stack.length : Int)) (h2 : (S.stack.length : Int) + b ≤ S.ms) : need a b S = .ok () S := by
  unfold need
  rw [if_neg (by omega), if_neg (by omega)]
theorem bind_get {β : Type} {f : MS → M β} {S : MS} : M.bind get' f S = f S S := rfl
theorem bind_mod {β : Type} {g : MS → MS} {f : Unit → M β} {S : MS} : M.bind (modify' g) f S = f () (g S) := rfl
/-! ### numbers told -/
theorem deeds_no : deedEnts.all (fun e => decide (numberOf e.name = none)) = true := by decide +kernel
theorem known_no {S : MS} {z : Str} {i : Int} (hb : S.book = deedEnts) (h : numberOf z = some i) : known S z = none := by
  unfold known
  rw [hb]
  refine List.find?_eq_none.mpr fun e he => ?_
  have h1 := of_decide_eq_true (List.all_eq_true.mp deeds_no e (List.mem_reverse.mp he))
  intro h2
  have h3 : e.name = z := of_decide_eq_true h2
  rw [h3, h] at h1
  cases h1
theorem oneWord_num {n : Nat} {S : MS} {z : Str} {i : Int} (h : numberOf z = some i) (hk : known S z = none) (hz : z.length ≤ LIM) (hm : S.mode = false) (hs : (S.stack.length : Int) + 1 ≤ S.ms) (hl : S.stack.length < LIM) :
    oneWord n z S = .ok () { S with stack := S.stack ++ [i] } := by
  unfold oneWord
  rw [hk]
  dsimp only
  rw [if_pos hz, h]
  dsimp only
  rw [if_neg (by rw [hm]; exact Bool.false_ne_true)]
  refine (bind_ok (need_ok' (by omega) hs)).trans ?_
  unfold push
  rw [if_pos hl]
theorem wordsFrom_one {n f : Nat} {S S1 : MS} {z : Str} (h0 : 0 ≤ S.at_) (hw : S.words[S.at_.toNat]? = some z) (h : oneWord n z S = .ok () S1) :
    wordsFrom n (f + 1) S = wordsFrom n f { S1 with at_ := S1.at_ + 1, back := [] } := by
  have hlt : S.at_ < (S.words.length : Int) := by
    obtain ⟨l, _⟩ := List.getElem?_eq_some_iff.mp hw
    omega
  have hg : S.words.getD S.at_.toNat Str.empty = z := by
    rw [List.getD_eq_getElem?_getD, hw]
    rfl
  show (if S.at_ < (S.words.length : Int) then M.bind (must fun s => decide (0 ≤ s.at_)) (fun _ => M.bind (oneWord n (S.words.getD S.at_.toNat Str.empty)) fun _ => M.bind (modify' fun s => { s with at_ := s.at_ + 1, back := [] }) fun _ => wordsFrom n f) S else .ok () S) = _
  rw [if_pos hlt, hg]
  refine (bind_ok (must_ok (decide_eq_true h0))).trans ?_
  refine (bind_ok h).trans ?_
  rfl
theorem tell_nums {n : Nat} : ∀ (xs : List Int) {f : Nat} {S : MS} {pre post : List Str}, S.words = pre ++ (xs.map itxt ++ post) → S.at_ = (pre.length : Int) → S.mode = false → S.book = deedEnts → S.back = [] →
    (∀ x ∈ xs, -32768 ≤ x ∧ x ≤ 32767) → (S.stack.length : Int) + xs.length ≤ S.ms → S.stack.length + xs.length < LIM →
    wordsFrom n (xs.length + f) S = wordsFrom n f { S with at_ := S.at_ + xs.length, stack := S.stack ++ xs }
  | [], f, S, pre, post, hw, ha, hm, hb, hk, hx, h1, h2 => by
    have e : ({ S with at_ := S.at_ + (([] : List Int).length : Int), stack := S.stack ++ [] } : MS) = S := by
      cases S
      simp
    rw [e]
    show wordsFrom n (0 + f) S = _
    rw [Nat.zero_add]
  | x :: r, f, S, pre, post, hw, ha, hm, hb, hk, hx, h1, h2 => by
    have hx1 := hx x List.mem_cons_self
    have hn := num_itxt hx1.1 hx1.2
    have hw1 : S.words[S.at_.toNat]? = some (itxt x) := by
      rw [hw, ha, Int.toNat_natCast, List.getElem?_append_right (Nat.le_refl _), Nat.sub_self]
      rfl
    rw [List.length_cons] at h1 h2
    have h3 := oneWord_num (n := n) hn (known_no hb hn) (Nat.le_trans (itxt_len hx1.1 hx1.2) (by decide)) hm (by omega) (by omega)
    have e1 : (x :: r).length + f = (r.length + f) + 1 := by rw [List.length_cons]; omega
    rw [e1, wordsFrom_one (by omega) hw1 h3]
    rw [tell_nums r (pre := pre ++ [itxt x]) (post := post) (S := { S with stack := S.stack ++ [x], at_ := S.at_ + 1, back := [] }) (by
        show S.words = _
        rw [hw, List.map_cons]
        simp) (by
        show S.at_ + 1 = _
        rw [ha, List.length_append]
        simp) hm hb rfl (fun y hy => hx y (List.mem_cons_of_mem _ hy)) (by
        show ((S.stack ++ [x]).length : Int) + _ ≤ S.ms
        rw [List.length_append, List.length_singleton]
        omega) (by
        show (S.stack ++ [x]).length + _ < LIM
        rw [List.length_append, List.length_singleton]
        omega)]
    congr 1
    have e2 : S.at_ + 1 + (r.length : Int) = S.at_ + ((r.length + 1 : Nat) : Int) := by omega
    dsimp only
    rw [List.append_assoc, List.length_cons, e2, hk]
    rfl
/-! ### a deed on the pile -/
theorem faces_known : faces.all (fun p => (match deedEnts.reverse.find? (fun e => decide (e.name = p.1)) with
    | some e => decide (e.kind = .deed) && (decide (e.name = p.1) && !e.now)
    | none => false) && decide (¬ p.1 ∈ within)) = true := by decide +kernel
theorem known_face {S : MS} {z : Str} {a l : Int} (hb : S.book = deedEnts) (h : faces.lookup z = some (a, l)) : (∃ e, known S z = some e ∧ e.kind = .deed ∧ e.name = z ∧ e.now = false) ∧ ¬ z ∈ within := by
  have h1 := List.all_eq_true.mp faces_known _ (faces_mem h)
  dsimp only at h1
  rw [Bool.and_eq_true] at h1
  obtain ⟨h1, h2⟩ := h1
  refine ⟨?_, of_decide_eq_true h2⟩
  unfold known
  rw [hb]
  split at h1
  · rename_i e he
    rw [Bool.and_eq_true, Bool.and_eq_true] at h1
    obtain ⟨h3, h4, h5⟩ := h1
    refine ⟨e, he, of_decide_eq_true h3, of_decide_eq_true h4, ?_⟩
    cases h6 : e.now with
    | false => rfl
    | true =>
      rw [h6] at h5
      cases h5
  · cases h1
theorem face_in {z : Str} {a l : Int} (h : faces.lookup z = some (a, l)) : z ∈ faces.map (·.1) := List.mem_map.mpr ⟨_, faces_mem h, rfl⟩
theorem goInto_deed {n : Nat} {e : Ent} {S : MS} (hk : e.kind = .deed) : ∃ go, goInto n e S = doDeed go e.name S := by
  cases n with
  | zero =>
    refine ⟨fun _ => stuck, ?_⟩
    show goWith (fun _ => stuck) e S = _
    unfold goWith
    rw [hk]
  | succ m =>
    refine ⟨goInto m, ?_⟩
    show goWith (goInto m) e S = _
    unfold goWith
    rw [hk]
theorem doPlain_ok {S : MS} {z : Str} {a l : Int} {ys : List Int} (h : faces.lookup z = some (a, l)) (h1 : a ≤ (S.stack.length : Int)) (h2 : (S.stack.length : Int) + (l - a) ≤ S.ms) (hf : fitsBy z S = true)
    (hy : leftBy z (S.stack.drop (S.stack.length - a.toNat)) = some ys) : doPlain z S = .ok () { S with stack := S.stack.take (S.stack.length - a.toNat) ++ ys } := by
  unfold doPlain
  rw [h]
  show M.bind (need a (l - a)) (fun _ => M.bind (must (fitsBy z)) fun _ => M.bind get' fun s => match leftBy z (s.stack.drop (s.stack.length - a.toNat)) with
    | none => fail .byNought
    | some ys => modify' fun s => { s with stack := s.stack.take (s.stack.length - a.toNat) ++ ys }) S = _
  refine (bind_ok (need_ok' h1 h2)).trans ?_
  refine (bind_ok (must_ok hf)).trans ?_
  refine bind_get.trans ?_
  rw [hy]
  rfl
theorem perform_deed {n : Nat} {e : Ent} {S S1 : MS} (hk : e.kind = .deed) (hl : 1 ≤ S.left) (h : ∀ go, doDeed go e.name { S with spot := -1, left := S.left - 1 } = .ok () S1) (hs : S1.spot = -1) : perform n e S = .ok () S1 := by
  show M.bind (setSpot (-1)) (fun _ => M.bind (enter n e) fun _ => M.bind get' fun s => runFrom n (s.left.toNat + 1)) S = _
  unfold setSpot
  refine bind_mod.trans ?_
  have e1 : enter n e { S with spot := -1 } = .ok () S1 := by
    show (if S.left - 1 < 0 then _ else goInto n e { S with spot := -1, left := S.left - 1 }) = _
    rw [if_neg (by omega)]
    obtain ⟨go, eg⟩ := goInto_deed (n := n) (S := { S with spot := -1, left := S.left - 1 }) hk
    rw [eg, h go]
  refine (bind_ok e1).trans ?_
  refine bind_get.trans ?_
  show (if S1.spot = -1 then _ else _) = _
  rw [if_pos hs]
theorem oneWord_face {n : Nat} {S : MS} {z : Str} {a l : Int} {ys : List Int} (hb : S.book = deedEnts) (h : faces.lookup z = some (a, l)) (hm : S.mode = false) (hl : 1 ≤ S.left) (h1 : a ≤ (S.stack.length : Int)) (h2 : (S.stack.length : Int) + (l - a) ≤ S.ms)
    (hf : fitsBy z S = true) (hy : leftBy z (S.stack.drop (S.stack.length - a.toNat)) = some ys) : oneWord n z S = .ok () { S with spot := -1, left := S.left - 1, stack := S.stack.take (S.stack.length - a.toNat) ++ ys } := by
  obtain ⟨⟨e, ek, e1, e2, e3⟩, hw⟩ := known_face hb h
  unfold oneWord
  rw [ek]
  dsimp only
  rw [if_neg (fun q => by rw [hm] at q; exact Bool.false_ne_true q.1)]
  refine perform_deed e1 hl (fun go => ?_) rfl
  rw [e2]
  show (if z ∈ within ∧ (-1 : Int) = -1 then _ else if z ∈ faces.map (·.1) then doPlain z else _ : M Unit) { S with spot := -1, left := S.left - 1 } = _
  rw [if_neg (fun q => hw q.1), if_pos (face_in h)]
  exact doPlain_ok (S := { S with spot := -1, left := S.left - 1 }) h h1 h2 hf hy
/-! ### a whole text -/
theorem joinL_len (S : List Nat) : ∀ ps : List (List Nat), (TL.joinL S ps).length ≤ (ps.map (·.length)).sum + ps.length * S.length
  | [] => by simp [TL.joinL]
  | [p] => by simp [TL.joinL]
  | p :: q :: r => by
    have h := joinL_len S (q :: r)
    show (p ++ (S ++ TL.joinL S (q :: r))).length ≤ _
    rw [List.length_append, List.length_append]
    simp only [List.map_cons, List.sum_cons, List.length_cons] at h ⊢
    have e : (r.length + 1 + 1) * S.length = (r.length + 1) * S.length + S.length := by rw [Nat.add_mul, Nat.one_mul]
    omega
theorem sumL_le {α : Type} {f : α → Nat} {b : Nat} : ∀ {l : List α}, (∀ x ∈ l, f x ≤ b) → (l.map f).sum ≤ l.length * b
  | [], _ => by simp
  | a :: r, h => by
    have h1 := sumL_le (l := r) fun x hx => h x (List.mem_cons_of_mem _ hx)
    have h2 := h a List.mem_cons_self
    rw [List.map_cons, List.sum_cons, List.length_cons, Nat.add_mul]
    omega
theorem join_len {ws : List Str} {b : Nat} (h : ∀ z ∈ ws, z.length ≤ b) : (Txt.join " " ws).length ≤ ws.length * (b + 1) := by
  have e : (Txt.join " " ws).length = (TL.joinL [32] (ws.map TL.tl)).length := by
    have e1 : TL.tl (Txt.join " " ws) = TL.joinL [32] (ws.map TL.tl) := by
      rw [TL.join_eq, TL.tl_join]
      have e2 : TL.tl (" " : Str) = [32] := by decide +kernel
      rw [e2]
    rw [← e1]
    exact TL.len_tl _
  rw [e]
  refine Nat.le_trans (joinL_len _ _) ?_
  rw [List.map_map, List.length_map, Nat.mul_add]
  have h1 := sumL_le (f := ((·.length) ∘ TL.tl)) (b := b) (l := ws) fun z hz => by
    have := h z hz
    rw [TL.len_tl] at this
    exact this
  show _ + ws.length * 1 ≤ _
  omega
/-- the numbers are told, then a deed of the pile's -/
theorem tell_face {n : Nat} {deep most : Int} {xs : List Int} {z : Str} {a l : Int} {ys : List Int} (hx : ∀ x ∈ xs, -32768 ≤ x ∧ x ≤ 32767) (h : faces.lookup z = some (a, l)) (hm : 1 ≤ most) (h1 : a ≤ (xs.length : Int)) (h3 : (xs.length : Int) ≤ deep)
    (h2 : (xs.length : Int) + (l - a) ≤ deep) (hl : xs.length < 1000) (hy : leftBy z (xs.drop (xs.length - a.toNat)) = some ys) :
    ∃ S', wordsFrom n ((xs.map itxt ++ [z]).length + 1) { newHouse 400 deep with words := xs.map itxt ++ [z], at_ := 0, left := most } = .ok () S' ∧ S'.stack = xs.take (xs.length - a.toNat) ++ ys ∧ S'.told = [] := by
  have e1 : (xs.map itxt ++ [z]).length + 1 = xs.length + 2 := by
    rw [List.length_append, List.length_map]
    rfl
  rw [e1]
  have e2 := tell_nums (n := n) xs (f := 2) (S := { newHouse 400 deep with words := xs.map itxt ++ [z], at_ := 0, left := most }) (pre := []) (post := [z]) rfl rfl rfl rfl rfl hx (by show ((0 : Nat) : Int) + _ ≤ deep; omega) (by show 0 + xs.length < LIM; unfold LIM; omega)
  rw [e2]
  obtain ⟨S1, hS⟩ : ∃ S1 : MS, S1 = { newHouse 400 deep with words := xs.map itxt ++ [z], at_ := 0 + (xs.length : Int), left := most, stack := [] ++ xs } := ⟨_, rfl⟩
  have f1 : S1.stack = xs := by rw [hS]; rfl
  have f2 : S1.words = xs.map itxt ++ [z] := by rw [hS]
  have f3 : S1.at_ = (xs.length : Int) := by rw [hS]; exact Int.zero_add _
  have f4 : S1.book = deedEnts := by rw [hS]; rfl
  have f5 : S1.mode = false := by rw [hS]; rfl
  have f6 : S1.left = most := by rw [hS]
  have f7 : S1.ms = deep := by rw [hS]; rfl
  have f8 : S1.told = [] := by rw [hS]; rfl
  have hf : fitsBy z S1 = true := by
    unfold fitsBy
    rw [Bool.and_eq_true, f1]
    refine ⟨decide_eq_true ?_, List.all_eq_true.mpr fun x hq => ?_⟩
    · unfold LIM
      omega
    · have := hx x (List.mem_of_mem_drop hq)
      rw [Bool.and_eq_true, decide_eq_true_iff, decide_eq_true_iff]
      exact ⟨by omega, by omega⟩
  have e3 := oneWord_face (n := n) (S := S1) f4 h f5 (by rw [f6]; exact hm) (by rw [f1]; exact h1) (by rw [f1, f7]; exact h2) hf (by rw [f1]; exact hy)
  have hw : S1.words[S1.at_.toNat]? = some z := by
    rw [f2, f3, Int.toNat_natCast, List.getElem?_append_right (by rw [List.length_map]; exact Nat.le_refl _), List.length_map, Nat.sub_self]
    rfl
  have e4 := wordsFrom_one (n := n) (f := 1) (S := S1) (by rw [f3]; omega) hw e3
  refine ⟨{ S1 with spot := -1, left := S1.left - 1, stack := S1.stack.take (S1.stack.length - a.toNat) ++ ys, at_ := S1.at_ + 1, back := [] }, ?_, ?_, f8⟩
  · refine (congrArg (wordsFrom n 2) hS.symm).trans (e4.trans ?_)
    show (if S1.at_ + 1 < (S1.words.length : Int) then _ else Out.ok () _) = _
    rw [if_neg (by rw [f2, f3, List.length_append, List.length_map, List.length_singleton]; omega)]
  · show S1.stack.take (S1.stack.length - a.toNat) ++ ys = _
    rw [f1]
end WH
set_option Elab.async false
set_option linter.all false
set_option maxRecDepth 100000
set_option maxHeartbeats 1000000
namespace WH
open PySem PyProof.Rows
/-! ### words of texts -/
theorem tl_inj' {x y : Str} (h : TL.tl x = TL.tl y) : x = y := by
  have e : ([x] : List Str).map TL.tl = ([y] : List Str).map TL.tl := congrArg ([·]) h
  have := TL.map_tl_inj e
  injection this
theorem wstep_pre (ws : List (List Nat)) : ∀ (l : List Nat) (a : List (List Nat)) (u : List Nat), l.foldl TL.wstep (ws ++ a, u) = (ws ++ (l.foldl TL.wstep (a, u)).1, (l.foldl TL.wstep (a, u)).2)
  | [], a, u => rfl
  | c :: r, a, u => by
    rw [List.foldl_cons, List.foldl_cons]
    have e : TL.wstep (ws ++ a, u) c = (ws ++ (TL.wstep (a, u) c).1, (TL.wstep (a, u) c).2) := by
      unfold TL.wstep
      dsimp only
      by_cases h : Unicode.isSpace c = true
      · rw [if_pos h, if_pos h]
        by_cases h2 : u = []
        · rw [if_pos h2, if_pos h2]
        · rw [if_neg h2, if_neg h2, List.append_assoc]
      · rw [if_neg h, if_neg h]
    rw [e]
    exact wstep_pre ws r _ _
/-- signs that are blanks, one at least -/
def Blanks (s : Str) : Prop := TL.tl s ≠ [] ∧ ∀ c ∈ TL.tl s, Unicode.isSpace c = true
theorem wfold_blanks : ∀ (l : List Nat) (ws : List (List Nat)) (u : List Nat), l ≠ [] → (∀ c ∈ l, Unicode.isSpace c = true) → l.foldl TL.wstep (ws, u) = (TL.wfin (ws, u), [])
  | [], _, _, h, _ => (h rfl).elim
  | c :: r, ws, u, _, h => by
    have hc := h c List.mem_cons_self
    have e : TL.wstep (ws, u) c = (TL.wfin (ws, u), []) := by
      unfold TL.wstep TL.wfin
      dsimp only
      rw [if_pos hc]
      by_cases h2 : u = []
      · rw [if_pos h2, if_pos h2, h2]
      · rw [if_neg h2, if_neg h2]
    rw [List.foldl_cons, e]
    cases r with
    | nil => rfl
    | cons d q =>
      rw [wfold_blanks (d :: q) _ _ (by simp) fun c hc => h c (List.mem_cons_of_mem _ hc)]
      exact congrArg (·, []) (if_pos rfl)
theorem words_cut {x s y : Str} (h : Blanks s) : Txt.words (x ++ (s ++ y)) = Txt.words x ++ Txt.words y := by
  refine TL.map_tl_inj ?_
  rw [List.map_append, TL.words_tl, TL.words_tl, TL.words_tl, TL.tl_append, TL.tl_append, List.foldl_append, List.foldl_append]
  generalize (TL.tl x).foldl TL.wstep ([], []) = q
  obtain ⟨ws, u⟩ := q
  rw [wfold_blanks _ ws u h.1 h.2]
  have e := wstep_pre (TL.wfin (ws, u)) (TL.tl y) [] []
  rw [List.append_nil] at e
  rw [e]
  generalize (TL.tl y).foldl TL.wstep ([], []) = q
  obtain ⟨a, b⟩ := q
  unfold TL.wfin
  dsimp only
  by_cases h2 : b = []
  · rw [if_pos h2, if_pos h2]
  · rw [if_neg h2, if_neg h2, List.append_assoc]
theorem words_word {z : Str} (h : isWord z) : Txt.words z = [z] := by
  refine TL.map_tl_inj ?_
  rw [TL.words_tl, TL.wfold_word _ _ _ h.2, List.nil_append]
  exact if_neg h.1
theorem words_joinS {s : Str} (hs : Blanks s) : ∀ {ws : List Str}, (∀ z ∈ ws, isWord z) → Txt.words (Txt.join s ws) = ws
  | [], _ => by
    rw [TL.join_eq]
    exact TL.map_tl_inj (by rw [TL.words_tl, TL.tl_join]; rfl)
  | [a], h => by
    have e : Txt.join s [a] = a := by
      rw [TL.join_eq]
      exact tl_inj' (by rw [TL.tl_join]; rfl)
    rw [e]
    exact words_word (h a List.mem_cons_self)
  | a :: b :: r, h => by
    have e : Txt.join s (a :: b :: r) = a ++ (s ++ Txt.join s (b :: r)) := by
      rw [TL.join_eq, TL.join_eq]
      refine tl_inj' ?_
      rw [TL.tl_join, TL.tl_append, TL.tl_append, TL.tl_join]
      first | done | rfl
    rw [e, words_cut hs, words_word (h a List.mem_cons_self), words_joinS hs fun z hz => h z (List.mem_cons_of_mem _ hz)]
    rfl
theorem join_lenS {s : Str} {m b : Nat} (hs : s.length ≤ m) {ws : List Str} (h : ∀ z ∈ ws, z.length ≤ b) : (Txt.join s ws).length ≤ ws.length * (b + m) := by
  have e : (Txt.join s ws).length = (TL.joinL (TL.tl s) (ws.map TL.tl)).length := by
    have e1 : TL.tl (Txt.join s ws) = TL.joinL (TL.tl s) (ws.map TL.tl) := by
      rw [TL.join_eq, TL.tl_join]
    rw [← e1]
    exact TL.len_tl _
  rw [e]
  refine Nat.le_trans (joinL_len _ _) ?_
  rw [List.map_map, List.length_map, Nat.mul_add]
  have h1 := sumL_le (f := ((·.length) ∘ TL.tl)) (b := b) (l := ws) fun z hz => by
    have := h z hz
    rw [TL.len_tl] at this
    exact this
  have h2 : (TL.tl s).length ≤ m := by
    rw [← TL.len_tl]
    exact hs
  have h3 := Nat.mul_le_mul_left ws.length h2
  show _ + ws.length * _ ≤ _
  omega
/-! ### deeds -/
def deedOk (z : Str) : Bool := match deedEnts.reverse.find? (fun e => decide (e.name = z)) with
  | some e => decide (e.kind = .deed) && (decide (e.name = z) && !e.now)
  | none => false
theorem known_deed {S : MS} {z : Str} (hb : S.book = deedEnts) (h : deedOk z = true) : ∃ e, known S z = some e ∧ e.kind = .deed ∧ e.name = z ∧ e.now = false := by
  unfold known
  rw [hb]
  unfold deedOk at h
  split at h
  · rename_i e he
    rw [Bool.and_eq_true, Bool.and_eq_true] at h
    obtain ⟨h3, h4, h5⟩ := h
    refine ⟨e, he, of_decide_eq_true h3, of_decide_eq_true h4, ?_⟩
    cases h6 : e.now with
    | false => rfl
    | true =>
      rw [h6] at h5
      cases h5
  · cases h
theorem oneWord_deed {n : Nat} {S S1 : MS} {z : Str} (hb : S.book = deedEnts) (h : deedOk z = true) (hm : S.mode = false) (hl : 1 ≤ S.left) (hd : ∀ go, doDeed go z { S with spot := -1, left := S.left - 1 } = .ok () S1) (hs : S1.spot = -1) : oneWord n z S = .ok () S1 := by
  obtain ⟨e, ek, e1, e2, e3⟩ := known_deed hb h
  unfold oneWord
  rw [ek]
  dsimp only
  rw [if_neg (fun q => by rw [hm] at q; exact Bool.false_ne_true q.1)]
  refine perform_deed e1 hl (fun go => ?_) hs
  rw [e2]
  exact hd go
theorem doDeed_dot {go : Ent → M Unit} {S : MS} {pre : List Int} {x : Int} (hst : S.stack = pre ++ [x]) (ht : S.told.length < LIM) (hms : (S.stack.length : Int) ≤ S.ms) : doDeed go "." S = .ok () { S with stack := pre, told := S.told ++ [x] } := by
  have h1 : ¬ (("." : Str) ∈ within) := by decide +kernel
  have h2 : ¬ (("." : Str) ∈ faces.map (·.1)) := by decide +kernel
  have h3 : ¬ (("." : Str) ∈ paired) := by decide +kernel
  have h4 : ¬ (("." : Str) ∈ sidewise) := by decide +kernel
  have h5 : ¬ (("." : Str) ∈ storing) := by decide +kernel
  show (if ("." : Str) ∈ within ∧ S.spot = -1 then fail .onlyWithin else if ("." : Str) ∈ faces.map (·.1) then doPlain "." else if ("." : Str) ∈ paired then doPaired "." else if ("." : Str) ∈ sidewise then doSide "." else if ("." : Str) ∈ storing then doCells "." else doOther go "." : M Unit) S = _
  rw [if_neg (fun q => h1 q.1), if_neg h2, if_neg h3, if_neg h4, if_neg h5]
  unfold doOther
  rw [if_pos rfl]
  refine (bind_ok (need_ok' (by rw [hst, List.length_append, List.length_singleton]; omega) (by omega))).trans ?_
  have hp : pop S = .ok x { S with stack := pre } := by
    unfold pop
    rw [hst]
    have e1 : (pre ++ [x]).getLast? = some x := by simp
    rw [e1]
    dsimp only
    rw [List.dropLast_concat]
  refine (bind_ok hp).trans ?_
  refine (bind_ok (must_ok (decide_eq_true ht))).trans ?_
  rfl
end WH
set_option Elab.async false
set_option linter.all false
set_option maxRecDepth 100000
set_option maxHeartbeats 1000000
namespace WH
open PySem PyProof.Rows
/-! ### words told one behind another -/
/-- a house apart from the text that is told -/
def norm (S : MS) : MS := { S with words := [], at_ := 0, left := 0, spot := -1, back := [] }
/-- what a word does: with k deeds at most -/
def Step (n : Nat) (z : Str) (k : Nat) (S S' : MS) : Prop := ∀ T : MS, norm T = S → T.back = [] → (k : Int) ≤ T.left → ∃ T', oneWord n z T = .ok () T' ∧ norm T' = S' ∧ T'.words = T.words ∧ T'.at_ = T.at_ ∧ T.left ≤ T'.left + k
inductive Steps (n : Nat) : List Str → Nat → MS → MS → Prop
  | nil {S : MS} : Steps n [] 0 S S
  | cons {z : Str} {k j : Nat} {ws : List Str} {S S1 S2 : MS} : Step n z k S S1 → Steps n ws j S1 S2 → Steps n (z :: ws) (k + j) S S2
theorem Steps.one {n k : Nat} {z : Str} {S S1 : MS} (h : Step n z k S S1) : Steps n [z] k S S1 := .cons h .nil
theorem Steps.app {n k j : Nat} {ws us : List Str} {S S1 S2 : MS} (a : Steps n ws k S S1) (b : Steps n us j S1 S2) : Steps n (ws ++ us) (k + j) S S2 := by
  induction a with
  | nil =>
    rw [Nat.zero_add]
    exact b
  | cons h _ ih =>
    rw [Nat.add_assoc]
    exact .cons h (ih b)
theorem Steps.run {n k : Nat} {ws : List Str} {S S' : MS} (h : Steps n ws k S S') : ∀ {f : Nat} {T : MS} {pre post : List Str}, norm T = S → T.back = [] → T.words = pre ++ (ws ++ post) → T.at_ = (pre.length : Int) → (k : Int) ≤ T.left →
    ∃ T', wordsFrom n (ws.length + f) T = wordsFrom n f T' ∧ norm T' = S' ∧ T'.back = [] ∧ T'.words = T.words ∧ T'.at_ = ((pre.length + ws.length : Nat) : Int) ∧ T.left ≤ T'.left + k := by
  induction h with
  | nil =>
    intro f T pre post e hb hw ha hl
    exact ⟨T, by rw [List.length_nil, Nat.zero_add], e, hb, rfl, ha, by omega⟩
  | @cons z k j ws S S1 S2 h _ ih =>
    intro f T pre post e hb hw ha hl
    obtain ⟨T1, e1, n1, w1, a1, l1⟩ := h T e hb (by omega)
    have hz : T.words[T.at_.toNat]? = some z := by
      rw [hw, ha, Int.toNat_natCast, List.getElem?_append_right (Nat.le_refl _), Nat.sub_self]
      rfl
    have e2 := wordsFrom_one (n := n) (f := ws.length + f) (by omega) hz e1
    obtain ⟨T2, e3, n2, b2, w2, a2, l2⟩ := ih (f := f) (T := { T1 with at_ := T1.at_ + 1, back := [] }) (pre := pre ++ [z]) (post := post) n1 rfl (by
      show T1.words = _
      rw [w1, hw]
      simp) (by
      show T1.at_ + 1 = _
      rw [a1, ha, List.length_append]
      simp) (by
      show (j : Int) ≤ T1.left
      omega)
    refine ⟨T2, ?_, n2, b2, w2.trans w1, ?_, ?_⟩
    · have e4 : (z :: ws).length + f = (ws.length + f) + 1 := by rw [List.length_cons]; omega
      rw [e4, e2, e3]
    · rw [a2]
      simp only [List.length_append, List.length_cons, List.length_nil]
      omega
    · have : T1.left ≤ T2.left + j := l2
      omega
theorem Steps.tell {n k : Nat} {z : Str} {T : MS} {S' : MS} {most : Int} (h : Steps n (Txt.words z) k (norm T) S') (hb : T.back = []) (hk : (k : Int) ≤ most) :
    ∃ T', wordsFrom n ((Txt.words z).length + 1) { T with words := Txt.words z, at_ := 0, left := most } = .ok () T' ∧ norm T' = S' := by
  obtain ⟨T1, e1, n1, b1, w1, a1, _⟩ := h.run (f := 1) (T := { T with words := Txt.words z, at_ := 0, left := most }) (pre := []) (post := []) rfl hb (by
    show Txt.words z = [] ++ (Txt.words z ++ [])
    rw [List.append_nil, List.nil_append]) rfl hk
  refine ⟨T1, e1.trans ?_, n1⟩
  show (if T1.at_ < (T1.words.length : Int) then _ else Out.ok () T1) = _
  rw [if_neg]
  rw [w1, a1]
  show ¬ (((0 + (Txt.words z).length : Nat) : Int) < ((Txt.words z).length : Int))
  omega
/-! ### single words -/
theorem step_num {n : Nat} {S : MS} {z : Str} {x : Int} (h : numberOf z = some x) (hk : known S z = none) (hz : z.length ≤ LIM) (hm : S.mode = false) (hs : (S.stack.length : Int) + 1 ≤ S.ms) (hl : S.stack.length < LIM) : Step n z 0 S { S with stack := S.stack ++ [x] } :=
  fun T e hb _ => by
    subst e
    exact ⟨_, oneWord_num (S := T) h hk hz hm hs hl, rfl, rfl, rfl, by show T.left ≤ T.left + 0; omega⟩
def IsDeed (S : MS) (z : Str) : Prop := ∃ e, known S z = some e ∧ e.kind = .deed ∧ e.name = z ∧ e.now = false
theorem isDeed {S : MS} {z : Str} (hb : S.book = deedEnts) (h : deedOk z = true) : IsDeed S z := known_deed hb h
structure Still (T T' : MS) : Prop where
  words : T'.words = T.words
  at_ : T'.at_ = T.at_
  left : T'.left = T.left
  spot : T'.spot = T.spot
theorem step_deed {n : Nat} {S S' : MS} {z : Str} (f : MS → MS) (hd : IsDeed S z) (hm : S.mode = false) (h : ∀ go T, norm T = S → doDeed go z { T with spot := -1 } = .ok () (f { T with spot := -1 })) (h2 : ∀ T, norm T = S → norm (f T) = S' ∧ Still T (f T)) : Step n z 1 S S' :=
  fun T e hb hl => by
    subst e
    obtain ⟨en, ek, e1, e2, e3⟩ := hd
    obtain ⟨g1, g2⟩ := h2 { T with spot := -1, left := T.left - 1 } rfl
    refine ⟨f { T with spot := -1, left := T.left - 1 }, ?_, g1, g2.words, g2.at_, ?_⟩
    · have ek' : known T z = some en := ek
      have hm' : T.mode = false := hm
      unfold oneWord
      rw [ek']
      dsimp only
      rw [if_neg (fun q => by rw [hm'] at q; exact Bool.false_ne_true q.1)]
      refine perform_deed e1 (by omega) (fun go => ?_) g2.spot
      rw [e2]
      exact h go { T with left := T.left - 1 } rfl
    · rw [g2.left]
      show T.left ≤ T.left - 1 + 1
      omega
theorem step_face {n : Nat} {S : MS} {z : Str} {a l : Int} {pre xs ys : List Int} (hd : IsDeed S z) (hm : S.mode = false) (hf : faces.lookup z = some (a, l)) (hst : S.stack = pre ++ xs) (ha : (xs.length : Int) = a) (h2 : (S.stack.length : Int) + (l - a) ≤ S.ms) (hl : S.stack.length < LIM)
    (hx : ∀ x ∈ xs, -32768 ≤ x ∧ x ≤ 32767) (hx2 : ∀ x ∈ pre, -32768 ≤ x ∧ x ≤ 32767) (hy : leftBy z xs = some ys) (hw : ¬ z ∈ within) : Step n z 1 S { S with stack := pre ++ ys } := by
  refine step_deed (fun T => { T with stack := pre ++ ys }) hd hm (fun go T e => ?_) (fun T e => ?_)
  · subst e
    have hst : T.stack = pre ++ xs := hst
    show (if z ∈ within ∧ (-1 : Int) = -1 then _ else if z ∈ faces.map (·.1) then doPlain z else _ : M Unit) { T with spot := -1 } = _
    rw [if_neg (fun q => hw q.1), if_pos (face_in hf)]
    have e1 : T.stack.length - a.toNat = pre.length := by rw [hst, List.length_append]; omega
    have e2 : T.stack.drop (T.stack.length - a.toNat) = xs := by rw [e1, hst, List.drop_left]
    have e3 : T.stack.take (T.stack.length - a.toNat) = pre := by rw [e1, hst, List.take_left]
    have := doPlain_ok (S := { T with spot := -1 }) hf (by show a ≤ (T.stack.length : Int); rw [hst, List.length_append]; omega) h2 (by
      unfold fitsBy
      rw [Bool.and_eq_true]
      refine ⟨decide_eq_true hl, List.all_eq_true.mpr fun x hq => ?_⟩
      have hq2 : x ∈ pre ++ xs := by
        rw [← hst]
        exact List.mem_of_mem_drop hq
      have : -32768 ≤ x ∧ x ≤ 32767 := by
        rcases List.mem_append.mp hq2 with q | q
        · exact hx2 x q
        · exact hx x q
      rw [Bool.and_eq_true, decide_eq_true_iff, decide_eq_true_iff]
      exact ⟨by omega, by omega⟩) (by rw [show ({ T with spot := -1 } : MS).stack = T.stack from rfl, e2]; exact hy)
    rw [this]
    show Out.ok () { T with spot := -1, stack := T.stack.take (T.stack.length - a.toNat) ++ ys } = _
    rw [e3]
  · subst e
    exact ⟨rfl, ⟨rfl, rfl, rfl, rfl⟩⟩
theorem storing_no : storing.all (fun z => decide (¬ z ∈ within ∧ ¬ z ∈ faces.map (·.1) ∧ ¬ z ∈ paired ∧ ¬ z ∈ sidewise)) = true := by decide +kernel
theorem doDeed_cells {go : Ent → M Unit} {z : Str} {T : MS} (h : z ∈ storing) : doDeed go z T = doCells z T := by
  obtain ⟨h1, h2, h3, h4⟩ := of_decide_eq_true (List.all_eq_true.mp storing_no z h)
  show (if z ∈ within ∧ T.spot = -1 then fail .onlyWithin else if z ∈ faces.map (·.1) then doPlain z else if z ∈ paired then doPaired z else if z ∈ sidewise then doSide z else if z ∈ storing then doCells z else doOther go z : M Unit) T = _
  rw [if_neg (fun q => h1 q.1), if_neg h2, if_neg h3, if_neg h4, if_pos h]
theorem pop_ok {T : MS} {pre : List Int} {x : Int} (h : T.stack = pre ++ [x]) : pop T = .ok x { T with stack := pre } := by
  unfold pop
  rw [h]
  have e1 : (pre ++ [x]).getLast? = some x := by simp
  rw [e1]
  dsimp only
  rw [List.dropLast_concat]
theorem push_ok {T : MS} {x : Int} (h : T.stack.length < LIM) : push x T = .ok () { T with stack := T.stack ++ [x] } := by
  unfold push
  rw [if_pos h]
theorem room_ok {T : MS} {k : Int} (h0 : 0 ≤ k) (h : (T.cells.length : Int) + k ≤ T.mc) : needRoom k T = .ok () T := by
  unfold needRoom
  rw [if_neg (by omega)]
theorem cell_ok {T : MS} {a : Int} (h0 : 0 ≤ a) (h : a < (T.cells.length : Int)) : needCell a T = .ok () T := by
  unfold needCell
  rw [if_pos ⟨h0, h⟩]
theorem top_app {T : MS} {pre : List Int} {x : Int} (h : T.stack = pre ++ [x]) : top' T = x := by
  unfold top'
  rw [h]
  simp
end WH
set_option Elab.async false
set_option linter.all false
set_option maxRecDepth 100000
set_option maxHeartbeats 1000000
namespace WH
open PySem PyProof.Rows
/-! ### words of cells -/
section
variable {n : Nat} {S : MS} {z : Str} {pre : List Int} {x a : Int}
theorem step_comma (hz : z = "," ∨ z = "compile,") (hd : IsDeed S z) (hm : S.mode = false) (hst : S.stack = pre ++ [x]) (hms : (S.stack.length : Int) ≤ S.ms) (hr : (S.cells.length : Int) + 1 ≤ S.mc) (hc : S.cells.length < LIM) : Step n z 1 S { S with stack := pre, cells := S.cells ++ [x] } := by
  refine step_deed (fun T => { T with stack := pre, cells := T.cells ++ [x] }) hd hm (fun go T e => ?_) (fun T e => ?_)
  · subst e
    have hst : T.stack = pre ++ [x] := hst
    have h0 : z ∈ storing ∧ ¬ z = "here" ∧ ¬ (z = "@" ∨ z = "!" ∨ z = "+!") ∧ ¬ z = "allot" := by rcases hz with rfl | rfl <;> decide +kernel
    obtain ⟨h1, h2, h3, h4⟩ := h0
    rw [doDeed_cells h1]
    unfold doCells
    rw [if_neg h2, if_neg h3]
    refine (bind_ok (need_ok' (S := { T with spot := -1 }) (by show (1 : Int) ≤ (T.stack.length : Int); rw [hst, List.length_append, List.length_singleton]; omega) (by show (T.stack.length : Int) + 0 ≤ T.ms; have : (T.stack.length : Int) ≤ T.ms := hms; omega))).trans ?_
    refine bind_get.trans ?_
    rw [if_neg h4]
    refine (bind_ok (room_ok (T := { T with spot := -1 }) (by decide) hr)).trans ?_
    refine (bind_ok (pop_ok (T := { T with spot := -1 }) hst)).trans ?_
    refine (bind_ok (must_ok ?_)).trans ?_
    · rw [Bool.and_eq_true, Bool.and_eq_true]
      exact ⟨decide_eq_true (.inr h4), decide_eq_true (.inr h4), decide_eq_true hc⟩
    rw [if_neg h4]
    rfl
  · subst e
    exact ⟨rfl, rfl, rfl, rfl, rfl⟩
theorem step_allot (hd : IsDeed S "allot") (hm : S.mode = false) (hst : S.stack = pre ++ [x]) (hms : (S.stack.length : Int) ≤ S.ms) (hx : 0 ≤ x) (hx2 : x < 1000000) (hr : (S.cells.length : Int) + x ≤ S.mc) (hc : S.cells.length < LIM) : Step n "allot" 1 S { S with stack := pre, cells := S.cells ++ List.replicate x.toNat 0 } := by
  refine step_deed (fun T => { T with stack := pre, cells := T.cells ++ List.replicate x.toNat 0 }) hd hm (fun go T e => ?_) (fun T e => ?_)
  · subst e
    have hst : T.stack = pre ++ [x] := hst
    have h0 : ("allot" : Str) ∈ storing ∧ ¬ ("allot" : Str) = "here" ∧ ¬ (("allot" : Str) = "@" ∨ ("allot" : Str) = "!" ∨ ("allot" : Str) = "+!") := by decide +kernel
    obtain ⟨h1, h2, h3⟩ := h0
    rw [doDeed_cells h1]
    unfold doCells
    rw [if_neg h2, if_neg h3]
    refine (bind_ok (need_ok' (S := { T with spot := -1 }) (by show (1 : Int) ≤ (T.stack.length : Int); rw [hst, List.length_append, List.length_singleton]; omega) (by show (T.stack.length : Int) + 0 ≤ T.ms; have : (T.stack.length : Int) ≤ T.ms := hms; omega))).trans ?_
    refine bind_get.trans ?_
    rw [if_pos rfl, top_app (T := { T with spot := -1 }) hst]
    refine (bind_ok (room_ok (T := { T with spot := -1 }) hx hr)).trans ?_
    refine (bind_ok (pop_ok (T := { T with spot := -1 }) hst)).trans ?_
    refine (bind_ok (must_ok ?_)).trans ?_
    · rw [Bool.and_eq_true, Bool.and_eq_true]
      exact ⟨decide_eq_true (.inl hx), decide_eq_true (.inl hx2), decide_eq_true hc⟩
    rw [if_pos rfl]
    rfl
  · subst e
    exact ⟨rfl, rfl, rfl, rfl, rfl⟩
theorem step_store (hz : z = "!" ∨ z = "+!") (hd : IsDeed S z) (hm : S.mode = false) (hst : S.stack = pre ++ [x] ++ [a]) (hms : (S.stack.length : Int) ≤ S.ms) (h0 : 0 ≤ a) (h1 : a < (S.cells.length : Int)) :
    Step n z 1 S { S with stack := pre, cells := S.cells.set a.toNat (rounded (x + if z = "+!" then cellAt S a else 0)) } := by
  refine step_deed (fun T => { T with stack := pre, cells := T.cells.set a.toNat (rounded (x + if z = "+!" then cellAt T a else 0)) }) hd hm (fun go T e => ?_) (fun T e => ?_)
  · subst e
    have hst : T.stack = pre ++ [x] ++ [a] := hst
    have g : z ∈ storing ∧ ¬ z = "here" ∧ (z = "@" ∨ z = "!" ∨ z = "+!") ∧ ¬ z = "@" := by rcases hz with rfl | rfl <;> decide +kernel
    obtain ⟨g1, g2, g3, g4⟩ := g
    rw [doDeed_cells g1]
    unfold doCells
    rw [if_neg g2, if_pos g3, if_neg g4]
    refine (bind_ok (need_ok' (S := { T with spot := -1 }) (by show (2 : Int) ≤ (T.stack.length : Int); rw [hst]; simp only [List.length_append, List.length_singleton]; omega) (by show (T.stack.length : Int) + 0 ≤ T.ms; have : (T.stack.length : Int) ≤ T.ms := hms; omega))).trans ?_
    refine bind_get.trans ?_
    rw [top_app (T := { T with spot := -1 }) hst]
    refine (bind_ok (cell_ok (T := { T with spot := -1 }) h0 h1)).trans ?_
    refine (bind_ok (pop_ok (T := { T with spot := -1 }) hst)).trans ?_
    rw [if_neg g4]
    refine (bind_ok (pop_ok (T := { T with spot := -1, stack := pre ++ [x] }) rfl)).trans ?_
    refine bind_get.trans ?_
    rfl
  · subst e
    exact ⟨rfl, rfl, rfl, rfl, rfl⟩
theorem step_fetch (hd : IsDeed S "@") (hm : S.mode = false) (hst : S.stack = pre ++ [a]) (hms : (S.stack.length : Int) ≤ S.ms) (hl : S.stack.length < LIM) (h0 : 0 ≤ a) (h1 : a < (S.cells.length : Int)) :
    Step n "@" 1 S { S with stack := pre ++ [cellAt S a] } := by
  refine step_deed (fun T => { T with stack := pre ++ [cellAt T a] }) hd hm (fun go T e => ?_) (fun T e => ?_)
  · subst e
    have hst : T.stack = pre ++ [a] := hst
    have hl : T.stack.length < LIM := hl
    have g : ("@" : Str) ∈ storing ∧ ¬ ("@" : Str) = "here" := by decide +kernel
    obtain ⟨g1, g2⟩ := g
    rw [doDeed_cells g1]
    unfold doCells
    rw [if_neg g2, if_pos (.inl rfl), if_pos rfl]
    refine (bind_ok (need_ok' (S := { T with spot := -1 }) (by show (1 : Int) ≤ (T.stack.length : Int); rw [hst, List.length_append, List.length_singleton]; omega) (by show (T.stack.length : Int) + 0 ≤ T.ms; have : (T.stack.length : Int) ≤ T.ms := hms; omega))).trans ?_
    refine bind_get.trans ?_
    rw [top_app (T := { T with spot := -1 }) hst]
    refine (bind_ok (cell_ok (T := { T with spot := -1 }) h0 h1)).trans ?_
    refine (bind_ok (pop_ok (T := { T with spot := -1 }) hst)).trans ?_
    rw [if_pos rfl]
    refine bind_get.trans ?_
    refine (push_ok (T := { T with spot := -1, stack := pre }) ?_).trans ?_
    · show pre.length < LIM
      rw [hst, List.length_append] at hl
      omega
    rfl
  · subst e
    exact ⟨rfl, rfl, rfl, rfl, rfl⟩
theorem step_here (hd : IsDeed S "here") (hm : S.mode = false) (hms : (S.stack.length : Int) + 1 ≤ S.ms) (hl : S.stack.length < LIM) : Step n "here" 1 S { S with stack := S.stack ++ [(S.cells.length : Int)] } := by
  refine step_deed (fun T => { T with stack := T.stack ++ [(T.cells.length : Int)] }) hd hm (fun go T e => ?_) (fun T e => ?_)
  · subst e
    have hl : T.stack.length < LIM := hl
    have hms : (T.stack.length : Int) + 1 ≤ T.ms := hms
    rw [doDeed_cells (by decide +kernel)]
    unfold doCells
    rw [if_pos rfl]
    refine (bind_ok (need_ok' (S := { T with spot := -1 }) (by show (0 : Int) ≤ (T.stack.length : Int); omega) hms)).trans ?_
    refine bind_get.trans ?_
    exact push_ok (T := { T with spot := -1 }) hl
  · subst e
    exact ⟨rfl, rfl, rfl, rfl, rfl⟩
theorem step_dot (hd : IsDeed S ".") (hm : S.mode = false) (hst : S.stack = pre ++ [x]) (hms : (S.stack.length : Int) ≤ S.ms) (ht : S.told.length < LIM) : Step n "." 1 S { S with stack := pre, told := S.told ++ [x] } :=
  step_deed (fun T => { T with stack := pre, told := T.told ++ [x] }) hd hm (fun go T e => by
    subst e
    exact doDeed_dot (S := { T with spot := -1 }) hst ht hms) (fun T e => by
    subst e
    exact ⟨rfl, rfl, rfl, rfl, rfl⟩)
end
end WH
set_option Elab.async false
set_option linter.all false
set_option maxRecDepth 100000
set_option maxHeartbeats 2000000
namespace WH
open PySem PySem.Spec PyProof.Rows L2
local macro_rules | `(tactic| walk_at "w") => `(tactic| repeat (with_reducible first
  | (refine is_te ?_; first | refine w_var (by with_unfolding_all rfl) ?_ | refine w_c ?_ | refine w_op ?_ | refine w_cb ?_ | refine w_call ?_ | refine w_self (by assumption) (by with_unfolding_all rfl) (by decide +kernel) ?_ | refine w_ife ?_ | (refine is_fld ?_; first | refine w_cells (by assumption) (by assumption) (by with_unfolding_all rfl) ?_ | refine w_stack (by assumption) (by assumption) (by with_unfolding_all rfl) ?_ | refine w_back (by assumption) (by assumption) (by with_unfolding_all rfl) ?_ | refine w_most_cells (by assumption) (by assumption) (by with_unfolding_all rfl) ?_ | refine w_most_stack (by assumption) (by assumption) (by with_unfolding_all rfl) ?_ | refine w_book (by assumption) (by assumption) (by with_unfolding_all rfl) ?_ | refine w_spot (by assumption) (by assumption) (by with_unfolding_all rfl) ?_ | refine w_left (by assumption) (by assumption) (by with_unfolding_all rfl) ?_ | refine w_at (by assumption) (by assumption) (by with_unfolding_all rfl) ?_ | refine w_told (by assumption) (by assumption) (by with_unfolding_all rfl) ?_ | refine w_words (by assumption) (by assumption) (by with_unfolding_all rfl) ?_ | refine w_mode (by assumption) (by assumption) (by with_unfolding_all rfl) ?_ | refine w_ties (by assumption) (by assumption) (by with_unfolding_all rfl) ?_ | refine w_many_deeds (by assumption) (by assumption) (by with_unfolding_all rfl) ?_ | refine w_steps (by assumption) (by assumption) (by with_unfolding_all rfl) ?_ | refine w_fld ?_) | refine w_lst ?_ | refine w_tup ?_ | refine w_bm ?_ | refine w_bm0 ?_ | refine w_un ?_ | refine w_sl ?_ | refine w_chain ?_)
  | (refine is_ta ?_; first | refine w_cons ?_ | refine w_nil ?_)
  | refine w_gn ?_
  | (refine is_ts ?_; first | refine w_seq ?_ | refine w_asg ?_ | refine w_ifs ?_ | refine w_drop ?_ | refine w_next ?_ | refine w_ret ?_ | refine w_retN ?_ | refine w_sfld ?_ | refine w_augS ?_ | refine w_aug_spot (by assumption) (by assumption) (by with_unfolding_all rfl) ?_ | refine w_aug_left (by assumption) (by assumption) (by with_unfolding_all rfl) ?_ | refine w_aug_at (by assumption) (by assumption) (by with_unfolding_all rfl) ?_)
  | (refine is_tt ?_; first | refine w_test ?_ | refine w_and ?_ | refine w_or ?_ | refine w_not ?_ | refine w_tB ?_)
  | (refine is_r2 ?_; first | refine w_i0 ?_ | refine w_eqt ?_ | refine w_eqi ?_ | refine w_net ?_ | refine w_nei ?_ | refine w_isN ?_ | refine w_notN ?_ | refine w_rAdd ?_ | refine w_rSub ?_ | refine w_ipI ?_)
  | (refine is_ty ?_; first | refine w_tyS' (by assumption) ?_ | refine w_tyC (by assumption) ?_ | refine w_tyB (by assumption) ?_ | refine w_tyT (by assumption) ?_ | refine w_tyK (by assumption) ?_ | refine w_tyI (by assumption) ?_)
  | (refine is_ln ?_; first | refine w_lnS (by assumption) ?_ | refine w_lnC (by assumption) ?_ | refine w_lnB (by assumption) ?_ | refine w_lnT (by assumption) ?_ | refine w_lnW (by assumption) ?_ | refine w_lnK (by assumption) ?_)
  | (refine is_rf ?_; first | refine e_kind (by assumption) (by assumption) ?_ | refine e_name (by assumption) (by assumption) ?_ | refine e_number (by assumption) (by assumption) ?_ | refine e_start (by assumption) (by assumption) ?_ | refine e_end (by assumption) (by assumption) ?_ | refine e_was (by assumption) (by assumption) ?_ | refine e_worth (by assumption) (by assumption) ?_ | refine e_beyond (by assumption) (by assumption) ?_ | refine e_is_now (by assumption) (by assumption) ?_)
  | refine w_bl ?_ | refine w_mkw ?_ | refine w_mknw ?_ | refine w_part1 ?_ | refine w_neg ?_ | refine w_smk ?_ | refine w_smkn ?_ | refine w_noP ?_ | refine w_part ?_ | refine w_gcut ?_ | refine w_gsub ?_))

section
variable {h l : Addr} {H : Hp} {Q : VK} {E : XK} {many : Int}
theorem c_next (L : LawH h l H) (h1 : 1 ≤ many) (h2 : many < 1073741824) (q : ∀ H' r, LawH h l H' → Kept h l H H' → 0 ≤ r → r < many → Q (.int r) H') : spLNext [.ref h, .int many] H Q E := ⟨h, l, many, rfl, L, h1, h2, q⟩
theorem LawH.new {a : Addr} {o : HO} (L : LawH h l H) (ha : H a = none) : LawH h l (upd H a o) := by
  obtain ⟨m, k, cs, h1, h2, r⟩ := L
  exact ⟨m, k, cs, same_new ha _ _ h1, same_new ha _ _ h2, r⟩
theorem LawH.same {H' : Hp} (L : LawH h l H) (s : Same H H') : LawH h l H' := by
  obtain ⟨m, k, cs, h1, h2, r⟩ := L
  exact ⟨m, k, cs, s _ _ h1, s _ _ h2, r⟩
theorem LawH.off {a : Addr} {o : HO} (L : LawH h l H) (ha : H a = none) : a ≠ h ∧ a ≠ l := by
  obtain ⟨m, k, cs, h1, h2, r⟩ := L
  exact ⟨(ne_of_none h1 ha).symm, (ne_of_none h2 ha).symm⟩
/-- str(x), x a number or a text -/
def rStB : List V → Hp → VK → Prop := fun xs H Q => (∃ i, xs = [.int i] ∧ i.natAbs.log2 < 1920 ∧ Q (.str (itxt i)) H) ∨ ∃ a, xs = [.str a] ∧ Q (.str a) H
theorem call_stB {X : Cx} : CallR X (.type "str") rStB := fun pins s σ H xs us Q I r z => by
  rcases z with ⟨i, e, hz, q⟩ | ⟨a, e, q⟩
  · exact call_str_int pins s σ H xs us Q I r ⟨i, e, hz, q⟩
  · exact SkE.call_str_str pins s σ H xs us Q I r ⟨a, e, q⟩
theorem Sep.start : Sep H emp H := ⟨fun _ => .inr rfl, fun _ _ e => e, fun _ _ e => nomatch e⟩
/-- a house is made -/
theorem w_mkHouse {c : Cn} {n m : Nat} {gV : List V → List V → List V} {vs zs : List V} {mc ms : Int} (h1 : vs.length = n) (h2 : zs.length = m) (hg : ∀ x, gV (.ref x :: vs) zs = [.ref x, .int mc, .int ms])
    (q : ∀ p H1 H0 L, Same H H0 → HOwn c p (newHouse mc ms) [] L H0 H1 → Q (.ref p) H1) : MkN c.CH n m (spHouseInit c) gV E vs zs H Q :=
  ⟨h1, h2, fun x dx hx hdx hne => by
    rw [hg]
    have hx2 : upd H dx (.own x) x = none := by
      rw [upd_ne hne.symm]
      exact hx
    exact ⟨x, dx, mc, ms, upd H dx (.own x), rfl, Sep.start.new hx2, fun H1 L W => ⟨rfl, q x H1 _ L (same_new hdx) W⟩⟩⟩
theorem w_selfV {c : Cn} {p : Addr} {S : MS} {U : List Seen} {L : Ls} {H0 : Hp} {m : Str} {sp : Sp} {dvs : List V} {t : TA} {σ : L2.St} {i : Nat} (W : HOwn c p S U L H0 H) (hσ : σ[i]? = some (some (.ref p))) (hm : hKeys.contains m = false) (q : t σ H fun vs H2 => sp (.ref p :: (vs ++ dvs)) H2 Q E) : tMeth c.CH m sp dvs E (tVar i) t σ H Q := by
  obtain ⟨G, e, ho⟩ := W.ob
  exact ⟨_, hσ, p, G.dx, _, rfl, ho, lookup_no hm, q⟩
end
/-- a number, a text -/
abbrev Wd : Type := Int ⊕ Str
def wv : Wd → V
  | .inl i => .int i
  | .inr z => .str z
def wt : Wd → Str
  | .inl i => itxt i
  | .inr z => z
def wOk : Wd → Prop
  | .inl i => -32768 ≤ i ∧ i ≤ 32767
  | .inr z => z.length ≤ 20
theorem wt_len {x : Wd} (h : wOk x) : (wt x).length ≤ 20 := by
  cases x with
  | inl i => exact Nat.le_trans (itxt_len h.1 h.2) (by decide)
  | inr z => exact h
theorem sum_le {α : Type} {f : α → Nat} {b : Nat} : ∀ {l : List α}, (∀ x ∈ l, f x ≤ b) → (l.map f).sum ≤ l.length * b
  | [], _ => by simp
  | a :: r, h => by
    have h1 := sum_le (l := r) fun x hx => h x (List.mem_cons_of_mem _ hx)
    have h2 := h a List.mem_cons_self
    rw [List.map_cons, List.sum_cons, List.length_cons, Nat.add_mul]
    omega
section
variable {P : Program} {w : World} {K : PySem.W.Frag} {mg : Str → Option Value} {base : Heap} {c : Cn} {cls : Err → Addr}
def spLNumber : Sp := fun vs H Q _ => ∃ (h l : Addr), vs = [.ref h] ∧ LawH h l H ∧ ∀ H' x, LawH h l H' → Kept h l H H' → -32768 ≤ x → x ≤ 32767 → Q (.int x) H'
theorem sc_law_number : FnScope ["_law_h", "_law_way"] ["_law_h"] (defScope (top 54)) := ⟨rfl, rfl, rfl, by decide +kernel, rfl, by decide +kernel, by decide +kernel⟩
theorem ok_law_number {f : Addr} {fd : FuncData} (F : FnT K "_law_number" "_law_number" (top 54) [] [] f fd)
    (F__law_next : CallOk P w K mg base "_law_next" 1 spLNext [])
    (F__law_round : CallOk P w K mg base "_law_round" 1 spLRound []) : FnOk P w K mg base (L2N.CX P w) 2 f fd ["_law_h"] spLNumber := by
  refine F.ok sc_law_number (fun vs H Q E h => ?_) (fun cdv A outer s H vs Q E hr h => ?_)
  · obtain ⟨h, l, rfl, _⟩ := h
    rfl
  · obtain ⟨h, l, rfl, L, k⟩ := h
    try dsimp only at k
    refine ⟨_, (pss_cons (ps_set (i := 1) sc_law_number.nd rfl (by first | exact Or.inl rfl | exact Or.inr rfl) (pe_fM F__law_next (hr.mono (by first | decide | omega)) passN (pa_cons (pv 0) (pa_cons pe_int pa_nil))))
      (pss_cons (ps_if (pt_cmpR op_eq (pv 1) pe_int (nomark _)) (pss_one (ps_ret (pe_ix ix_list (pe_lst (pa_cons pe_int (pa_cons (pe_un un_neg pe_int) (pa_cons (pe_un un_neg pe_int) (pa_cons pe_int (pa_cons pe_int pa_nil)))))) (pe_fM F__law_next (hr.mono (by first | decide | omega)) passN (pa_cons (pv 0) (pa_cons pe_int pa_nil))) (fun _ _ => rfl)))) pss_nil)
      (pss_one (ps_ret (pe_ifExp (pt_cmpR op_eq (pv 1) pe_int (nomark _)) (pe_op op_sub (pe_fM F__law_next (hr.mono (by first | decide | omega)) passN (pa_cons (pv 0) (pa_cons pe_int pa_nil))) pe_int) (pe_fM F__law_round (hr.mono (by first | decide | omega)) passN (pa_cons (pe_fM F__law_next (hr.mono (by first | decide | omega)) passN (pa_cons (pv 0) (pa_cons pe_int pa_nil))) pa_nil))))))), ?_⟩
    try dsimp only [cxOf_K]
    walk_at "w"
    refine c_next L (by decide) (by decide) fun H1 way L1 kp1 hw0 hw1 => ?_
    walk_at "w"
    refine ite_dec (fun h0 => ?_) (fun h0 => ?_)
    · walk_at "w"
      refine ⟨by show 5 ≤ sizeLine; decide, fun p hp => ?_⟩
      have L2 := L1.new (o := .lst (iv [32767, -32768, -1, 0, 1])) hp
      have off := L1.off (o := .lst (iv [32767, -32768, -1, 0, 1])) hp
      have hpp : upd H1 p (.lst (iv [32767, -32768, -1, 0, 1])) p = some (.lst (iv [32767, -32768, -1, 0, 1])) := upd_same
      have kp2 : Kept h l H (upd H1 p (.lst (iv [32767, -32768, -1, 0, 1]))) := kp1.trans (Kept.same (same_new hp))
      show tCall _ _ _ _ _ (upd H1 p (.lst (iv [32767, -32768, -1, 0, 1]))) _
      generalize upd H1 p (.lst (iv [32767, -32768, -1, 0, 1])) = H2 at L2 hpp kp2 ⊢
      walk_at "w"
      refine c_next L2 (by decide) (by decide) fun H3 r L3 kp3 hr0 hr1 => ?_
      have hp3 := kp3 _ _ hpp off.1 off.2
      have hr : r = 0 ∨ r = 1 ∨ r = 2 ∨ r = 3 ∨ r = 4 := by omega
      rcases hr with e | e | e | e | e <;> subst e
      · exact w_ixL hp3 (atI_nat (j := 0) rfl) (k _ _ L3 (kp2.trans kp3) (by decide) (by decide))
      · exact w_ixL hp3 (atI_nat (j := 1) rfl) (k _ _ L3 (kp2.trans kp3) (by decide) (by decide))
      · exact w_ixL hp3 (atI_nat (j := 2) rfl) (k _ _ L3 (kp2.trans kp3) (by decide) (by decide))
      · exact w_ixL hp3 (atI_nat (j := 3) rfl) (k _ _ L3 (kp2.trans kp3) (by decide) (by decide))
      · exact w_ixL hp3 (atI_nat (j := 4) rfl) (k _ _ L3 (kp2.trans kp3) (by decide) (by decide))
    · walk_at "w"
      refine ite_dec (fun h1 => ?_) (fun h1 => ?_)
      · walk_at "w"
        refine c_next L1 (by decide) (by decide) fun H2 r L2 kp2 hr0 hr1 => ?_
        walk_at "w"
        exact k _ _ L2 (kp1.trans kp2) (by omega) (by omega)
      · walk_at "w"
        refine c_next L1 (by decide) (by decide) fun H2 r L2 kp2 hr0 hr1 => ?_
        walk_at "w"
        exact ⟨r, rfl, k _ _ L2 (kp1.trans kp2) (by omega) (by omega)⟩
def spLText (K : PySem.W.Frag) : Sp := fun vs H Q _ => ∃ (a : Addr) (ws : List Wd), vs = [.ref a] ∧ H a = some (.lst (ws.map wv)) ∧ ws.length ≤ 1000 ∧ (∀ x ∈ ws, wOk x) ∧ ∀ H', Same H H' → Q (.str (Txt.join " " (ws.map wt))) H'
theorem sc_law_text : FnScope ["_law_some", "_law_one"] ["_law_some"] (defScope (top 56)) := ⟨rfl, rfl, rfl, by decide +kernel, rfl, by decide +kernel, by decide +kernel⟩
theorem ok_law_text {f : Addr} {fd : FuncData} (F : FnT K "_law_text" "_law_text" (top 56) [] [] f fd) (g : Gb w K mg) : FnOk P w K mg base (L2N.CX P w) 1 f fd ["_law_some"] (spLText K) := by
  refine F.ok sc_law_text (fun vs H Q E h => ?_) (fun cdv A outer s H vs Q E hr h => ?_)
  · obtain ⟨a, ws, rfl, _⟩ := h
    rfl
  · obtain ⟨a, ws, rfl, ha, hl, hw, k⟩ := h
    try dsimp only at k
    refine ⟨_, (pss_one (ps_ret (pe_m1 PySem.F.slot_str_join PySem.F.type_str_join mt_joinN pe_str (pe_lc (te := tCB rStB (tCons (tVar 1) tNil)) (own := [("_law_one", 1)]) rfl sc_law_text.nd (pi_list (pv 0)) (blkOk_by (own := [("_law_one", 1)]) (N := ["_law_some", "_law_one"]) (sc := defScope (top 56)) (by decide +kernel)) (fun _ _ _ _ _ => (pg_name (i := 1) sc_law_text.nd rfl (by first | exact Or.inl rfl | exact Or.inr rfl))) (fun _ _ _ _ _ => pts_nil) (fun _ _ _ _ _ => (pe_callTy call_stB (by rfl) g.str (by decide +kernel) (pa_cons (pv 1) pa_nil))))))), ?_⟩
    try dsimp only [cxOf_K]
    refine w_m1 ?_
    walk_at "w"
    refine w_isS ?_
    unfold tLc iList
    walk_at "w"
    refine ⟨a, rfl, ⟨_, SqL.of ha⟩, fun D hD => ?_⟩
    have hDa : a ≠ D := ne_of_none ha hD
    refine lc_list (xs := ws.map wv) (fun i H' => H' = upd H D (.lst ((ws.take i).map fun x => V.str (wt x)))) rfl (fun i H' _ h => ?_) (fun i x H' hx h => ?_) (fun H' h => ?_)
    · subst h
      exact SqL.of ((upd_ne hDa).trans ha)
    · subst h
      rw [List.getElem?_map] at hx
      cases hz : ws[i]? with
      | none =>
        rw [hz] at hx
        cases hx
      | some y =>
        rw [hz] at hx
        cases hx
        have hy := hw y (List.mem_of_getElem? hz)
        have hi : i < ws.length := (List.getElem?_eq_some_iff.mp hz).1
        have fin : ∃ acc, upd H D (.lst ((ws.take i).map fun x => V.str (wt x))) D = some (.lst acc) ∧ acc.length < sizeLine ∧ upd (upd H D (.lst ((ws.take i).map fun x => V.str (wt x)))) D (.lst (acc ++ [V.str (wt y)])) = upd H D (.lst ((ws.take (i + 1)).map fun x => V.str (wt x))) := by
          refine ⟨_, upd_same, ?_, ?_⟩
          · rw [List.length_map, List.length_take]
            exact Nat.lt_of_le_of_lt (Nat.le_trans (Nat.min_le_right _ _) hl) (by decide)
          · rw [upd_upd, List.take_succ, hz, List.map_append]
            rfl
        refine w_gn ⟨rfl, ?_⟩
        refine w_tYes ?_
        rw [if_pos rfl]
        walk_at "w"
        cases y with
        | inl n =>
          refine .inl ⟨n, rfl, ?_, fin⟩
          have h1 : n.natAbs < 2 ^ 16 := by
            have := hy.1
            have := hy.2
            omega
          by_cases h2 : n.natAbs = 0
          · rw [h2]
            decide
          · have := (Nat.log2_lt h2).mpr h1
            omega
        | inr z => exact .inr ⟨z, rfl, fin⟩
    · subst h
      rw [List.length_map, List.take_length]
      refine ⟨" ", D, ws.map wt, rfl, rfl, .inl (SqL.of ?_), ?_, ?_⟩
      · rw [upd_same, List.map_map]
        rfl
      · have h1 := sum_le (f := fun x : Wd => (wt x).length) (b := 20) (l := ws) fun x hx => wt_len (hw x hx)
        rw [List.map_map, List.length_map]
        have h2 : (List.map ((fun x => x.length) ∘ wt) ws).sum ≤ ws.length * 20 := h1
        have h3 : (" " : Str).length = 1 := by decide +kernel
        rw [h3]
        omega
      · walk_at "w"
        exact k _ (same_new hD)
end
end WH
set_option Elab.async false
set_option linter.all false
set_option maxRecDepth 100000
set_option maxHeartbeats 2000000
namespace WH
open PySem PySem.Spec PyProof.Rows L2
local macro_rules | `(tactic| walk_at "w") => `(tactic| repeat (with_reducible first
  | (refine is_te ?_; first | refine w_var (by with_unfolding_all rfl) ?_ | refine w_c ?_ | refine w_op ?_ | refine w_cb ?_ | refine w_call ?_ | refine w_self (by assumption) (by with_unfolding_all rfl) (by decide +kernel) ?_ | refine w_ife ?_ | (refine is_fld ?_; first | refine w_cells (by assumption) (by assumption) (by with_unfolding_all rfl) ?_ | refine w_stack (by assumption) (by assumption) (by with_unfolding_all rfl) ?_ | refine w_back (by assumption) (by assumption) (by with_unfolding_all rfl) ?_ | refine w_most_cells (by assumption) (by assumption) (by with_unfolding_all rfl) ?_ | refine w_most_stack (by assumption) (by assumption) (by with_unfolding_all rfl) ?_ | refine w_book (by assumption) (by assumption) (by with_unfolding_all rfl) ?_ | refine w_spot (by assumption) (by assumption) (by with_unfolding_all rfl) ?_ | refine w_left (by assumption) (by assumption) (by with_unfolding_all rfl) ?_ | refine w_at (by assumption) (by assumption) (by with_unfolding_all rfl) ?_ | refine w_told (by assumption) (by assumption) (by with_unfolding_all rfl) ?_ | refine w_words (by assumption) (by assumption) (by with_unfolding_all rfl) ?_ | refine w_mode (by assumption) (by assumption) (by with_unfolding_all rfl) ?_ | refine w_ties (by assumption) (by assumption) (by with_unfolding_all rfl) ?_ | refine w_many_deeds (by assumption) (by assumption) (by with_unfolding_all rfl) ?_ | refine w_steps (by assumption) (by assumption) (by with_unfolding_all rfl) ?_ | refine w_fld ?_) | refine w_lst ?_ | refine w_tup ?_ | refine w_bm ?_ | refine w_bm0 ?_ | refine w_un ?_ | refine w_sl ?_ | refine w_chain ?_)
  | (refine is_ta ?_; first | refine w_cons ?_ | refine w_nil ?_)
  | refine w_gn ?_
  | (refine is_ts ?_; first | refine w_seq ?_ | refine w_asg ?_ | refine w_ifs ?_ | refine w_drop ?_ | refine w_next ?_ | refine w_ret ?_ | refine w_retN ?_ | refine w_sfld ?_ | refine w_augS ?_ | refine w_aug_spot (by assumption) (by assumption) (by with_unfolding_all rfl) ?_ | refine w_aug_left (by assumption) (by assumption) (by with_unfolding_all rfl) ?_ | refine w_aug_at (by assumption) (by assumption) (by with_unfolding_all rfl) ?_)
  | (refine is_tt ?_; first | refine w_test ?_ | refine w_and ?_ | refine w_or ?_ | refine w_not ?_ | refine w_tB ?_)
  | (refine is_r2 ?_; first | refine w_i0 ?_ | refine w_eqt ?_ | refine w_eqi ?_ | refine w_net ?_ | refine w_nei ?_ | refine w_isN ?_ | refine w_notN ?_ | refine w_rAdd ?_ | refine w_rSub ?_ | refine w_ipI ?_)
  | (refine is_ty ?_; first | refine w_tyS' (by assumption) ?_ | refine w_tyC (by assumption) ?_ | refine w_tyB (by assumption) ?_ | refine w_tyT (by assumption) ?_ | refine w_tyK (by assumption) ?_ | refine w_tyI (by assumption) ?_)
  | (refine is_ln ?_; first | refine w_lnS (by assumption) ?_ | refine w_lnC (by assumption) ?_ | refine w_lnB (by assumption) ?_ | refine w_lnT (by assumption) ?_ | refine w_lnW (by assumption) ?_ | refine w_lnK (by assumption) ?_)
  | (refine is_rf ?_; first | refine e_kind (by assumption) (by assumption) ?_ | refine e_name (by assumption) (by assumption) ?_ | refine e_number (by assumption) (by assumption) ?_ | refine e_start (by assumption) (by assumption) ?_ | refine e_end (by assumption) (by assumption) ?_ | refine e_was (by assumption) (by assumption) ?_ | refine e_worth (by assumption) (by assumption) ?_ | refine e_beyond (by assumption) (by assumption) ?_ | refine e_is_now (by assumption) (by assumption) ?_)
  | refine w_bl ?_ | refine w_mkw ?_ | refine w_mknw ?_ | refine w_part1 ?_ | refine w_neg ?_ | refine w_smk ?_ | refine w_smkn ?_ | refine w_noP ?_ | refine w_part ?_ | refine w_gcut ?_ | refine w_gsub ?_))

theorem c_number {h l : Addr} {H : Hp} {Q : VK} {E : XK} (L : LawH h l H) (q : ∀ H' x, LawH h l H' → Kept h l H H' → -32768 ≤ x → x ≤ 32767 → Q (.int x) H') : spLNumber [.ref h] H Q E := ⟨h, l, rfl, L, q⟩
theorem list_at {α : Type} {xs : List α} {r : Int} (h0 : 0 ≤ r) (h1 : r < (xs.length : Int)) : ∃ z, z ∈ xs ∧ xs[r.toNat]? = some z := by
  have h : r.toNat < xs.length := by omega
  exact ⟨xs[r.toNat], List.getElem_mem _, List.getElem?_eq_getElem h⟩
theorem w_pair {tk tv : TE} {r : List (TE × TE)} {σ : L2.St} {H : Hp} {R : List (V × V) → Hp → Prop} (q : tk σ H fun x H1 => tv σ H1 fun y H2 => tPairs r σ H2 fun ps H3 => R ((x, y) :: ps) H3) : tPairs ((tk, tv) :: r) σ H R := q
theorem w_pair0 {σ : L2.St} {H : Hp} {R : List (V × V) → Hp → Prop} (q : R [] H) : tPairs [] σ H R := q
theorem LawH.upd' {h l D : Addr} {H : Hp} {o : HO} (L : LawH h l H) (n1 : D ≠ h) (n2 : D ≠ l) : LawH h l (upd H D o) := by
  obtain ⟨m, k, cs, h1, h2, r⟩ := L
  exact ⟨m, k, cs, (upd_ne n1.symm).trans h1, (upd_ne n2.symm).trans h2, r⟩
/-- flat data that are equal -/
def FlatA (v u : V) : Prop := (∃ i, v = .int i ∧ u = .int i) ∨ (v = .non ∧ u = .non) ∨ ∃ z, v = .str z ∧ u = .str z
/-- data of the same kinds, equal at every place; one more than how deep -/
def Alike : Nat → Hp → V → V → Prop
  | 0 => fun _ _ _ => False
  | n + 1 => fun H v u => FlatA v u ∨ ∃ a b xs ys, v = .ref a ∧ u = .ref b ∧ H a = some (.lst xs) ∧ H b = some (.lst ys) ∧ xs.length ≤ 1000 ∧ All2 (Alike n H) xs ys
theorem Alike.same : ∀ {n : Nat} {H H' : Hp} {v u : V}, Same H H' → Alike n H v u → Alike n H' v u
  | 0, _, _, _, _, _, h => h.elim
  | n + 1, H, H', v, u, s, h => by
    rcases h with h | ⟨a, b, xs, ys, h1, h2, h3, h4, h5, h6⟩
    · exact .inl h
    · exact .inr ⟨a, b, xs, ys, h1, h2, s _ _ h3, s _ _ h4, h5, h6.imp fun _ _ _ _ r => Alike.same s r⟩
theorem alike_ints {n : Nat} {H : Hp} : ∀ xs : List Int, All2 (Alike (n + 1) H) (iv xs) (iv xs)
  | [] => .nil
  | x :: r => .cons (.inl (.inl ⟨x, rfl, rfl⟩)) (alike_ints r)
section
variable {K : PySem.W.Frag} {H : Hp} {Q : VK} {a : Addr} {xs : List V} {i : Int}
theorem ty_list (h : H a = some (.lst xs)) : TyX K H (.ref a) (.type "list") := .base (.lst h)
theorem ty_non : TyX K H (.non) (.type "NoneType") := .base .non
theorem ty_str {z : Str} : TyX K H (.str z) (.type "str") := .base (.str z)
theorem ty_int : TyX K H (.int i) (.type "int") := .base (.int i)
/-- isinstance(x, (tuple, list)) -/
theorem w_isiTL {x : V} {t : String} {tp : Addr} {b : Bool} (hT : H tp = some (.tup [.ty "tuple", .ty "list"])) (ty : TyX K H x (.type t)) (e1 : kitB t "tuple" = some false) (e2 : kitB t "list" = some b) (q : Q (.bl b) H) : rIsiT K [x, .ref tp] H Q :=
  ⟨x, tp, _, _, [.type "tuple", .type "list"], b, rfl, hT, .cons (.ty _) (.cons (.ty _) .nil), ty, kitAny_cons (kit_ty e1) (fun _ => kitAny_cons (kit_ty e2) (fun z => by rw [z]; exact kitAny_nil) (fun z => z)) (fun z => nomatch z), q⟩
theorem w_isi {x : V} {t n : String} {b : Bool} (ty : TyX K H x (.type t)) (e : kitB t n = some b) (q : Q (.bl b) H) : rIsi K [x, .ty n] H Q := ⟨x, .ty n, _, _, b, rfl, .ty n, ty, kit_ty e, q⟩
theorem w_tCty {n : String} {σ : L2.St} (q : Q (.ty n) H) : tC (.ty n) σ H Q := q
theorem w_eqb {a b : Bool} (q : Q (.bl (decide (a = b))) H) : rEq (.bl a) (.bl b) H Q := w_eqs rfl (by
  have e : decide (V.bl a = V.bl b) = decide (a = b) := by cases a <;> cases b <;> rfl
  rw [e]
  exact q)
theorem w_neb {a b : Bool} (q : Q (.bl (!decide (a = b))) H) : rNe (.bl a) (.bl b) H Q := w_nes rfl (by
  have e : decide (V.bl a = V.bl b) = decide (a = b) := by cases a <;> cases b <;> rfl
  rw [e]
  exact q)
theorem w_andV {ta tb : TE} {σ : L2.St} (q : ta σ H fun x H1 => ∃ c, x = .bl c ∧ if c = true then tb σ H1 Q else Q (.bl false) H1) : tAndV ta tb σ H Q := q
end
section
variable {P : Program} {w : World} {K : PySem.W.Frag} {mg : Str → Option Value} {base : Heap} {c : Cn} {cls : Err → Addr}
def spLAlike (n : Nat) : Sp := fun vs H Q _ => ∃ v u, vs = [v, u] ∧ Alike n H v u ∧ ∀ H', Same H H' → Q (.bl true) H'
theorem sc_law_alike : FnScope ["_law_found", "_law_due", "_law_k"] ["_law_found", "_law_due"] (defScope (top 52)) := ⟨rfl, rfl, rfl, by decide +kernel, rfl, by decide +kernel, by decide +kernel⟩
theorem ok_law_alike {f : Addr} {fd : FuncData} (F : FnT K "_law_alike" "_law_alike" (top 52) [] [] f fd) (g : Gb w K mg) (gl : Gl mg) {m : Nat}
    (F__law_alike : CallOk P w K mg base "_law_alike" (m + 1) (spLAlike m) []) : FnOk P w K mg base (L2N.CX P w) (m + 2) f fd ["_law_found", "_law_due"] (spLAlike (m + 1)) := by
  refine F.ok sc_law_alike (fun vs H Q E h => ?_) (fun cdv A outer s H vs Q E hr h => ?_)
  · obtain ⟨v, u, rfl, _⟩ := h
    rfl
  · obtain ⟨v, u, rfl, A0, k⟩ := h
    try dsimp only at k
    refine ⟨_, (pss_cons (ps_if (pt_val (pe_callB call_isiT (by rfl) gl.isinstance (by decide +kernel) (pa_cons (pv 1) (pa_cons (pe_tup (pa_cons (pe_bltn (v := .ty "tuple") (by rfl) gl.tuple (by decide +kernel) rfl) (pa_cons (pe_bltn (v := .ty "list") (by rfl) g.list (by decide +kernel) rfl) pa_nil))) pa_nil)))) (pss_cons (ps_if (PW.pt (pw_or (pt_not (pt_val (pe_callB call_isiT (by rfl) gl.isinstance (by decide +kernel) (pa_cons (pv 0) (pa_cons (pe_tup (pa_cons (pe_bltn (v := .ty "tuple") (by rfl) gl.tuple (by decide +kernel) rfl) (pa_cons (pe_bltn (v := .ty "list") (by rfl) g.list (by decide +kernel) rfl) pa_nil))) pa_nil))))) (pw_or1 (pt_cmpR op_ne (pe_callB call_isi (by rfl) gl.isinstance (by decide +kernel) (pa_cons (pv 0) (pa_cons (pe_bltn (v := .ty "list") (by rfl) g.list (by decide +kernel) rfl) pa_nil))) (pe_callB call_isi (by rfl) gl.isinstance (by decide +kernel) (pa_cons (pv 1) (pa_cons (pe_bltn (v := .ty "list") (by rfl) g.list (by decide +kernel) rfl) pa_nil))) (nomark _))))) (pss_one (ps_ret pe_bl)) pss_nil)
      (pss_cons (ps_if (pt_cmpR op_ne (pe_callB call_ln (by rfl) g.len PySem.boot_len (pa_cons (pv 0) pa_nil)) (pe_callB call_ln (by rfl) g.len PySem.boot_len (pa_cons (pv 1) pa_nil)) (nomark _)) (pss_one (ps_ret pe_bl)) pss_nil)
      (pss_one (ps_ret (pe_cmpR (op_eqE (Nat.lt_of_succ_lt (hu_of hr))) (pe_lc (tt := tNot (tB (tCall (spLAlike m) [] (fun _ _ _ => False) (tCons (tOp (rIxL K) (tVar 0) (tVar 2)) (tCons (tOp (rIxL K) (tVar 1) (tVar 2)) tNil))))) (te := tVar 2) (own := [("_law_k", 2)]) rfl sc_law_alike.nd (pi_range1 rfl g.range (pa_cons (pe_callB call_ln (by rfl) g.len PySem.boot_len (pa_cons (pv 1) pa_nil)) pa_nil)) (blkOk_by (own := [("_law_k", 2)]) (N := ["_law_found", "_law_due", "_law_k"]) (sc := defScope (top 52)) (by decide +kernel)) (fun _ _ _ _ _ => (pg_name (i := 2) sc_law_alike.nd rfl (by first | exact Or.inl rfl | exact Or.inr rfl))) (fun _ _ _ _ _ => (pts_one (pt_not (pt_val (pe_fM F__law_alike (hr.mono (by first | decide | omega)) passN (pa_cons (pe_ix ix_list (pv 0) (pv 2) (fun _ _ => rfl)) (pa_cons (pe_ix ix_list (pv 1) (pv 2) (fun _ _ => rfl)) pa_nil))))))) (fun _ _ _ _ _ => (pv 2))) (pe_lst pa_nil) (nomark _)))))) pss_nil)
      (pss_cons (ps_if (PW.pt (pw_or (pt_cmpR op_isN1 (pv 1) pe_non (nomark _)) (pw_or1 (pt_val (pe_callB call_isi (by rfl) gl.isinstance (by decide +kernel) (pa_cons (pv 1) (pa_cons (pe_bltn (v := .ty "str") (by rfl) g.str (by decide +kernel) rfl) pa_nil))))))) (pss_one (ps_ret (pe_and (pe_cmpR op_eq (pv 0) (pv 1) (nomark _)) (pe_one (pe_cmpR op_eq (pe_callB call_isi (by rfl) gl.isinstance (by decide +kernel) (pa_cons (pv 0) (pa_cons (pe_bltn (v := .ty "str") (by rfl) g.str (by decide +kernel) rfl) pa_nil))) (pe_callB call_isi (by rfl) gl.isinstance (by decide +kernel) (pa_cons (pv 1) (pa_cons (pe_bltn (v := .ty "str") (by rfl) g.str (by decide +kernel) rfl) pa_nil))) (nomark _)))))) pss_nil)
      (pss_one (ps_ret (pe_and (pe_callB call_isi (by rfl) gl.isinstance (by decide +kernel) (pa_cons (pv 0) (pa_cons (pe_bltn (v := .ty "int") (by rfl) g.int (by decide +kernel) rfl) pa_nil))) (pe_and (pe_cmpR op_eq (pe_callB call_isi (by rfl) gl.isinstance (by decide +kernel) (pa_cons (pv 0) (pa_cons (pe_bltn (v := .ty "bool") (by rfl) gl.bool (by decide +kernel) rfl) pa_nil))) (pe_callB call_isi (by rfl) gl.isinstance (by decide +kernel) (pa_cons (pv 1) (pa_cons (pe_bltn (v := .ty "bool") (by rfl) gl.bool (by decide +kernel) rfl) pa_nil))) (nomark _)) (pe_one (pe_cmpR op_eq (pv 0) (pv 1) (nomark _))))))))), ?_⟩
    try dsimp only [cxOf_K]
    rcases A0 with (⟨i, rfl, rfl⟩ | ⟨rfl, rfl⟩ | ⟨z, rfl, rfl⟩) | ⟨a, b, xs, ys, rfl, rfl, ha, hb, hz, al⟩
    · walk_at "w"
      refine ⟨by show 2 ≤ sizeLine; decide, fun p hp => ?_⟩
      have sm := same_new (o := .tup [.ty "tuple", .ty "list"]) hp
      walk_at "w"
      refine w_isiTL upd_same ty_int (by decide +kernel) (b := false) (by decide +kernel) ?_
      generalize upd H p (.tup [.ty "tuple", .ty "list"]) = H1 at sm ⊢
      walk_at "w"
      refine iteF ?_
      walk_at "w"
      refine ite_dec (fun h => nomatch h) (fun _ => ?_)
      walk_at "w"
      refine w_isi ty_int (b := false) (by decide +kernel) ?_
      walk_at "w"
      refine iteF ?_
      walk_at "w"
      refine w_andV ?_
      walk_at "w"
      refine w_isi ty_int (b := true) (by decide +kernel) ?_
      refine ⟨_, rfl, iteT ?_⟩
      refine w_andV ?_
      walk_at "w"
      refine w_isi ty_int (b := false) (by decide +kernel) ?_
      walk_at "w"
      refine w_isi ty_int (b := false) (by decide +kernel) ?_
      refine w_eqb ?_
      refine ⟨_, rfl, iteT ?_⟩
      walk_at "w"
      rw [decide_eq_true rfl]
      exact k _ sm
    · walk_at "w"
      refine ⟨by show 2 ≤ sizeLine; decide, fun p hp => ?_⟩
      have sm := same_new (o := .tup [.ty "tuple", .ty "list"]) hp
      walk_at "w"
      refine w_isiTL upd_same ty_non (by decide +kernel) (b := false) (by decide +kernel) ?_
      generalize upd H p (.tup [.ty "tuple", .ty "list"]) = H1 at sm ⊢
      walk_at "w"
      refine iteF ?_
      walk_at "w"
      rw [if_pos (decide_eq_true rfl), if_pos rfl]
      walk_at "w"
      refine w_andV ?_
      walk_at "w"
      refine w_eqs rfl ?_
      refine ⟨_, rfl, ?_⟩
      rw [if_pos (decide_eq_true rfl)]
      walk_at "w"
      refine w_isi ty_non (b := false) (by decide +kernel) ?_
      walk_at "w"
      refine w_isi ty_non (b := false) (by decide +kernel) ?_
      refine w_eqb ?_
      walk_at "w"
      exact k _ sm
    · walk_at "w"
      refine ⟨by show 2 ≤ sizeLine; decide, fun p hp => ?_⟩
      have sm := same_new (o := .tup [.ty "tuple", .ty "list"]) hp
      walk_at "w"
      refine w_isiTL upd_same ty_str (by decide +kernel) (b := false) (by decide +kernel) ?_
      generalize upd H p (.tup [.ty "tuple", .ty "list"]) = H1 at sm ⊢
      walk_at "w"
      refine iteF ?_
      walk_at "w"
      refine ite_dec (fun h => nomatch h) (fun _ => ?_)
      walk_at "w"
      refine w_isi ty_str (b := true) (by decide +kernel) ?_
      walk_at "w"
      refine iteT ?_
      walk_at "w"
      refine w_andV ?_
      walk_at "w"
      rw [if_pos (decide_eq_true rfl)]
      walk_at "w"
      refine w_isi ty_str (b := true) (by decide +kernel) ?_
      walk_at "w"
      refine w_isi ty_str (b := true) (by decide +kernel) ?_
      refine w_eqb ?_
      walk_at "w"
      exact k _ sm
    · have hl := al.len
      walk_at "w"
      refine ⟨by show 2 ≤ sizeLine; decide, fun p hp => ?_⟩
      have sm := same_new (o := .tup [.ty "tuple", .ty "list"]) hp
      have hp1 : upd H p (.tup [.ty "tuple", .ty "list"]) p = some (.tup [.ty "tuple", .ty "list"]) := upd_same
      show tNil _ (upd H p (.tup [.ty "tuple", .ty "list"])) _
      generalize upd H p (.tup [.ty "tuple", .ty "list"]) = H1 at sm hp1 ⊢
      walk_at "w"
      refine w_isiTL hp1 (ty_list (sm _ _ hb)) (by decide +kernel) (b := true) (by decide +kernel) ?_
      walk_at "w"
      refine iteT ?_
      walk_at "w"
      refine ⟨by show 2 ≤ sizeLine; decide, fun p2 hp2 => ?_⟩
      have sm2 := same_trans sm (same_new (o := .tup [.ty "tuple", .ty "list"]) hp2)
      have hp21 : upd H1 p2 (.tup [.ty "tuple", .ty "list"]) p2 = some (.tup [.ty "tuple", .ty "list"]) := upd_same
      show tNil _ (upd H1 p2 (.tup [.ty "tuple", .ty "list"])) _
      generalize upd H1 p2 (.tup [.ty "tuple", .ty "list"]) = H2 at sm2 hp21 ⊢
      walk_at "w"
      refine w_isiTL hp21 (ty_list (sm2 _ _ ha)) (by decide +kernel) (b := true) (by decide +kernel) ?_
      walk_at "w"
      refine iteF ?_
      walk_at "w"
      refine w_isi (ty_list (sm2 _ _ ha)) (b := true) (by decide +kernel) ?_
      walk_at "w"
      refine w_isi (ty_list (sm2 _ _ hb)) (b := true) (by decide +kernel) ?_
      refine w_neb ?_
      walk_at "w"
      refine iteF ?_
      walk_at "w"
      refine w_lnG (sm2 _ _ ha) ?_
      walk_at "w"
      refine w_lnG (sm2 _ _ hb) ?_
      rw [hl]
      walk_at "w"
      refine ite_ndec (fun h => (h rfl).elim) (fun _ => ?_)
      walk_at "w"
      unfold tLc iRng1
      walk_at "w"
      refine w_lnG (sm2 _ _ hb) ?_
      walk_at "w"
      refine ⟨_, rfl, by omega, by omega, fun D hD => ?_⟩
      have sm3 := same_trans sm2 (same_new (o := .lst []) hD)
      refine lc_range (lo := 0) (n := (ys.length : Int).toNat) (fun i H' => Same H H' ∧ H' D = some (.lst [])) ⟨sm3, upd_same⟩ (fun i H' hi h => ?_) (fun H' h => ?_)
      · obtain ⟨s4, hD4⟩ := h
        rw [Int.toNat_natCast] at hi
        refine w_gn ⟨rfl, ?_⟩
        have hy : ys[i]? = some ys[i] := List.getElem?_eq_getElem hi
        obtain ⟨x, hx, r⟩ := al.get hy
        refine w_not ?_
        refine w_tB ?_
        refine w_call ?_
        walk_at "w"
        refine w_ixL (s4 _ _ ha) (atI_int (by omega) (by rw [show ((0 : Int) + (i : Int)).toNat = i by omega]; exact hx)) ?_
        walk_at "w"
        refine w_ixL (s4 _ _ hb) (atI_int (by omega) (by rw [show ((0 : Int) + (i : Int)).toNat = i by omega]; exact hy)) ?_
        walk_at "w"
        refine ⟨x, _, rfl, r.same s4, fun H5 s5 => ?_⟩
        walk_at "w"
        refine iteF ?_
        exact ⟨same_trans s4 s5, s5 _ _ hD4⟩
      · obtain ⟨s4, hD4⟩ := h
        walk_at "w"
        refine ⟨Nat.zero_le _, fun q hq => ?_⟩
        refine ⟨D, q, [], rfl, rfl, same_new hq _ _ hD4, upd_same, ?_⟩
        exact k _ (same_trans s4 (same_new hq))
end
end WH
set_option Elab.async false
set_option linter.all false
set_option maxRecDepth 100000
set_option maxHeartbeats 1000000
namespace WH
open PySem PySem.Spec PyProof.Rows L2
/-! ### a law that holds a house -/
section
variable {c : Cn} {p h l : Addr} {S : MS} {U : List Seen} {L : Ls} {H0 H H' : Hp} {Q : VK} {E : XK} {many : Int}
theorem HOwn.kept (W : HOwn c p S U L H0 H) (LH : LawH h l H0) (kp : Kept h l H H') (L' : LawH h l H') : ∃ H0', HOwn c p S U L H0' H' ∧ LawH h l H0' ∧ Kept h l H0 H0' := by
  obtain ⟨hs, G, s, hp, e⟩ := W
  obtain ⟨m0, k0, cs0, e1, e2, _⟩ := LH
  obtain ⟨m, k, cs, g1, g2, r⟩ := L'
  have n1 : hs h = none := s.not' e1
  have n2 : hs l = none := s.not' e2
  have dec : ∀ b, (b = h ∨ b = l) ∨ (b ≠ h ∧ b ≠ l) := fun b => by
    by_cases x : b = h
    · exact .inl (.inl x)
    · by_cases y : b = l
      · exact .inl (.inr y)
      · exact .inr ⟨x, y⟩
  obtain ⟨J, i1, i2⟩ : ∃ J : Hp, (∀ b, b = h ∨ b = l → J b = H' b) ∧ ∀ b, b ≠ h ∧ b ≠ l → J b = H0 b :=
    ⟨fun b => if b = h ∨ b = l then H' b else H0 b, fun b z => if_pos z, fun b z => if_neg fun q => q.elim z.1 z.2⟩
  refine ⟨J, ⟨hs, G, ⟨fun b => ?_, fun b o q => ?_, fun b o q => ?_⟩, hp, e⟩, ⟨m, k, cs, (i1 h (.inl rfl)).trans g1, (i1 l (.inr rfl)).trans g2, r⟩, fun b o q z1 z2 => (i2 b ⟨z1, z2⟩).trans q⟩
  · rcases dec b with (rfl | rfl) | z
    · exact .inr n1
    · exact .inr n2
    · rw [i2 b z]
      exact s.dj b
  · rcases dec b with z | z
    · rw [i1 b z] at q
      exact q
    · rw [i2 b z] at q
      exact kp b o (s.fr b o q) z.1 z.2
  · refine kp b o (s.own b o q) (fun z => ?_) (fun z => ?_)
    · rw [z, n1] at q
      cases q
    · rw [z, n2] at q
      cases q
theorem c_nextW (W : HOwn c p S U L H0 H) (LH : LawH h l H0) (h1 : 1 ≤ many) (h2 : many < 1073741824) (q : ∀ H0' H' r, HOwn c p S U L H0' H' → LawH h l H0' → Kept h l H0 H0' → 0 ≤ r → r < many → Q (.int r) H') : spLNext [.ref h, .int many] H Q E :=
  c_next (LH.same W.same) h1 h2 fun H' r L' kp z1 z2 => by
    obtain ⟨H0', W', L2, kp2⟩ := W.kept LH kp L'
    exact q H0' H' r W' L2 kp2 z1 z2
theorem c_numberW (W : HOwn c p S U L H0 H) (LH : LawH h l H0) (q : ∀ H0' H' x, HOwn c p S U L H0' H' → LawH h l H0' → Kept h l H0 H0' → -32768 ≤ x → x ≤ 32767 → Q (.int x) H') : spLNumber [.ref h] H Q E :=
  c_number (LH.same W.same) fun H' r L' kp z1 z2 => by
    obtain ⟨H0', W', L2, kp2⟩ := W.kept LH kp L'
    exact q H0' H' r W' L2 kp2 z1 z2
end
section
variable {X : Cx} {C : Addr} {k : Nat} {sp : Sp} {E : XK} {x : Str} {p pos : Pos} {dvs : List V}
theorem pe_cM0 (M : MakeOk X.prog X.w X.K X.mg X.base x C k sp dvs) (hr : Room (k + 1) X.A) (hx : Passes (L2N.CX X.prog X.w) X E) (hg : L2.Gl X x := by rfl) (hdb : (x == ("__debug__" : Str)) = false := by decide) :
    PE X (.Call (.Name x p) [] [] pos) (tMake C sp dvs E tNil) := by
  obtain ⟨f, fd, ps, ds, h1, h2, h3, h4, h5⟩ := M
  exact pe_make0 h2 h3 hr hg h1 h4 h5 hx hdb
end
section
variable {c : Cn} {E : XK} {H : Hp} {Q : VK} {σ : L2.St} {mc ms : Int}
theorem w_house0 (q : ∀ p H1 H0 L, Same H H0 → HOwn c p (newHouse mc ms) [] L H0 H1 → Q (.ref p) H1) : tMake c.CH (spHouseInit c) [.int mc, .int ms] E tNil σ H Q := by
  refine w_mk0 (w_nil fun x dx hx hdx hne => ?_)
  have hx2 : upd H dx (.own x) x = none := by
    rw [upd_ne hne.symm]
    exact hx
  exact ⟨x, dx, mc, ms, upd H dx (.own x), rfl, Sep.start.new hx2, fun H1 L W => ⟨rfl, q x H1 _ L (same_new hdx) W⟩⟩
end
section
variable {H : Hp} {Q : VK} {k : VK} {l q : Addr}
theorem w_popI {pre : List Int} {x : Int} (h : H l = some (.lst (iv (pre ++ [x])))) (z : k (.int x) (upd H l (.lst (iv pre)))) : rPop (.ref l) [] H k := by
  refine ⟨l, _, .int x, rfl, rfl, h, ?_, ?_⟩
  · rw [iv_app, ← List.getLast?_eq_getElem?, iv_one]
    simp
  · rw [iv_app, iv_one, List.dropLast_concat]
    exact z
theorem w_appI {ys : List Int} {y : Int} (h : H l = some (.lst (iv ys))) (hz : ys.length < LIM) (z : k .non (upd H l (.lst (iv (ys ++ [y]))))) : rAppend (.ref l) [.int y] H k :=
  w_app h (by rw [iv_len]; exact lim_lt hz) (by rw [← iv_one, ← iv_app]; exact z)
theorem w_appS {ys : List Str} {y : Str} (h : H l = some (.lst (ys.map V.str))) (hz : ys.length < LIM) (z : k .non (upd H l (.lst ((ys ++ [y]).map V.str)))) : rAppend (.ref l) [.str y] H k :=
  w_app h (by rw [List.length_map]; exact lim_lt hz) (by rw [List.map_append] at z; exact z)
theorem w_neE {xs : List V} (h : H l = some (.lst xs)) (hq : H q = some (.lst [])) (z : Q (.bl (!decide (xs = []))) H) : rNeE (.ref l) (.ref q) H Q := ⟨l, q, xs, rfl, rfl, h, hq, z⟩
theorem iv_nil {xs : List Int} : iv xs = [] ↔ xs = [] := by
  cases xs with
  | nil => exact Iff.intro (fun _ => rfl) (fun _ => rfl)
  | cons a r => exact Iff.intro (fun z => nomatch z) (fun z => nomatch z)
end
theorem atI_lastG {xs : List V} {x : V} (h : xs.getLast? = some x) : atI xs (-1) = some x := by
  rw [List.getLast?_eq_getElem?] at h
  obtain ⟨hl, _⟩ := List.getElem?_eq_some_iff.mp h
  show (ixN xs.length (-1)).bind (fun k => xs[k]?) = _
  have e : ixN xs.length (-1) = some (xs.length - 1) := by
    unfold ixN
    rw [if_neg (by omega), if_pos (by omega)]
    congr 1
    omega
  rw [e]
  exact h
theorem log_small {x : Int} (h1 : -32768 ≤ x) (h2 : x ≤ 32767) : x.natAbs.log2 < 1920 := by
  by_cases h : x.natAbs = 0
  · rw [h]
    decide
  · have h3 : x.natAbs.log2 < 16 := (Nat.log2_lt h).mpr (by omega)
    omega
end WH
set_option Elab.async false
set_option linter.all false
set_option maxRecDepth 100000
set_option maxHeartbeats 1000000
namespace WH
open PySem PySem.Spec PyProof.Rows L2
/-! ### a text told to a house that the law holds -/
section
variable {c : Cn} {cls : Err → Addr} {p : Addr} {S S0 S1 : MS} {U : List Seen} {L : Ls} {J H : Hp} {Q : VK} {E : XK} {n k : Nat} {z : Str} {ws : List Str}
theorem c_tell (W : HOwn c p S U L J H) (hn : norm S = S0) (hb : S.back = []) (hz : Txt.words z = ws) (st : Steps n ws k S0 S1) (hk : k ≤ 2000) (hl : z.length + 2 ≤ sizeLine) (hbk : S0.book.length ≤ LIM)
    (q : ∀ H1 S2 L' r, J r = none → HOwn c p S2 U L' (upd J r (.lst (iv (S1.told.drop S0.told.length)))) H1 → norm S2 = S1 → S2.back = [] → Q (.ref r) H1) : spTell c cls (goInto n) [.ref p, .str z, .int 2000, .bl true] H Q E := by
  subst hn
  subst hz
  obtain ⟨T', e, n1⟩ := Steps.tell (most := 2000) st hb (by omega)
  subst n1
  refine ⟨p, S, U, L, J, z, 2000, true, rfl, W, hl, hbk, ?_⟩
  rw [wordsFromG_eq, e]
  exact fun H1 L' r hr W' => q H1 (quiet T') L' r hr W' rfl rfl
/-- words of a law's text -/
theorem wd_words {xs : List Wd} (h : ∀ x ∈ xs, isWord (wt x)) : Txt.words (Txt.join " " (xs.map wt)) = xs.map wt := words_join fun z hz => by
  obtain ⟨x, hx, rfl⟩ := List.mem_map.mp hz
  exact h x hx
theorem wd_len {xs : List Wd} (h : ∀ x ∈ xs, wOk x) (hl : xs.length ≤ 1000) : (Txt.join " " (xs.map wt)).length + 2 ≤ sizeLine := by
  have h1 := join_len (ws := xs.map wt) (b := 20) fun z hz => by
    obtain ⟨x, hx, rfl⟩ := List.mem_map.mp hz
    exact wt_len (h x hx)
  rw [List.length_map] at h1
  have h4 : (100000 : Nat) ≤ sizeLine := by decide
  omega
/-- a word of a law's text -/
def WdOk (x : Wd) : Prop := wOk x ∧ isWord (wt x)
theorem wdI {x : Int} (h : -32768 ≤ x ∧ x ≤ 32767) : WdOk (.inl x) := ⟨h, itxt_word x⟩
theorem wdS {y : Str} (h1 : y.length ≤ 20) (h2 : isWord y) : WdOk (.inr y) := ⟨h1, h2⟩
theorem wd_cons {x : Wd} {r : List Wd} (h : WdOk x) (q : ∀ y ∈ r, WdOk y) : ∀ y ∈ x :: r, WdOk y := fun y hy => by
  rcases List.mem_cons.mp hy with e | e
  · rw [e]
    exact h
  · exact q y e
theorem wd_nil : ∀ y ∈ ([] : List Wd), WdOk y := fun y hy => nomatch hy
/-- the law's text of words is told -/
theorem c_tellW {xs : List Wd} (W : HOwn c p S U L J H) (hx : ∀ y ∈ xs, WdOk y) (hm : xs.length ≤ 1000) (hn : norm S = S0) (hb : S.back = []) (st : Steps n (xs.map wt) k S0 S1) (hk : k ≤ 2000) (hbk : S0.book.length ≤ LIM)
    (q : ∀ H1 S2 L' r, J r = none → HOwn c p S2 U L' (upd J r (.lst (iv (S1.told.drop S0.told.length)))) H1 → norm S2 = S1 → S2.back = [] → Q (.ref r) H1) : spTell c cls (goInto n) [.ref p, .str (Txt.join " " (xs.map wt)), .int 2000, .bl true] H Q E :=
  c_tell W hn hb (wd_words fun x h => (hx x h).2) st hk (wd_len (fun x h => (hx x h).1) hm) hbk q
end
section
variable {A B : TS} {C : TT} {D : L2.Ends} {σ : L2.St} {H : Hp}
/-- what lies behind a statement is shown once for all its ways -/
theorem w_cut (I : L2.St → Hp → Prop) (h1 : ∀ N : L2.St → Hp → Prop, (∀ σ' H', I σ' H' → N σ' H') → A { D with nx := N } σ H) (h2 : ∀ σ' H', I σ' H' → B D σ' H') : tSeq A B D σ H := h1 _ h2
/-- a choice's ways are shown once each -/
theorem w_ifcut (IA IB : Hp → Prop) (h : ∀ R : Bool → Hp → Prop, (∀ H', IA H' → R true H') → (∀ H', IB H' → R false H') → C σ H R) (ha : ∀ H', IA H' → A D σ H') (hb : ∀ H', IB H' → B D σ H') : tIfS C A B D σ H :=
  h _ (fun H' z => by
    show if true = true then _ else _
    rw [if_pos rfl]
    exact ha H' z) (fun H' z => by
    show if false = true then _ else _
    rw [if_neg Bool.false_ne_true]
    exact hb H' z)
end
end WH
set_option Elab.async false
set_option linter.all false
set_option maxRecDepth 100000
set_option maxHeartbeats 1000000
namespace WH
open PySem PySem.Spec PyProof.Rows L2
/-- a new list, a new tuple: what follows is kept as it is -/
def rNewL (xs : List V) (H : Hp) (Q : VK) : Prop := xs.length ≤ sizeLine ∧ ∀ p, H p = none → Q (.ref p) (upd H p (.lst xs))
def rNewT (xs : List V) (H : Hp) (Q : VK) : Prop := xs.length ≤ sizeLine ∧ ∀ p, H p = none → Q (.ref p) (upd H p (.tup xs))
theorem w_lstN {t : TA} {σ : L2.St} {H : Hp} {Q : VK} (q : t σ H fun xs H1 => rNewL xs H1 Q) : tLst t σ H Q := q
theorem w_tupN {t : TA} {σ : L2.St} {H : Hp} {Q : VK} (q : t σ H fun xs H1 => rNewT xs H1 Q) : tTup t σ H Q := q
/-! ### a law's state: what it draws from, the houses that it holds, its own lists -/
abbrev Cells : Type := List (Addr × HO)
structure LF (h l : Addr) (cs : Cells) (H : Hp) : Prop where
  law : LawH h l H
  at_ : ∀ x ∈ cs, H x.1 = some x.2 ∧ x.1 ≠ h ∧ x.1 ≠ l
  nd : (cs.map (·.1)).Nodup
def LS (c : Cn) (h l : Addr) : List (Addr × MS) → Cells → Hp → Prop
  | [], cs, H => LF h l cs H
  | (p, S) :: hs, cs, H => ∃ J S' L, norm S' = S ∧ S'.back = [] ∧ HOwn c p S' [] L J H ∧ LS c h l hs cs J
/-- a cell's new content -/
inductive Upd1 : Cells → Addr → HO → HO → Cells → Prop
  | here {a : Addr} {o o' : HO} {r : Cells} : Upd1 ((a, o) :: r) a o o' ((a, o') :: r)
  | there {x : Addr × HO} {a : Addr} {o o' : HO} {r r' : Cells} : Upd1 r a o o' r' → Upd1 (x :: r) a o o' (x :: r')
inductive Has : Cells → Addr → HO → Prop
  | here {a : Addr} {o : HO} {r : Cells} : Has ((a, o) :: r) a o
  | there {x : Addr × HO} {a : Addr} {o : HO} {r : Cells} : Has r a o → Has (x :: r) a o
theorem Has.mem {a : Addr} {o : HO} : ∀ {cs : Cells}, Has cs a o → (a, o) ∈ cs
  | _, .here => List.mem_cons_self
  | _, .there h => List.mem_cons_of_mem _ h.mem
theorem Upd1.mem {a : Addr} {o o' : HO} : ∀ {cs cs' : Cells}, Upd1 cs a o o' cs' → (a, o) ∈ cs
  | _, _, .here => List.mem_cons_self
  | _, _, .there h => List.mem_cons_of_mem _ h.mem
theorem Upd1.map {a : Addr} {o o' : HO} : ∀ {cs cs' : Cells}, Upd1 cs a o o' cs' → cs'.map (·.1) = cs.map (·.1)
  | _, _, .here => rfl
  | _, _, .there h => by
    rw [List.map_cons, List.map_cons, h.map]
theorem Upd1.of {a : Addr} {o o' : HO} : ∀ {cs cs' : Cells}, Upd1 cs a o o' cs' → (cs.map (·.1)).Nodup → ∀ x ∈ cs', x = (a, o') ∨ (x ∈ cs ∧ x.1 ≠ a)
  | _, _, .here, nd, x, h => by
    rcases List.mem_cons.mp h with e | e
    · exact .inl e
    · refine .inr ⟨List.mem_cons_of_mem _ e, fun z => ?_⟩
      rw [List.map_cons, List.nodup_cons] at nd
      exact nd.1 (List.mem_map.mpr ⟨x, e, z⟩)
  | _, _, .there u, nd, x, h => by
    rw [List.map_cons, List.nodup_cons] at nd
    rcases List.mem_cons.mp h with e | e
    · refine .inr ⟨by rw [e]; exact List.mem_cons_self, fun z => nd.1 ?_⟩
      rw [← e, z]
      exact List.mem_map.mpr ⟨_, u.mem, rfl⟩
    · rcases u.of nd.2 x e with z | z
      · exact .inl z
      · exact .inr ⟨List.mem_cons_of_mem _ z.1, z.2⟩
section
variable {c : Cn} {h l a : Addr} {hs : List (Addr × MS)} {cs cs' : Cells} {H H' : Hp} {o o' : HO} {p : Addr} {S S' : MS} {U : List Seen} {L : Ls}
theorem HOwn.up' {J : Hp} (W : HOwn c p S U L J H) (s : Same H H') : HOwn c p S U L J H' := by
  obtain ⟨k, G, q, P, e⟩ := W
  exact ⟨k, G, ⟨q.dj, fun a o z => s _ _ (q.fr a o z), fun a o z => s _ _ (q.own a o z)⟩, P, e⟩
theorem LS.same : ∀ {hs : List (Addr × MS)} {H H' : Hp}, LS c h l hs cs H → Same H H' → LS c h l hs cs H'
  | [], _, _, W, s => ⟨W.law.same s, fun x hx => ⟨s _ _ (W.at_ x hx).1, (W.at_ x hx).2⟩, W.nd⟩
  | (p, S) :: hs, _, _, ⟨J, S', L, e1, e2, W, r⟩, s => ⟨J, S', L, e1, e2, W.up' s, r⟩
theorem LS.law : ∀ {hs : List (Addr × MS)} {H : Hp}, LS c h l hs cs H → LawH h l H
  | [], _, W => LF.law W
  | (p, S) :: hs, _, ⟨J, S', L, e1, e2, W, r⟩ => r.law.same W.same
theorem LS.get_ : ∀ {hs : List (Addr × MS)} {H : Hp}, LS c h l hs cs H → (a, o) ∈ cs → H a = some o
  | [], _, W, m => (LF.at_ W _ m).1
  | (p, S) :: hs, _, ⟨J, S', L, e1, e2, W, r⟩, m => W.same _ _ (r.get_ m)
theorem LS.get (W : LS c h l hs cs H) (m : Has cs a o) : H a = some o := W.get_ m.mem
theorem LS.new : ∀ {hs : List (Addr × MS)} {H : Hp}, LS c h l hs cs H → H a = none → LS c h l hs ((a, o) :: cs) (upd H a o)
  | [], H, W, n => by
    have s := same_new (o := o) n
    refine ⟨W.law.same s, fun x hx => ?_, ?_⟩
    · rcases List.mem_cons.mp hx with e | e
      · rw [e]
        exact ⟨upd_same, W.law.off (o := o) n⟩
      · exact ⟨s _ _ (W.at_ x e).1, (W.at_ x e).2⟩
    · rw [List.map_cons, List.nodup_cons]
      refine ⟨fun z => ?_, W.nd⟩
      obtain ⟨y, hy, e⟩ := List.mem_map.mp z
      have := (W.at_ y hy).1
      rw [e, n] at this
      cases this
  | (p, S) :: hs, H, ⟨J, S', L, e1, e2, W, r⟩, n => ⟨upd J a o, S', L, e1, e2, W.newF n, r.new (W.fresh n)⟩
theorem LS.sub : ∀ {hs : List (Addr × MS)} {H : Hp}, LS c h l hs cs H → List.Sublist cs' cs → LS c h l hs cs' H
  | [], _, W, s => ⟨LF.law W, fun x hx => LF.at_ W x (s.subset hx), (LF.nd W).sublist (s.map _)⟩
  | (p, S) :: hs, _, ⟨J, S', L, e1, e2, W, r⟩, s => ⟨J, S', L, e1, e2, W, r.sub s⟩
theorem LS.skip (W : LS c h l hs cs H) (n : H a = none) : LS c h l hs cs (upd H a o) := (W.new (o := o) n).sub (List.sublist_cons_self ..)
theorem LS.drop {x : Addr × HO} (W : LS c h l hs (x :: cs) H) : LS c h l hs cs H := W.sub (List.sublist_cons_self ..)
theorem LS.drop1 {x y : Addr × HO} (W : LS c h l hs (x :: y :: cs) H) : LS c h l hs (x :: cs) H := W.sub (.cons₂ _ (List.sublist_cons_self ..))
theorem LS.drop2 {x y z : Addr × HO} (W : LS c h l hs (x :: y :: z :: cs) H) : LS c h l hs (x :: y :: cs) H := W.sub (.cons₂ _ (.cons₂ _ (List.sublist_cons_self ..)))
theorem LS.set : ∀ {hs : List (Addr × MS)} {H : Hp}, LS c h l hs cs H → Upd1 cs a o o' cs' → LS c h l hs cs' (upd H a o')
  | [], H, W, u => by
    have ha := W.at_ _ u.mem
    refine ⟨W.law.upd' ha.2.1 ha.2.2, fun x hx => ?_, by rw [u.map]; exact W.nd⟩
    rcases u.of W.nd x hx with e | ⟨e1, e2⟩
    · rw [e]
      exact ⟨upd_same, ha.2⟩
    · exact ⟨(upd_ne e2).trans (W.at_ x e1).1, (W.at_ x e1).2⟩
  | (p, S) :: hs, H, ⟨J, S', L, e1, e2, W, r⟩, u => ⟨upd J a o', S', L, e1, e2, W.setF (r.get_ u.mem), r.set u⟩
theorem LS.kept : ∀ {hs : List (Addr × MS)} {H H' : Hp}, LS c h l hs cs H → Kept h l H H' → LawH h l H' → LS c h l hs cs H'
  | [], _, _, W, k, L' => ⟨L', fun x hx => ⟨k _ _ (LF.at_ W x hx).1 (LF.at_ W x hx).2.1 (LF.at_ W x hx).2.2, (LF.at_ W x hx).2⟩, LF.nd W⟩
  | (p, S) :: hs, _, _, ⟨J, S', L, e1, e2, W, r⟩, k, L' => by
    obtain ⟨J', W', L2, k2⟩ := W.kept r.law k L'
    exact ⟨J', S', L, e1, e2, W', r.kept k2 L2⟩
/-- the first house goes -/
theorem LS.dropH {x : Addr × MS} : LS c h l (x :: hs) cs H → LS c h l hs cs H := fun ⟨_, _, _, _, _, W, r⟩ => r.same W.same
theorem LS.swap {x y : Addr × MS} : LS c h l (x :: y :: hs) cs H → LS c h l (y :: x :: hs) cs H := fun ⟨J1, S1, L1, e1, b1, W1, J2, S2, L2, e2, b2, W2, r⟩ => by
  obtain ⟨k1, G1, s1, P1, g1⟩ := W1
  obtain ⟨k2, G2, s2, P2, g2⟩ := W2
  have key : ∀ {b : Addr} {u : HO}, J2 b = some u → k1 b = none := fun q => s1.not' (s2.fr _ _ q)
  refine ⟨uni J2 k1, S2, L2, e2, b2, ⟨k2, G2, ⟨fun b => ?_, fun b u q => ?_, fun b u q => s1.fr _ _ (s2.own _ _ q)⟩, P2, g2⟩, J2, S1, L1, e1, b1, ⟨k1, G1, ⟨fun b => ?_, fun b u q => uni_l q, fun b u q => ?_⟩, P1, g1⟩, r⟩
  · cases q : k2 b with
    | none => exact .inr rfl
    | some u => exact .inl (uni_none (s2.not q) (s1.not' (s2.own _ _ q)))
  · cases e : J2 b with
    | none =>
      rw [uni_r e] at q
      exact s1.own _ _ q
    | some v =>
      rw [uni_l e] at q
      cases q
      exact s1.fr _ _ (s2.fr _ _ e)
  · cases q : J2 b with
    | none => exact .inl rfl
    | some u => exact .inr (key q)
  · cases e : J2 b with
    | none => rw [uni_r e, q]
    | some v =>
      rw [key e] at q
      cases q
end
section
variable {c : Cn} {h l a p : Addr} {hs : List (Addr × MS)} {cs cs' : Cells} {H : Hp} {o o' : HO} {S : MS} {Q : VK} {E : XK} {k : VK} {many : Int} {K : PySem.W.Frag}
/-! rules over it -/
theorem l_next (W : LS c h l hs cs H) (h1 : 1 ≤ many) (h2 : many < 1073741824) (q : ∀ H' r, LS c h l hs cs H' → 0 ≤ r → r < many → Q (.int r) H') : spLNext [.ref h, .int many] H Q E :=
  c_next W.law h1 h2 fun H' r L' kp z1 z2 => q H' r (W.kept kp L') z1 z2
theorem l_number (W : LS c h l hs cs H) (q : ∀ H' x, LS c h l hs cs H' → -32768 ≤ x → x ≤ 32767 → Q (.int x) H') : spLNumber [.ref h] H Q E :=
  c_number W.law fun H' r L' kp z1 z2 => q H' r (W.kept kp L') z1 z2
theorem l_new {xs : List V} (W : LS c h l hs cs H) (hz : xs.length ≤ sizeLine) (q : ∀ a H', LS c h l hs ((a, .lst xs) :: cs) H' → Q (.ref a) H') : rNewL xs H Q := ⟨hz, fun p hp => q p _ (W.new hp)⟩
theorem l_newI {xs : List Int} (W : LS c h l hs cs H) (hz : xs.length ≤ sizeLine) (q : ∀ a H', LS c h l hs ((a, .lst (iv xs)) :: cs) H' → Q (.ref a) H') : rNewL (iv xs) H Q := ⟨by rw [iv_len]; exact hz, fun p hp => q p _ (W.new hp)⟩
theorem l_newT {xs : List V} (W : LS c h l hs cs H) (hz : xs.length ≤ sizeLine) (q : ∀ a H', LS c h l hs ((a, .tup xs) :: cs) H' → Q (.ref a) H') : rNewT xs H Q := ⟨hz, fun p hp => q p _ (W.new hp)⟩
theorem l_app {ys : List V} {y : V} (W : LS c h l hs cs H) (u : Upd1 cs a (.lst ys) (.lst (ys ++ [y])) cs') (hz : ys.length < LIM) (q : ∀ H', LS c h l hs cs' H' → k .non H') : rAppend (.ref a) [y] H k :=
  w_app (W.get_ u.mem) (lim_lt hz) (q _ (W.set u))
theorem l_appI {ys : List Int} {y : Int} (W : LS c h l hs cs H) (u : Upd1 cs a (.lst (iv ys)) (.lst (iv (ys ++ [y]))) cs') (hz : ys.length < LIM) (q : ∀ H', LS c h l hs cs' H' → k .non H') : rAppend (.ref a) [.int y] H k :=
  w_appI (W.get_ u.mem) hz (q _ (W.set u))
theorem l_appS {ys : List Str} {y : Str} (W : LS c h l hs cs H) (u : Upd1 cs a (.lst (ys.map V.str)) (.lst ((ys ++ [y]).map V.str)) cs') (hz : ys.length < LIM) (q : ∀ H', LS c h l hs cs' H' → k .non H') : rAppend (.ref a) [.str y] H k :=
  w_appS (W.get_ u.mem) hz (q _ (W.set u))
theorem l_popI {pre : List Int} {x : Int} (W : LS c h l hs cs H) (u : Upd1 cs a (.lst (iv (pre ++ [x]))) (.lst (iv pre)) cs') (q : ∀ H', LS c h l hs cs' H' → k (.int x) H') : rPop (.ref a) [] H k :=
  w_popI (W.get_ u.mem) (q _ (W.set u))
theorem l_ty {ys : List V} {R : Prop} (W : LS c h l hs cs H) (m : Has cs a (.lst ys)) (q : R) : tyV K "list" (.ref a) H ∧ R := w_ty (W.get m) q
theorem l_ixL {ys : List V} {i : Int} {v : V} (W : LS c h l hs cs H) (m : Has cs a (.lst ys)) (hi : atI ys i = some v) (q : Q v H) : rIxL K (.ref a) (.int i) H Q := w_ixL (W.get m) hi q
theorem l_len {ys : List V} (W : LS c h l hs cs H) (m : Has cs a (.lst ys)) (q : Q (.int (ys.length : Int)) H) : rLn K [V.ref a] H Q := w_lnG (W.get m) q
theorem l_lenI {ys : List Int} (W : LS c h l hs cs H) (m : Has cs a (.lst (iv ys))) (q : Q (.int (ys.length : Int)) H) : rLn K [V.ref a] H Q := w_lnG (W.get m) (by rw [iv_len]; exact q)
theorem l_neE {xs : List V} {q' : Addr} (W : LS c h l hs cs H) (m : Has cs a (.lst xs)) (m2 : Has cs q' (.lst [])) (z : Q (.bl (!decide (xs = []))) H) : rNeE (.ref a) (.ref q') H Q := w_neE (W.get m) (W.get m2) z
theorem l_setL {xs : List V} {i : Int} {v : V} {R : Hp → Prop} (W : LS c h l hs cs H) (u : Upd1 cs a (.lst xs) (.lst (xs.set i.toNat v)) cs') (h0 : 0 ≤ i) (h1 : i < xs.length) (q : ∀ H', LS c h l hs cs' H' → R H') : rSetL (.ref a) (.int i) v H R :=
  w_setL (W.get_ u.mem) h0 h1 (q _ (W.set u))
/-- a house is made -/
theorem l_house {n m : Nat} {gV : List V → List V → List V} {vs zs : List V} {mc ms : Int} (W : LS c h l hs cs H) (h1 : vs.length = n) (h2 : zs.length = m) (hg : ∀ x, gV (.ref x :: vs) zs = [.ref x, .int mc, .int ms])
    (q : ∀ p H', LS c h l ((p, newHouse mc ms) :: hs) cs H' → Q (.ref p) H') : MkN c.CH n m (spHouseInit c) gV E vs zs H Q :=
  w_mkHouse h1 h2 hg fun p H1 H0 L s0 W1 => q p H1 ⟨H0, _, L, rfl, rfl, W1, W.same s0⟩
theorem l_house0 {σ : L2.St} {mc ms : Int} (W : LS c h l hs cs H) (q : ∀ p H', LS c h l ((p, newHouse mc ms) :: hs) cs H' → Q (.ref p) H') : tMake c.CH (spHouseInit c) [.int mc, .int ms] E tNil σ H Q :=
  w_house0 fun p H1 H0 L s0 W1 => q p H1 ⟨H0, _, L, rfl, rfl, W1, W.same s0⟩
theorem l_self {m : Str} {sp : Sp} {dvs : List V} {t : TA} {σ : L2.St} {i : Nat} (W : LS c h l ((p, S) :: hs) cs H) (hσ : σ[i]? = some (some (.ref p))) (hm : hKeys.contains m = false) (q : t σ H fun vs H2 => sp (.ref p :: (vs ++ dvs)) H2 Q E) : tMeth c.CH m sp dvs E (tVar i) t σ H Q := by
  obtain ⟨J, S', L, e1, e2, W, r⟩ := W
  exact w_selfV W hσ hm q
theorem l_pile (W : LS c h l ((p, S) :: hs) cs H) (q : ∀ r H', LS c h l ((p, S) :: hs) ((r, .lst (iv S.stack)) :: cs) H' → Q (.ref r) H') : spPile c [.ref p] H Q E := by
  obtain ⟨J, S', L, e1, e2, W, r⟩ := W
  refine ⟨p, _, _, L, _, rfl, W, fun H1 r1 hr1 W => q r1 H1 ⟨_, S', L, e1, e2, W, ?_⟩⟩
  rw [← e1]
  exact r.new hr1
end
end WH
set_option Elab.async false
set_option linter.all false
set_option maxRecDepth 100000
set_option maxHeartbeats 1000000
namespace WH
open PySem PySem.Spec PyProof.Rows L2
/-! ### texts told to a house of the law's -/
/-- a text that is refused nothing -/
def Tells (n : Nat) (ws : List Str) (most : Int) (S S1 : MS) (t : List Int) : Prop := ∀ T, norm T = S → T.back = [] →
  ∃ T', wordsFrom n (ws.length + 1) { T with words := ws, at_ := 0, left := most } = .ok () T' ∧ norm T' = S1 ∧ T'.told.drop T.told.length = t
/-- one that is refused -/
def Refuses (n : Nat) (ws : List Str) (most : Int) (whole : Bool) (S S1 : MS) (e : Err) (place : Int) : Prop := ∀ T, norm T = S → T.back = [] →
  ∃ T', wordsFrom n (ws.length + 1) { T with words := ws, at_ := 0, left := most } = .err e T' ∧ T'.at_ = place ∧ (whole = false → StrikeOk T') ∧ norm (if whole then putBack T T' else strike T') = S1
def errP (place : Int) : Err → List (Str × V)
  | .noWord w => [("word", .str w), ("place", .int place)]
  | _ => [("place", .int place)]
theorem errP_of {T : MS} {place : Int} {e : Err} (h : T.at_ = place) : errV T e = errP place e := by
  subst h
  cases e <;> rfl
theorem Steps.tells {n k : Nat} {ws : List Str} {S S1 : MS} {most : Int} (h : Steps n ws k S S1) (hk : (k : Int) ≤ most) (ht : S1.told.drop S.told.length = t) : Tells n ws most S S1 t := fun T e hb => by
  subst e
  obtain ⟨T1, e1, n1, b1, w1, a1, _⟩ := h.run (f := 1) (T := { T with words := ws, at_ := 0, left := most }) (pre := []) (post := []) rfl hb (by
    show ws = [] ++ (ws ++ [])
    rw [List.append_nil, List.nil_append]) rfl hk
  refine ⟨T1, e1.trans ?_, n1, ?_⟩
  · show (if T1.at_ < (T1.words.length : Int) then _ else Out.ok () T1) = _
    rw [if_neg]
    rw [w1, a1]
    show ¬ (((0 + ws.length : Nat) : Int) < (ws.length : Int))
    omega
  · rw [← ht, ← n1]
    rfl
/-- a word that is refused -/
def StepE (n : Nat) (z : Str) (k : Nat) (S : MS) (e : Err) (ok : MS → MS → Prop) : Prop := ∀ T : MS, norm T = S → T.back = [] → (k : Int) ≤ T.left → ∃ T', oneWord n z T = .err e T' ∧ T'.at_ = T.at_ ∧ ok T T'
theorem Steps.refuses {n k j : Nat} {ws post : List Str} {z : Str} {S S1 S2 : MS} {most : Int} {whole : Bool} {e : Err} {ok : MS → MS → Prop} (h : Steps n ws k S S1) (hz : StepE n z j S1 e ok) (hk : (k : Int) + j ≤ most)
    (hq : ∀ T0 T T', norm T0 = S → norm T = S1 → ok T T' → (whole = false → StrikeOk T') ∧ norm (if whole then putBack T0 T' else strike T') = S2) : Refuses n (ws ++ z :: post) most whole S S2 e (ws.length : Int) := fun T e0 hb => by
  subst e0
  obtain ⟨T1, e1, n1, b1, w1, a1, l1⟩ := h.run (f := post.length + 2) (T := { T with words := ws ++ z :: post, at_ := 0, left := most }) (pre := []) (post := z :: post) rfl hb (by rw [List.nil_append]) rfl (by show (k : Int) ≤ most; omega)
  have l1' : most ≤ T1.left + k := l1
  obtain ⟨T2, e2, a2, o2⟩ := hz T1 n1 b1 (by omega)
  have ez : T1.words[T1.at_.toNat]? = some z := by
    rw [w1, a1, Int.toNat_natCast]
    show (ws ++ z :: post)[[].length + ws.length]? = _
    rw [List.length_nil, Nat.zero_add, List.getElem?_append_right (Nat.le_refl _), Nat.sub_self]
    rfl
  have hlt : T1.at_.toNat < T1.words.length := (List.getElem?_eq_some_iff.mp ez).1
  have h0 : 0 ≤ T1.at_ := by omega
  refine ⟨T2, ?_, ?_, (hq _ _ _ rfl n1 o2).1, (hq _ _ _ rfl n1 o2).2⟩
  · have ef : (ws ++ z :: post).length + 1 = ws.length + (post.length + 2) := by
      rw [List.length_append, List.length_cons]
      omega
    rw [ef, e1]
    show (if T1.at_ < (T1.words.length : Int) then _ else Out.ok () T1) = _
    rw [if_pos (by omega)]
    have em : must (fun s => decide (0 ≤ s.at_)) T1 = .ok () T1 := must_ok (decide_eq_true h0)
    refine (bind_ok em).trans ?_
    have eg : T1.words.getD T1.at_.toNat Str.empty = z := by
      rw [List.getD_eq_getElem?_getD, ez]
      rfl
    show M.bind (oneWord n (T1.words.getD T1.at_.toNat Str.empty)) _ T1 = _
    rw [eg]
    unfold M.bind
    rw [e2]
  · rw [a2, a1]
    show (([] : List Str).length + ws.length : Nat) = ((ws.length : Nat) : Int)
    simp
section
variable {c : Cn} {cls : Err → Addr} {h l a p : Addr} {hs : List (Addr × MS)} {cs cs' : Cells} {H : Hp} {S S1 : MS} {Q : VK} {E : XK} {n : Nat} {z : Str} {ws : List Str} {most : Int} {whole : Bool} {t : List Int} {e : Err} {place : Int}
theorem l_tell (W : LS c h l ((p, S) :: hs) cs H) (hz : Txt.words z = ws) (hl : z.length + 2 ≤ sizeLine) (hbk : S.book.length ≤ LIM) (st : Tells n ws most S S1 t)
    (q : ∀ r H', LS c h l ((p, S1) :: hs) ((r, .lst (iv t)) :: cs) H' → Q (.ref r) H') : spTell c cls (goInto n) [.ref p, .str z, .int most, .bl whole] H Q E := by
  obtain ⟨J, T, L, e1, e2, W, r⟩ := W
  obtain ⟨T', e3, e4, e5⟩ := st T e1 e2
  refine ⟨p, T, [], L, J, z, most, whole, rfl, W, hl, ?_, ?_⟩
  · have : T.book = S.book := by
      rw [← e1]
      rfl
    rw [this]
    exact hbk
  · rw [wordsFromG_eq, hz, e3]
    exact fun H1 L' r1 hr W' => q r1 H1 ⟨_, quiet T', L', e4, rfl, by rw [e5] at W'; exact W', r.new hr⟩
theorem l_tellE (W : LS c h l ((p, S) :: hs) cs H) (hz : Txt.words z = ws) (hl : z.length + 2 ≤ sizeLine) (hbk : S.book.length ≤ LIM) (st : Refuses n ws most whole S S1 e place)
    (q : ∀ d H', LS c h l ((p, S1) :: hs) ((d, .xd (errP place e)) :: cs) H' → E (.ref (cls e)) (some d) H') : spTell c cls (goInto n) [.ref p, .str z, .int most, .bl whole] H Q E := by
  obtain ⟨J, T, L, e1, e2, W, r⟩ := W
  obtain ⟨T', e3, e4, e5, e6⟩ := st T e1 e2
  refine ⟨p, T, [], L, J, z, most, whole, rfl, W, hl, ?_, ?_⟩
  · have : T.book = S.book := by
      rw [← e1]
      rfl
    rw [this]
    exact hbk
  · rw [wordsFromG_eq, hz, e3]
    refine ⟨e5, fun H1 L' d hd W' => q d H1 ⟨_, quiet (if whole then putBack T T' else strike T'), L', e6, rfl, W', ?_⟩⟩
    rw [errP_of e4]
    exact r.new hd
theorem l_here (W : LS c h l ((p, S) :: hs) cs H) (hz : (S.cells.length : Int) < 2 ^ 29) (q : ∀ H', LS c h l ((p, S) :: hs) cs H' → Q (.int (S.cells.length : Int)) H') : spHere c [.ref p] H Q E := by
  obtain ⟨J, T, L, e1, e2, W, r⟩ := W
  have e3 : T.cells = S.cells := by
    rw [← e1]
    rfl
  refine ⟨p, _, _, L, _, rfl, W, by rw [e3]; exact hz, fun H1 W => ?_⟩
  rw [e3]
  exact q H1 ⟨_, T, L, e1, e2, W, r⟩
theorem l_cell {i : Int} (W : LS c h l ((p, S) :: hs) cs H) (q : ∀ H', LS c h l ((p, S) :: hs) cs H' → Q (cellV S i) H') : spCell c [.ref p, .int i] H Q E := by
  obtain ⟨J, T, L, e1, e2, W, r⟩ := W
  have e3 : cellV T i = cellV S i := by
    rw [← e1]
    rfl
  refine ⟨p, _, _, L, _, i, rfl, W, fun H1 W => ?_⟩
  rw [e3]
  exact q H1 ⟨_, T, L, e1, e2, W, r⟩
theorem l_text {K : PySem.W.Frag} {ws : List Wd} (W : LS c h l hs cs H) (m : Has cs a (.lst (ws.map wv))) (hl : ws.length ≤ 1000) (hw : ∀ x ∈ ws, WdOk x) (q : ∀ H', LS c h l hs cs H' → Q (.str (Txt.join " " (ws.map wt))) H') : spLText K [.ref a] H Q E :=
  ⟨a, ws, rfl, W.get m, hl, fun x hx => (hw x hx).1, fun H' s => q H' (W.same s)⟩
theorem l_newW (ws : List Wd) (W : LS c h l hs cs H) (hz : ws.length ≤ 1000) (q : ∀ a H', LS c h l hs ((a, .lst (ws.map wv)) :: cs) H' → Q (.ref a) H') : rNewL (ws.map wv) H Q :=
  ⟨by rw [List.length_map]; exact Nat.le_trans hz (by decide), fun p hp => q p _ (W.new hp)⟩
/-- words of a law's text told -/
theorem l_tellW {xs : List Wd} {k : Nat} (W : LS c h l ((p, S) :: hs) cs H) (hx : ∀ y ∈ xs, WdOk y) (hm : xs.length ≤ 1000) (hbk : S.book.length ≤ LIM) (st : Steps n (xs.map wt) k S S1) (hk : (k : Int) ≤ most)
    (q : ∀ r H', LS c h l ((p, S1) :: hs) ((r, .lst (iv (S1.told.drop S.told.length))) :: cs) H' → Q (.ref r) H') : spTell c cls (goInto n) [.ref p, .str (Txt.join " " (xs.map wt)), .int most, .bl whole] H Q E :=
  l_tell W (wd_words fun x h => (hx x h).2) (wd_len (fun x h => (hx x h).1) hm) hbk (st.tells hk rfl) q
theorem l_alike {v u : V} (m : Nat) (W : LS c h l hs cs H) (al : Alike m H v u) (q : ∀ H', LS c h l hs cs H' → Q (.bl true) H') : spLAlike m [v, u] H Q E := ⟨v, u, rfl, al, fun H' s => q H' (W.same s)⟩
theorem l_alikeL {b a' : Addr} {xs ys : List V} {m : Nat} (W : LS c h l hs cs H) (h1 : Has cs a' (.lst xs)) (h2 : Has cs b (.lst ys)) (hl : xs.length ≤ 1000) (al : All2 (Alike m H) xs ys) : Alike (m + 1) H (.ref a') (.ref b) := .inr ⟨a', b, xs, ys, rfl, rfl, W.get h1, W.get h2, hl, al⟩
theorem alike_optV {m : Nat} {H : Hp} : ∀ xs : List V, (∀ x ∈ xs, FlatA x x) → All2 (Alike (m + 1) H) xs xs
  | [], _ => .nil
  | x :: r, h => .cons (.inl (h x List.mem_cons_self)) (alike_optV r fun y hy => h y (List.mem_cons_of_mem _ hy))
variable {K : PySem.W.Frag}
theorem l_eqE {xs : List V} {q' : Addr} (W : LS c h l hs cs H) (m : Has cs a (.lst xs)) (m2 : Has cs q' (.lst [])) (z : Q (.bl (decide (xs = []))) H) : rEqE (.ref a) (.ref q') H Q := ⟨a, q', xs, rfl, rfl, W.get m, W.get m2, z⟩
theorem l_cat {xs ys : List V} {b : Addr} (W : LS c h l hs cs H) (m : Has cs a (.lst xs)) (m2 : Has cs b (.lst ys)) (hz : xs.length + ys.length ≤ sizeLine) (q : ∀ r H', LS c h l hs ((r, .lst (xs ++ ys)) :: cs) H' → Q (.ref r) H') : rCat (.ref a) (.ref b) H Q :=
  ⟨a, b, xs, ys, rfl, rfl, W.get m, W.get m2, hz, fun p hp => q p _ (W.new hp)⟩
theorem l_catI {xs ys : List Int} {b : Addr} (W : LS c h l hs cs H) (m : Has cs a (.lst (iv xs))) (m2 : Has cs b (.lst (iv ys))) (hz : xs.length + ys.length ≤ sizeLine) (q : ∀ r H', LS c h l hs ((r, .lst (iv (xs ++ ys))) :: cs) H' → Q (.ref r) H') : rCat (.ref a) (.ref b) H Q :=
  l_cat W m m2 (by rw [iv_len, iv_len]; exact hz) fun r H' W' => q r H' (by rw [iv_app]; exact W')
theorem l_rep {xs : List V} {k : Int} (W : LS c h l hs cs H) (m : Has cs a (.lst xs)) (h1 : -(2 ^ 63) ≤ k) (h2 : k < 2 ^ 63) (hz : xs.length * k.toNat ≤ sizeLine) (q : ∀ r H', LS c h l hs ((r, .lst (List.replicate k.toNat xs).flatten) :: cs) H' → Q (.ref r) H') : rRep (.ref a) (.int k) H Q :=
  ⟨a, k, xs, rfl, rfl, W.get m, h1, h2, hz, fun p hp => q p _ (W.new hp)⟩
theorem w_mn2 {i j : Int} (q : Q (.int (if j < i then j else i)) H) : rMin2 [.int i, .int j] H Q := ⟨i, j, rfl, q⟩
theorem rep0 (k : Nat) : (List.replicate k [V.int 0]).flatten = iv (List.replicate k 0) := by
  induction k with
  | zero => rfl
  | succ n ih =>
    rw [List.replicate_succ, List.replicate_succ, List.flatten_cons, ih]
    rfl
theorem iv_set {xs : List Int} {i : Nat} {x : Int} : (iv xs).set i (.int x) = iv (xs.set i x) := (List.map_set ..).symm
theorem rounded_id {x : Int} (h1 : -32768 ≤ x) (h2 : x ≤ 32767) : rounded x = x := by
  unfold rounded
  omega
theorem rounded_eq (x : Int) : (x + 32768) % 65536 - 32768 = rounded x := by
  unfold rounded
  omega
def wordB (z : Str) : Bool := decide (z.length ≤ 20) && (!z.cps.toList.isEmpty && z.cps.toList.all fun c => !Unicode.isSpace c)
theorem wdB {z : Str} (h : wordB z = true) : WdOk (.inr z) := by
  unfold wordB at h
  simp only [Bool.and_eq_true, decide_eq_true_eq, Bool.not_eq_true', List.all_eq_true] at h
  refine wdS h.1 ⟨fun e => ?_, fun c hc => h.2.2 c hc⟩
  rw [e] at h
  cases h.2.1
theorem lenB {z : Str} (h : wordB z = true) : z.length + 2 ≤ sizeLine := by
  unfold wordB at h
  simp only [Bool.and_eq_true, decide_eq_true_eq] at h
  exact Nat.le_trans (Nat.add_le_add_right h.1 2) (by decide)
end
end WH
set_option Elab.async false
set_option linter.all false
set_option maxRecDepth 100000
set_option maxHeartbeats 1000000
namespace WH
open PySem PySem.Spec PyProof.Rows L2
/-! ### comprehensions and loops over a law's state -/
section
variable {c : Cn} {h l a : Addr} {hs : List (Addr × MS)} {cs : Cells} {H H1 : Hp} {Q : VK} {K : PySem.W.Frag} {lo : Int} {n k : Nat} {vs : List Nat} {σ : L2.St} {te : TE}
theorem w_lcQ {wi : TI} {g : TG} {tt : TT} {te : TE} {vs : List Nat} {σ : L2.St} {H : Hp} {Q : VK} (h : ∀ Q' : VK, (∀ x H, Q x H → Q' x H) → tLc wi g tt te vs σ H Q') : tLc wi g tt te vs σ H Q :=
  h Q fun _ _ z => z
/-- the list that is made, so far -/
def LcP (c : Cn) (h l : Addr) (hs : List (Addr × MS)) (cs : Cells) (P : Nat → List V → Prop) (D : Addr) (i : Nat) (H : Hp) : Prop := ∃ acc, acc.length = i ∧ P i acc ∧ LS c h l hs ((D, .lst acc) :: cs) H
/-- what an item is to reach -/
def LcK (c : Cn) (h l : Addr) (hs : List (Addr × MS)) (cs : Cells) (P : Nat → List V → Prop) (D : Addr) (i : Nat) : VK := fun y H4 => ∃ acc, H4 D = some (.lst acc) ∧ acc.length < sizeLine ∧ LcP c h l hs cs P D (i + 1) (upd H4 D (.lst (acc ++ [y])))
theorem lcK {P : Nat → List V → Prop} {D : Addr} {i : Nat} {acc : List V} {y : V} (W : LS c h l hs ((D, .lst acc) :: cs) H) (hl : acc.length = i) (hz : i < LIM) (hp : P (i + 1) (acc ++ [y])) : LcK c h l hs cs P D i y H :=
  ⟨acc, W.get .here, by rw [hl]; exact lim_lt hz, acc ++ [y], by rw [List.length_append, hl]; rfl, hp, W.set .here⟩
theorem l_lcR (P : Nat → List V → Prop) (W : LS c h l hs cs H1) (hP : P 0 []) (hw : ∀ v, wipe ((wipe σ vs).set k v) vs = wipe σ vs)
    (step : ∀ i D H' acc, i < n → acc.length = i → P i acc → LS c h l hs ((D, .lst acc) :: cs) H' → te ((wipe σ vs).set k (some (.int (lo + i)))) H' (LcK c h l hs cs P D i))
    (fin : ∀ D H' acc, acc.length = n → P n acc → LS c h l hs ((D, .lst acc) :: cs) H' → Q (.ref D) H') :
    ∀ D, H1 D = none → ∃ W : Nat → Nat → Hp → Prop, (∃ m, W 0 m (upd H1 D (.lst []))) ∧ ∀ i m H, W i m H → ((Itr lo n).stop i H ∧ Q (.ref D) H) ∨ ((Itr lo n).go i H ∧ ∃ Nx : Hp → Prop, (∀ H', Nx H' → ∃ m', m' < m ∧ W (i + 1) m' H') ∧
      ∀ x H', (Itr lo n).yld i H x H' → gName k x (wipe σ vs) H' fun σ2 H2 => wipe σ2 vs = wipe σ vs ∧ tYes σ2 H2 fun b H3 => if b = true then te σ2 H3 fun y H4 => ∃ acc, H4 D = some (.lst acc) ∧ acc.length < sizeLine ∧ Nx (upd H4 D (.lst (acc ++ [y]))) else Nx H3) := fun D hD =>
  lc_range (LcP c h l hs cs P D) ⟨[], rfl, hP, W.new hD⟩ (fun i H' hi ⟨acc, h1, h2, W⟩ => w_gn ⟨hw _, w_tYes (by
    rw [if_pos rfl]
    exact step i D H' acc hi h1 h2 W)⟩) fun H' ⟨acc, h1, h2, W⟩ => fin D H' acc h1 h2 W
theorem l_lcL {xs : List V} (P : Nat → List V → Prop) (W : LS c h l hs cs H1) (m : Has cs a (.lst xs)) (hP : P 0 []) (hw : ∀ v, wipe ((wipe σ vs).set k v) vs = wipe σ vs)
    (step : ∀ i x D H' acc, xs[i]? = some x → acc.length = i → P i acc → LS c h l hs ((D, .lst acc) :: cs) H' → te ((wipe σ vs).set k (some x)) H' (LcK c h l hs cs P D i))
    (fin : ∀ D H' acc, acc.length = xs.length → P xs.length acc → LS c h l hs ((D, .lst acc) :: cs) H' → Q (.ref D) H') :
    ∀ D, H1 D = none → ∃ W : Nat → Nat → Hp → Prop, (∃ m, W 0 m (upd H1 D (.lst []))) ∧ ∀ i m H, W i m H → ((Itl K a).stop i H ∧ Q (.ref D) H) ∨ ((Itl K a).go i H ∧ ∃ Nx : Hp → Prop, (∀ H', Nx H' → ∃ m', m' < m ∧ W (i + 1) m' H') ∧
      ∀ x H', (Itl K a).yld i H x H' → gName k x (wipe σ vs) H' fun σ2 H2 => wipe σ2 vs = wipe σ vs ∧ tYes σ2 H2 fun b H3 => if b = true then te σ2 H3 fun y H4 => ∃ acc, H4 D = some (.lst acc) ∧ acc.length < sizeLine ∧ Nx (upd H4 D (.lst (acc ++ [y]))) else Nx H3) := fun D hD =>
  lc_list (LcP c h l hs cs P D) ⟨[], rfl, hP, W.new hD⟩ (fun i H' _ ⟨acc, h1, h2, W⟩ => SqL.of (W.get (.there m))) (fun i x H' hx ⟨acc, h1, h2, W⟩ => w_gn ⟨hw _, w_tYes (by
    rw [if_pos rfl]
    exact step i x D H' acc hx h1 h2 W)⟩) fun H' ⟨acc, h1, h2, W⟩ => fin D H' acc h1 h2 W
/-- the items are f 0, f 1, .. -/
def AccF (f : Nat → V) (i : Nat) (acc : List V) : Prop := acc = (List.range i).map f
theorem accF0 {f : Nat → V} : AccF f 0 [] := rfl
theorem AccF.next {f : Nat → V} {i : Nat} {acc : List V} (h : AccF f i acc) : AccF f (i + 1) (acc ++ [f i]) := by
  unfold AccF at *
  rw [h, List.range_succ, List.map_append]
  rfl
end
end WH
set_option Elab.async false
set_option linter.all false
set_option maxRecDepth 100000
set_option maxHeartbeats 1000000
namespace WH
open PySem PySem.Spec PyProof.Rows L2
/-! ### words that are refused -/
theorem need_short {a m : Int} {S : MS} (h : (S.stack.length : Int) < a) : need a m S = .err .short S := by
  show (if (S.stack.length : Int) < a then Out.err .short S else _) = _
  rw [if_pos h]
theorem need_deep {a m : Int} {S : MS} (h1 : a ≤ (S.stack.length : Int)) (h2 : S.ms < (S.stack.length : Int) + m) : need a m S = .err .deep S := by
  show (if (S.stack.length : Int) < a then Out.err .short S else if S.ms < (S.stack.length : Int) + m then Out.err .deep S else _) = _
  rw [if_neg (by omega), if_pos h2]
theorem bind_err {α β : Type} {x : M α} {f : α → M β} {e : Err} {S S' : MS} (h : x S = .err e S') : M.bind x f S = .err e S' := by
  unfold M.bind
  rw [h]
/-- the state behind the refusal, up to the text's own fields -/
def Same0 (T T' : MS) : Prop := norm T' = norm T
theorem doPlain_short {S : MS} {z : Str} {a l : Int} (h : faces.lookup z = some (a, l)) (h1 : (S.stack.length : Int) < a) : doPlain z S = .err .short S := by
  unfold doPlain
  rw [h]
  exact bind_err (need_short h1)
theorem doPlain_deep {S : MS} {z : Str} {a l : Int} (h : faces.lookup z = some (a, l)) (h1 : a ≤ (S.stack.length : Int)) (h2 : S.ms < (S.stack.length : Int) + (l - a)) : doPlain z S = .err .deep S := by
  unfold doPlain
  rw [h]
  exact bind_err (need_deep h1 h2)
theorem doPlain_nought {S : MS} {z : Str} {a l : Int} (h : faces.lookup z = some (a, l)) (h1 : a ≤ (S.stack.length : Int)) (h2 : (S.stack.length : Int) + (l - a) ≤ S.ms) (hf : fitsBy z S = true)
    (hy : leftBy z (S.stack.drop (S.stack.length - a.toNat)) = none) : doPlain z S = .err .byNought S := by
  unfold doPlain
  rw [h]
  show M.bind (need a (l - a)) (fun _ => M.bind (must (fitsBy z)) fun _ => M.bind get' fun s => match leftBy z (s.stack.drop (s.stack.length - a.toNat)) with
    | none => fail .byNought
    | some ys => modify' fun s => { s with stack := s.stack.take (s.stack.length - a.toNat) ++ ys }) S = _
  refine (bind_ok (need_ok' h1 h2)).trans ?_
  refine (bind_ok (must_ok hf)).trans ?_
  refine bind_get.trans ?_
  rw [hy]
  rfl
theorem perform_err {n : Nat} {e : Ent} {S S1 : MS} {er : Err} (hk : e.kind = .deed) (hl : 1 ≤ S.left) (h : ∀ go, doDeed go e.name { S with spot := -1, left := S.left - 1 } = .err er S1) : perform n e S = .err er S1 := by
  show M.bind (setSpot (-1)) (fun _ => M.bind (enter n e) fun _ => M.bind get' fun s => runFrom n (s.left.toNat + 1)) S = _
  unfold setSpot
  refine bind_mod.trans ?_
  have e1 : enter n e { S with spot := -1 } = .err er S1 := by
    show (if S.left - 1 < 0 then _ else goInto n e { S with spot := -1, left := S.left - 1 }) = _
    rw [if_neg (by omega)]
    obtain ⟨go, eg⟩ := goInto_deed (n := n) (S := { S with spot := -1, left := S.left - 1 }) hk
    rw [eg, h go]
  exact bind_err e1
/-- a deed that is refused, the house as it was -/
theorem stepE_deed {n : Nat} {S : MS} {z : Str} {e : Err} (hd : IsDeed S z) (hm : S.mode = false) (h : ∀ go T, norm T = S → doDeed go z { T with spot := -1 } = .err e { T with spot := -1 }) : StepE n z 1 S e (fun T T' => Same0 T T') := fun T e0 hb hl => by
  subst e0
  obtain ⟨en, ek, e1, e2, e3⟩ := hd
  refine ⟨{ T with spot := -1, left := T.left - 1 }, ?_, rfl, rfl⟩
  have ek' : known T z = some en := ek
  have hm' : T.mode = false := hm
  unfold oneWord
  rw [ek']
  dsimp only
  rw [if_neg (fun q => by rw [hm'] at q; exact Bool.false_ne_true q.1)]
  refine perform_err e1 (by omega) fun go => ?_
  rw [e2]
  exact h go { T with left := T.left - 1 } rfl
theorem stepE_face {n : Nat} {S : MS} {z : Str} {a l : Int} {e : Err} (hd : IsDeed S z) (hm : S.mode = false) (hf : faces.lookup z = some (a, l)) (hw : ¬ z ∈ within) (h : ∀ T, norm T = S → doPlain z { T with spot := -1 } = .err e { T with spot := -1 }) : StepE n z 1 S e (fun T T' => Same0 T T') :=
  stepE_deed hd hm fun go T e0 => by
    show (if z ∈ within ∧ (-1 : Int) = -1 then _ else if z ∈ faces.map (·.1) then doPlain z else _ : M Unit) { T with spot := -1 } = _
    rw [if_neg (fun q => hw q.1), if_pos (face_in hf)]
    exact h T e0
theorem stepE_short {n : Nat} {S : MS} {z : Str} {a l : Int} (hd : IsDeed S z) (hm : S.mode = false) (hf : faces.lookup z = some (a, l)) (hw : ¬ z ∈ within) (h : (S.stack.length : Int) < a) : StepE n z 1 S .short (fun T T' => Same0 T T') :=
  stepE_face hd hm hf hw fun T e0 => by
    subst e0
    exact doPlain_short (S := { T with spot := -1 }) hf h
theorem stepE_deep {n : Nat} {S : MS} {z : Str} {a l : Int} (hd : IsDeed S z) (hm : S.mode = false) (hf : faces.lookup z = some (a, l)) (hw : ¬ z ∈ within) (h1 : a ≤ (S.stack.length : Int)) (h2 : S.ms < (S.stack.length : Int) + (l - a)) : StepE n z 1 S .deep (fun T T' => Same0 T T') :=
  stepE_face hd hm hf hw fun T e0 => by
    subst e0
    exact doPlain_deep (S := { T with spot := -1 }) hf h1 h2
theorem stepE_nought {n : Nat} {S : MS} {z : Str} {a l : Int} {pre xs : List Int} (hd : IsDeed S z) (hm : S.mode = false) (hf : faces.lookup z = some (a, l)) (hw : ¬ z ∈ within) (hst : S.stack = pre ++ xs) (ha : (xs.length : Int) = a) (h2 : (S.stack.length : Int) + (l - a) ≤ S.ms) (hl : S.stack.length < LIM)
    (hx : ∀ x ∈ xs, -32768 ≤ x ∧ x ≤ 32767) (hx2 : ∀ x ∈ pre, -32768 ≤ x ∧ x ≤ 32767) (hy : leftBy z xs = none) : StepE n z 1 S .byNought (fun T T' => Same0 T T') :=
  stepE_face hd hm hf hw fun T e0 => by
    subst e0
    have hst : T.stack = pre ++ xs := hst
    have e1 : T.stack.length - a.toNat = pre.length := by rw [hst, List.length_append]; omega
    have e2 : T.stack.drop (T.stack.length - a.toNat) = xs := by rw [e1, hst, List.drop_left]
    refine doPlain_nought (S := { T with spot := -1 }) hf (by show a ≤ (T.stack.length : Int); rw [hst, List.length_append]; omega) h2 ?_ (by rw [show ({ T with spot := -1 } : MS).stack = T.stack from rfl, e2]; exact hy)
    unfold fitsBy
    rw [Bool.and_eq_true]
    refine ⟨decide_eq_true hl, List.all_eq_true.mpr fun x hq => ?_⟩
    have hq2 : x ∈ pre ++ xs := by
      rw [← hst]
      exact List.mem_of_mem_drop hq
    have : -32768 ≤ x ∧ x ≤ 32767 := by
      rcases List.mem_append.mp hq2 with q | q
      · exact hx2 x q
      · exact hx x q
    rw [Bool.and_eq_true, decide_eq_true_iff, decide_eq_true_iff]
    exact ⟨by omega, by omega⟩
/-- a number for which there is no room -/
theorem stepE_num {n : Nat} {S : MS} {z : Str} {x : Int} (h : numberOf z = some x) (hk : known S z = none) (hz : z.length ≤ LIM) (hm : S.mode = false) (hs : S.ms < (S.stack.length : Int) + 1) : StepE n z 0 S .deep (fun T T' => Same0 T T') := fun T e0 hb hl => by
  subst e0
  refine ⟨T, ?_, rfl, rfl⟩
  have hk' : known T z = none := hk
  have hm' : T.mode = false := hm
  unfold oneWord
  rw [hk']
  dsimp only
  rw [if_pos hz, h]
  dsimp only
  rw [if_neg (by rw [hm']; exact Bool.false_ne_true)]
  exact bind_err (need_deep (by omega) hs)
/-- no word, no number -/
theorem stepE_noWord {n : Nat} {S : MS} {z : Str} (h : numberOf z = none) (hk : known S z = none) (hz : z.length ≤ LIM) : StepE n z 0 S (.noWord z) (fun T T' => Same0 T T') := fun T e0 hb hl => by
  subst e0
  refine ⟨T, ?_, rfl, rfl⟩
  have hk' : known T z = none := hk
  unfold oneWord
  rw [hk']
  dsimp only
  rw [if_pos hz, h]
/-- a plain house: no row is open -/
structure Idle (S : MS) : Prop where
  mode : S.mode = false
  op : S.opened = none
  ties : S.ties = []
/-- a text that ends with a refused word, at a plain house; told whole: the house is as it was -/
theorem Steps.refW {n k j : Nat} {ws post : List Str} {z : Str} {S S1 : MS} {most : Int} {e : Err} (h : Steps n ws k S S1) (hz : StepE n z j S1 e fun T T' => Same0 T T') (hk : (k : Int) + j ≤ most) (hmc : S1.mc = S.mc) (hms : S1.ms = S.ms) (hmd : S1.many = S.many) : Refuses n (ws ++ z :: post) most true S S e (ws.length : Int) :=
  h.refuses (ok := fun T T' => Same0 T T') hz hk fun T0 T T' e0 e1 e2 => ⟨(fun z => nomatch z), by
    subst e0
    have e3 : norm T' = S1 := e2.trans e1
    show norm (putBack T0 T') = norm T0
    have a1 : T'.mc = T0.mc := (congrArg MS.mc e3).trans hmc
    have a2 : T'.ms = T0.ms := (congrArg MS.ms e3).trans hms
    have a3 : T'.many = T0.many := (congrArg MS.many e3).trans hmd
    unfold norm putBack
    rw [a1, a2, a3]⟩
/-- told in part -/
theorem Steps.refP {n k j : Nat} {ws post : List Str} {z : Str} {S S1 : MS} {most : Int} {e : Err} (h : Steps n ws k S S1) (hz : StepE n z j S1 e fun T T' => Same0 T T') (hk : (k : Int) + j ≤ most) (hi : Idle S1) (hc : S1.cells.length ≤ LIM) : Refuses n (ws ++ z :: post) most false S S1 e (ws.length : Int) :=
  h.refuses hz hk fun T0 T T' e0 e1 e2 => by
    have e3 : norm T' = S1 := e2.trans e1
    subst e3
    have ho : T'.opened = none := hi.op
    refine ⟨fun _ => ⟨hc, fun x hx => ?_⟩, ?_⟩
    · rw [ho] at hx
      cases hx
    · show norm (strike T') = norm T'
      have h2 : T'.mode = false := hi.mode
      have h3 : T'.ties = [] := hi.ties
      unfold strike cutOpen norm
      rw [ho, h2, h3]
end WH
set_option Elab.async false
set_option linter.all false
set_option maxRecDepth 100000
set_option maxHeartbeats 1000000
namespace WH
open PySem PySem.Spec PyProof.Rows L2
/-! ### more of a law's state: lists compared item by item, piles of texts -/
section
variable {c : Cn} {cls : Err → Addr} {h l a b p : Addr} {hs : List (Addr × MS)} {cs cs' : Cells} {H : Hp} {S S1 : MS} {Q : VK} {E : XK} {n : Nat} {K : PySem.W.Frag}
theorem dpAll_ints {H : Hp} : ∀ xs : List Int, DpAll K H (iv xs) (xs.map PyData.int)
  | [] => .nil
  | x :: r => .cons (.int x) (dpAll_ints r)
theorem dp_ints {xs : List Int} (ha : H a = some (.lst (iv xs))) : Dp K H (.ref a) (.list (xs.map PyData.int)) := .lst (SqL.of ha) (dpAll_ints xs)
theorem eqvAll_ints : ∀ xs ys : List Int, PyData.eqvAll (xs.map PyData.int) (ys.map PyData.int) = decide (xs = ys)
  | [], [] => rfl
  | [], y :: r => by
    show false = decide (([] : List Int) = y :: r)
    rw [decide_eq_false (by intro z; cases z)]
  | x :: r, [] => by
    show false = decide (x :: r = ([] : List Int))
    rw [decide_eq_false (by intro z; cases z)]
  | x :: r, y :: q => by
    show (x == y && PyData.eqvAll (r.map PyData.int) (q.map PyData.int)) = decide (x :: r = y :: q)
    rw [eqvAll_ints r q]
    by_cases h1 : x = y
    · by_cases h2 : r = q
      · rw [decide_eq_true h2, decide_eq_true (by rw [h1, h2]), h1]
        simp
      · rw [decide_eq_false h2, decide_eq_false (fun z => h2 (List.cons.inj z).2), Bool.and_false]
    · rw [decide_eq_false (fun z => h1 (List.cons.inj z).1)]
      have : (x == y) = false := by simpa using h1
      rw [this, Bool.false_and]
theorem lay_ints : ∀ xs : List Int, PyData.canLayAll0 (xs.map PyData.int) = true
  | [] => rfl
  | x :: r => lay_ints r
theorem depth_ints : ∀ xs : List Int, PyData.depthAll (xs.map PyData.int) ≤ 1
  | [] => Nat.zero_le _
  | x :: r => by
    have := depth_ints r
    show max (PyData.depth (.int x)) (PyData.depthAll (r.map PyData.int)) ≤ 1
    have e : PyData.depth (.int x) = 0 := rfl
    omega
theorem shaped_ints (xs : List Int) : SeqAt.shaped (.list (xs.map PyData.int)) = true := by
  unfold SeqAt.shaped
  rw [Bool.and_eq_true]
  refine ⟨lay_ints xs, decide_eq_true ?_⟩
  have := depth_ints xs
  show PyData.depthAll (xs.map PyData.int) + 1 ≤ 64
  omega
theorem l_neDI {xs ys : List Int} (W : LS c h l hs cs H) (m : Has cs a (.lst (iv xs))) (m2 : Has cs b (.lst (iv ys))) (q : Q (.bl (!decide (xs = ys))) H) : rNeD K (.ref a) (.ref b) H Q :=
  ⟨_, _, dp_ints (W.get m), dp_ints (W.get m2), shaped_ints _, shaped_ints _, by
    show Q (.bl (!PyData.eqvAll (xs.map PyData.int) (ys.map PyData.int))) H
    rw [eqvAll_ints]
    exact q⟩
theorem l_eqDI {xs ys : List Int} (W : LS c h l hs cs H) (m : Has cs a (.lst (iv xs))) (m2 : Has cs b (.lst (iv ys))) (q : Q (.bl (decide (xs = ys))) H) : rEqD K (.ref a) (.ref b) H Q :=
  ⟨_, _, dp_ints (W.get m), dp_ints (W.get m2), shaped_ints _, shaped_ints _, by
    show Q (.bl (PyData.eqvAll (xs.map PyData.int) (ys.map PyData.int))) H
    rw [eqvAll_ints]
    exact q⟩
theorem l_unpack2 {u v : V} {i j k : Nat} {σ : L2.St} {R : L2.St → Hp → Prop} (W : LS c h l hs cs H) (m : Has cs a (.lst [u, v])) (hk : k = 2) (q : R ((σ.set i (some u)).set j (some v)) H) : gLst K k (gCons (gName i) (gCons (gName j) gNil)) (.ref a) σ H R := by
  subst hk
  exact ⟨a, _, rfl, SqL.of (W.get m), rfl, _, _, rfl, _, _, rfl, rfl, q⟩
theorem w_leT {i j : Int} (z : i ≤ j) (q : Q (.bl true) H) : rI0 (fun i j => .bl (decide (i ≤ j))) (.int i) (.int j) H Q := ⟨i, j, rfl, rfl, by show Q (.bl (decide (i ≤ j))) H; rw [decide_eq_true z]; exact q⟩
theorem w_ltT {i j : Int} (z : i < j) (q : Q (.bl true) H) : rI0 (fun i j => .bl (decide (i < j))) (.int i) (.int j) H Q := ⟨i, j, rfl, rfl, by show Q (.bl (decide (i < j))) H; rw [decide_eq_true z]; exact q⟩
theorem w_mulS {i j : Int} (z : -(2 ^ 64) < i ∧ i < 2 ^ 64) (q : Q (.int (i * j)) H) : rI CMul (fun i j => .int (i * j)) (.int i) (.int j) H Q := ⟨i, j, rfl, rfl, .inl z, q⟩
theorem w_fdivS {i j : Int} (z : j ≠ 0) (z2 : j.natAbs < 1073741824) (q : Q (.int (i.fdiv j)) H) : rI CDivN (fun i j => .int (i.fdiv j)) (.int i) (.int j) H Q := ⟨i, j, rfl, rfl, ⟨z, z2⟩, q⟩
theorem w_fmodS {i j : Int} (z : j ≠ 0) (q : Q (.int (i.fmod j)) H) : rI (fun _ j => j ≠ 0) (fun i j => .int (i.fmod j)) (.int i) (.int j) H Q := ⟨i, j, rfl, rfl, z, q⟩
theorem w_abs {i : Int} (q : Q (.int (if i < 0 then -i else i)) H) : (fun xs H Q => ∃ i, xs = [V.int i] ∧ Q (V.int (if i < 0 then -i else i)) H : List V → Hp → VK → Prop) [.int i] H Q := ⟨i, rfl, q⟩
/-- a list unpacked -/
theorem l_unpack {xs : List V} {k : Nat} {t : TGs} {σ : L2.St} {R : L2.St → Hp → Prop} (W : LS c h l hs cs H) (m : Has cs a (.lst xs)) (hl : xs.length = k) (q : t xs σ H R) : gLst K k t (.ref a) σ H R :=
  ⟨a, xs, rfl, SqL.of (W.get m), hl, q⟩
theorem same_upd {H H' : Hp} {r : Addr} {o : HO} (s : Same H H') (h : H' r = some o) : Same (upd H r o) H' := fun b u q => by
  by_cases e : b = r
  · subst e
    rw [upd_same] at q
    cases q
    exact h
  · rw [upd_ne e] at q
    exact s _ _ q
end
end WH
set_option Elab.async false
set_option linter.all false
set_option maxRecDepth 100000
set_option maxHeartbeats 1000000
namespace WH
open PySem PySem.Spec PyProof.Rows L2
/-! ### rows that are done: cell by cell -/
/-- a house while a row is done, apart from the text that is told -/
def cfg (T : MS) : MS := { T with words := [], at_ := 0, left := 0 }
def Runs (n k : Nat) (C C' : MS) : Prop := ∀ T, cfg T = C → (k : Int) ≤ T.left → ∃ T', (∀ f, runFrom n (f + k) T = runFrom n f T') ∧ cfg T' = C' ∧ T'.words = T.words ∧ T'.at_ = T.at_ ∧ T'.left = T.left - k
theorem Runs.nil {n : Nat} {C : MS} : Runs n 0 C C := fun T e _ => ⟨T, fun f => rfl, e, rfl, rfl, by omega⟩
theorem Runs.app {n k j : Nat} {C C1 C2 : MS} (a : Runs n k C C1) (b : Runs n j C1 C2) : Runs n (k + j) C C2 := fun T e hl => by
  obtain ⟨T1, r1, e1, w1, a1, l1⟩ := a T e (by omega)
  obtain ⟨T2, r2, e2, w2, a2, l2⟩ := b T1 e1 (by omega)
  refine ⟨T2, fun f => ?_, e2, w2.trans w1, a2.trans a1, by omega⟩
  have : f + (k + j) = (f + j) + k := by omega
  rw [this, r1, r2]
/-- cell sp holds the number of the deed z -/
def At (C : MS) (sp : Int) (z : Str) : Prop := ∃ m e, 0 ≤ sp ∧ sp < (C.cells.length : Int) ∧ cellAt C sp = m ∧ 0 ≤ m ∧ C.book[m.toNat]? = some e ∧ e.kind = .deed ∧ e.name = z
theorem At.with_ {C D : MS} {sp : Int} {z : Str} (h : At C sp z) (h1 : D.cells = C.cells) (h2 : D.book = C.book) : At D sp z := by
  unfold At cellAt at *
  rw [h1, h2]
  exact h
theorem entry_ok {S : MS} {m : Int} {e : Ent} (h0 : 0 ≤ m) (h : S.book[m.toNat]? = some e) : entryAt m S = .ok e S := by
  have h1 : m < (S.book.length : Int) := by
    obtain ⟨q, _⟩ := List.getElem?_eq_some_iff.mp h
    omega
  unfold entryAt
  rw [if_pos ⟨h0, h1⟩, h]
theorem cellN_ok {S : MS} {a : Int} (h0 : 0 ≤ a) (h1 : a < (S.cells.length : Int)) : needCell a S = .ok () S := by
  unfold needCell
  rw [if_pos ⟨h0, h1⟩]
/-- one cell is done -/
theorem run_cell {n : Nat} {T T' : MS} {sp m : Int} {e : Ent} (hs : T.spot = sp) (h0 : 0 ≤ sp) (h1 : sp < (T.cells.length : Int)) (hm : cellAt T sp = m) (hm0 : 0 ≤ m) (hb : T.book[m.toNat]? = some e) (hl : 1 ≤ T.left)
    (h : goInto n e { T with spot := sp + 1, left := T.left - 1 } = .ok () T') (f : Nat) : runFrom n (f + 1) T = runFrom n f T' := by
  show (if T.spot = -1 then Out.ok () T else M.bind (needCell T.spot) (fun _ => M.bind (entryAt (cellAt T T.spot)) fun e => M.bind (modify' fun s => { s with spot := s.spot + 1 }) fun _ => M.bind (enter n e) fun _ => runFrom n f) T) = _
  rw [if_neg (by omega), hs, hm]
  refine (bind_ok (cellN_ok h0 h1)).trans ?_
  refine (bind_ok (entry_ok hm0 hb)).trans ?_
  refine bind_mod.trans ?_
  have e1 : enter n e { T with spot := T.spot + 1 } = .ok () T' := by
    show (if T.left - 1 < 0 then _ else goInto n e { T with spot := T.spot + 1, left := T.left - 1 }) = _
    rw [if_neg (by omega), hs]
    exact h
  exact bind_ok e1
theorem run_deed {n : Nat} {C C' : MS} {sp : Int} {z : Str} (hP : At C sp z) (hs : C.spot = sp) (g : MS → MS) (h : ∀ go T, cfg T = { C with spot := sp + 1 } → doDeed go z T = .ok () (g T))
    (h2 : ∀ T, cfg T = { C with spot := sp + 1 } → cfg (g T) = C' ∧ (g T).words = T.words ∧ (g T).at_ = T.at_ ∧ (g T).left = T.left) : Runs n 1 C C' := fun T e hl => by
  subst e
  obtain ⟨m, en, p1, p2, p3, p4, p5, p6, p7⟩ := hP
  have e2 : cfg { T with spot := sp + 1, left := T.left - 1 } = { cfg T with spot := sp + 1 } := rfl
  obtain ⟨q1, q2, q3, q4⟩ := h2 { T with spot := sp + 1, left := T.left - 1 } e2
  refine ⟨g { T with spot := sp + 1, left := T.left - 1 }, fun f => ?_, q1, q2, q3, ?_⟩
  · obtain ⟨go, eg⟩ := goInto_deed (n := n) (S := { T with spot := sp + 1, left := T.left - 1 }) p6
    refine run_cell (T := T) (e := en) (m := m) hs p1 p2 p3 p4 p5 (by omega) ?_ f
    rw [eg, p7]
    exact h go _ e2
  · rw [q4]
    show T.left - 1 = T.left - ((1 : Nat) : Int)
    rfl
/-- a word whose row is done -/
theorem step_row {n k : Nat} {S S' : MS} {z : Str} {e : Ent} (he : known S z = some e) (hk : e.kind = .row) (hn : e.now = false) (hm : S.mode = false)
    (r : Runs n k { S with spot := e.start, back := [-1] } { S' with spot := -1, back := [] }) : Step n z (1 + k) S { S' with spot := -1, back := [] } := fun T e0 hb hl => by
  subst e0
  have hm' : T.mode = false := hm
  have he' : known T z = some e := he
  obtain ⟨T1, r1, c1, w1, a1, l1⟩ := r { T with spot := e.start, back := [-1], left := T.left - 1 } rfl (by show (k : Int) ≤ T.left - 1; omega)
  have s1 : T1.spot = -1 := congrArg MS.spot c1
  have b1 : T1.back = [] := congrArg MS.back c1
  refine ⟨T1, ?_, ?_, w1, a1, ?_⟩
  · unfold oneWord
    rw [he']
    dsimp only
    rw [if_neg (fun q => by rw [hm'] at q; exact Bool.false_ne_true q.1)]
    show M.bind (setSpot (-1)) (fun _ => M.bind (enter n e) fun _ => M.bind get' fun s => runFrom n (s.left.toNat + 1)) T = _
    unfold setSpot
    refine bind_mod.trans ?_
    have e1 : enter n e { T with spot := -1 } = .ok () { T with spot := e.start, back := [-1], left := T.left - 1 } := by
      show (if T.left - 1 < 0 then _ else goInto n e { T with spot := -1, left := T.left - 1 }) = _
      rw [if_neg (by omega)]
      have e3 : ∃ go, goInto n e = goWith go e := by
        cases n with
        | zero => exact ⟨_, rfl⟩
        | succ m => exact ⟨_, rfl⟩
      obtain ⟨go, e3⟩ := e3
      rw [e3]
      unfold goWith
      rw [hk]
      show goTo e _ = _
      unfold goTo goBegins goIn
      rw [if_neg (by rw [hk]; decide), if_pos hk]
      show M.bind (needSide 0 1) _ _ = _
      have e4 : needSide 0 1 { T with spot := -1, left := T.left - 1 } = .ok () { T with spot := -1, left := T.left - 1 } := by
        unfold needSide
        dsimp only
        rw [hb]
        rfl
      refine (bind_ok e4).trans ?_
      show Out.ok () { T with spot := e.start, back := T.back ++ [-1], left := T.left - 1 } = _
      rw [hb]
      rfl
    refine (bind_ok e1).trans ?_
    refine bind_get.trans ?_
    have ef : (T.left - 1).toNat + 1 = ((T.left - 1).toNat - k + 1) + k := by omega
    show runFrom n ((T.left - 1).toNat + 1) _ = _
    rw [ef, r1]
    show (if T1.spot = -1 then Out.ok () T1 else _) = _
    rw [if_pos s1]
  · rw [← c1]
    show { T1 with words := [], at_ := 0, left := 0, spot := -1, back := [] } = { T1 with words := [], at_ := 0, left := 0 }
    obtain ⟨_, _, _, _, _, _, _, _, _, _, _, _, _, _, _⟩ := T1
    dsimp only at s1 b1
    subst s1 b1
    rfl
  · have l1' : T1.left = T.left - 1 - k := l1
    omega
end WH
set_option Elab.async false
set_option linter.all false
set_option maxRecDepth 100000
set_option maxHeartbeats 1000000
namespace WH
open PySem PySem.Spec PyProof.Rows L2
/-! ### what each deed does within a row -/
theorem cf_st {T C : MS} {sp : Int} (e : cfg T = { C with spot := sp }) : T.stack = C.stack := by
  have h : (cfg T).stack = ({ C with spot := sp } : MS).stack := by rw [e]
  exact h
theorem cf_ms {T C : MS} {sp : Int} (e : cfg T = { C with spot := sp }) : T.ms = C.ms := by
  have h : (cfg T).ms = ({ C with spot := sp } : MS).ms := by rw [e]
  exact h
theorem cf_ce {T C : MS} {sp : Int} (e : cfg T = { C with spot := sp }) : T.cells = C.cells := by
  have h : (cfg T).cells = ({ C with spot := sp } : MS).cells := by rw [e]
  exact h
theorem cf_bk {T C : MS} {sp : Int} (e : cfg T = { C with spot := sp }) : T.back = C.back := by
  have h : (cfg T).back = ({ C with spot := sp } : MS).back := by rw [e]
  exact h
theorem cf_sp {T C : MS} {sp : Int} (e : cfg T = { C with spot := sp }) : T.spot = sp := by
  have h : (cfg T).spot = ({ C with spot := sp } : MS).spot := by rw [e]
  exact h
theorem cf_bo {T C : MS} {sp : Int} (e : cfg T = { C with spot := sp }) : T.book = C.book := by
  have h : (cfg T).book = ({ C with spot := sp } : MS).book := by rw [e]
  exact h
theorem cf_to {T C : MS} {sp : Int} (e : cfg T = { C with spot := sp }) : T.told = C.told := by
  have h : (cfg T).told = ({ C with spot := sp } : MS).told := by rw [e]
  exact h
theorem doDeed_in {go : Ent → M Unit} {z : Str} {T : MS} (h : T.spot ≠ -1) : doDeed go z T = (if z ∈ faces.map (·.1) then doPlain z else if z ∈ paired then doPaired z else if z ∈ sidewise then doSide z else if z ∈ storing then doCells z else doOther go z : M Unit) T := by
  show (if z ∈ within ∧ T.spot = -1 then fail .onlyWithin else if z ∈ faces.map (·.1) then doPlain z else if z ∈ paired then doPaired z else if z ∈ sidewise then doSide z else if z ∈ storing then doCells z else doOther go z : M Unit) T = _
  rw [if_neg (fun q => h q.2)]
theorem side_ok {a m : Int} {S : MS} (h1 : a ≤ (S.back.length : Int)) (h2 : (S.back.length : Int) + m ≤ 32) : needSide a m S = .ok () S := by
  unfold needSide
  rw [if_neg (by omega), if_neg (by omega)]
section
variable {n : Nat} {C : MS} {sp x y : Int} {z : Str} {pre bk : List Int}
theorem run_face {a l : Int} {xs ys : List Int} (hP : At C sp z) (hs : C.spot = sp) (hf : faces.lookup z = some (a, l)) (hst : C.stack = pre ++ xs) (ha : (xs.length : Int) = a) (h2 : (C.stack.length : Int) + (l - a) ≤ C.ms) (hl : C.stack.length < LIM)
    (hx : ∀ x ∈ xs, -32768 ≤ x ∧ x ≤ 32767) (hx2 : ∀ x ∈ pre, -32768 ≤ x ∧ x ≤ 32767) (hy : leftBy z xs = some ys) : Runs n 1 C { C with spot := sp + 1, stack := pre ++ ys } := by
  have hp0 : 0 ≤ sp := by obtain ⟨_, _, p1, _⟩ := hP; exact p1
  refine run_deed hP hs (fun T => { T with stack := pre ++ ys }) (fun go T e => ?_) (fun T e => ⟨by show { cfg T with stack := pre ++ ys } = _; rw [e], rfl, rfl, rfl⟩)
  have s1 : T.spot = sp + 1 := cf_sp e
  have hst : T.stack = pre ++ xs := (cf_st e).trans hst
  have hst0 : T.stack = C.stack := cf_st e
  have hms : T.ms = C.ms := cf_ms e
  rw [doDeed_in (by omega), if_pos (face_in hf)]
  have e1 : T.stack.length - a.toNat = pre.length := by rw [hst, List.length_append]; omega
  have e2 : T.stack.drop (T.stack.length - a.toNat) = xs := by rw [e1, hst, List.drop_left]
  have e3 : T.stack.take (T.stack.length - a.toNat) = pre := by rw [e1, hst, List.take_left]
  have := doPlain_ok (S := T) hf (by rw [hst, List.length_append]; omega) (by rw [hst0, hms]; exact h2) (by
    unfold fitsBy
    rw [Bool.and_eq_true]
    refine ⟨decide_eq_true (by rw [hst0]; exact hl), List.all_eq_true.mpr fun x hq => ?_⟩
    have hq2 : x ∈ pre ++ xs := by
      rw [← hst]
      exact List.mem_of_mem_drop hq
    have : -32768 ≤ x ∧ x ≤ 32767 := by
      rcases List.mem_append.mp hq2 with q | q
      · exact hx2 x q
      · exact hx x q
    rw [Bool.and_eq_true, decide_eq_true_iff, decide_eq_true_iff]
    exact ⟨by omega, by omega⟩) (by rw [e2]; exact hy)
  rw [this, e3]
theorem run_lit (hP : At C sp "(lit)") (hs : C.spot = sp) (h1 : sp + 1 < (C.cells.length : Int)) (hx : cellAt C (sp + 1) = x) (h2 : (C.stack.length : Int) + 1 ≤ C.ms) (hl : C.stack.length < LIM) : Runs n 1 C { C with spot := sp + 2, stack := C.stack ++ [x] } := by
  have hp0 : 0 ≤ sp := by obtain ⟨_, _, p1, _⟩ := hP; exact p1
  refine run_deed hP hs (fun T => { T with stack := T.stack ++ [x], spot := T.spot + 1 }) (fun go T e => ?_) (fun T e => ⟨?_, rfl, rfl, rfl⟩)
  · have s1 : T.spot = sp + 1 := cf_sp e
    have hst0 : T.stack = C.stack := cf_st e
    have hms : T.ms = C.ms := cf_ms e
    have hc : T.cells = C.cells := cf_ce e
    rw [doDeed_in (by omega), if_neg (by decide +kernel), if_pos (by decide +kernel)]
    show M.bind get' (fun s => M.bind (needCell s.spot) fun _ => _) T = _
    refine bind_get.trans ?_
    refine (bind_ok (cellN_ok (by omega) (by rw [hc]; omega))).trans ?_
    show M.bind (need 0 1) (fun _ => M.bind (push (cellAt T T.spot)) fun _ => modify' fun s => { s with spot := s.spot + 1 }) T = _
    refine (bind_ok (need_ok' (by omega) (by rw [hst0, hms]; omega))).trans ?_
    refine (bind_ok (push_ok (by rw [hst0]; exact hl))).trans ?_
    have e4 : cellAt T T.spot = x := by
      rw [s1, ← hx]
      unfold cellAt
      rw [hc]
    rw [e4]
    rfl
  · have s1 : T.spot = sp + 1 := cf_sp e
    have hst0 : T.stack = C.stack := cf_st e
    show { cfg T with stack := T.stack ++ [x], spot := T.spot + 1 } = _
    rw [e, s1, hst0, show sp + 1 + 1 = sp + 2 by omega]
theorem run_jump (hP : At C sp "(jump)") (hs : C.spot = sp) (h1 : sp + 1 < (C.cells.length : Int)) (hx : cellAt C (sp + 1) = x) : Runs n 1 C { C with spot := x } := by
  have hp0 : 0 ≤ sp := by obtain ⟨_, _, p1, _⟩ := hP; exact p1
  refine run_deed hP hs (fun T => { T with spot := x }) (fun go T e => ?_) (fun T e => ⟨by show { cfg T with spot := x } = _; rw [e], rfl, rfl, rfl⟩)
  have s1 : T.spot = sp + 1 := cf_sp e
  have hc : T.cells = C.cells := cf_ce e
  rw [doDeed_in (by omega), if_neg (by decide +kernel), if_pos (by decide +kernel)]
  show M.bind get' (fun s => M.bind (needCell s.spot) fun _ => _) T = _
  refine bind_get.trans ?_
  refine (bind_ok (cellN_ok (by omega) (by rw [hc]; omega))).trans ?_
  show Out.ok () { T with spot := cellAt T T.spot } = _
  have e4 : cellAt T T.spot = x := by
    rw [s1, ← hx]
    unfold cellAt
    rw [hc]
  rw [e4]
theorem run_bare (hP : At C sp "(bare)") (hs : C.spot = sp) (h1 : sp + 1 < (C.cells.length : Int)) (hx : cellAt C (sp + 1) = x) (hst : C.stack = pre ++ [y]) (hms : (C.stack.length : Int) ≤ C.ms) : Runs n 1 C { C with spot := if y = 0 then x else sp + 2, stack := pre } := by
  have hp0 : 0 ≤ sp := by obtain ⟨_, _, p1, _⟩ := hP; exact p1
  refine run_deed hP hs (fun T => { T with spot := if y = 0 then x else T.spot + 1, stack := pre }) (fun go T e => ?_) (fun T e => ⟨?_, rfl, rfl, rfl⟩)
  · have s1 : T.spot = sp + 1 := cf_sp e
    have hst0 : T.stack = pre ++ [y] := (cf_st e).trans hst
    have hms' : (T.stack.length : Int) ≤ T.ms := by
      rw [show T.stack = C.stack from cf_st e, show T.ms = C.ms from cf_ms e]
      exact hms
    have hc : T.cells = C.cells := cf_ce e
    rw [doDeed_in (by omega), if_neg (by decide +kernel), if_pos (by decide +kernel)]
    show M.bind get' (fun s => M.bind (needCell s.spot) fun _ => _) T = _
    refine bind_get.trans ?_
    refine (bind_ok (cellN_ok (by omega) (by rw [hc]; omega))).trans ?_
    show M.bind (need 1 0) (fun _ => M.bind pop fun v => if v = 0 then setSpot (cellAt T T.spot) else modify' fun s => { s with spot := s.spot + 1 }) T = _
    refine (bind_ok (need_ok' (by rw [hst0, List.length_append, List.length_singleton]; omega) (by omega))).trans ?_
    refine (bind_ok (pop_ok hst0)).trans ?_
    have e4 : cellAt T T.spot = x := by
      rw [s1, ← hx]
      unfold cellAt
      rw [hc]
    rw [e4]
    by_cases hy : y = 0
    · rw [if_pos hy]
      show Out.ok () _ = Out.ok () { T with spot := if y = 0 then x else T.spot + 1, stack := pre }
      rw [if_pos hy]
    · rw [if_neg hy]
      show Out.ok () _ = Out.ok () { T with spot := if y = 0 then x else T.spot + 1, stack := pre }
      rw [if_neg hy]
  · have s1 : T.spot = sp + 1 := cf_sp e
    show { cfg T with spot := if y = 0 then x else T.spot + 1, stack := pre } = _
    rw [e, s1, show sp + 1 + 1 = sp + 2 by omega]
theorem run_exit (hP : At C sp "exit") (hs : C.spot = sp) (hb : C.back = bk ++ [x]) (hbl : C.back.length ≤ 32) : Runs n 1 C { C with spot := x, back := bk } := by
  have hp0 : 0 ≤ sp := by obtain ⟨_, _, p1, _⟩ := hP; exact p1
  refine run_deed hP hs (fun T => { T with spot := x, back := bk }) (fun go T e => ?_) (fun T e => ⟨by show { cfg T with spot := x, back := bk } = _; rw [e], rfl, rfl, rfl⟩)
  have s1 : T.spot = sp + 1 := cf_sp e
  have hb0 : T.back = bk ++ [x] := (cf_bk e).trans hb
  have hb1 : T.back = C.back := cf_bk e
  rw [doDeed_in (by omega), if_neg (by decide +kernel), if_neg (by decide +kernel), if_neg (by decide +kernel), if_neg (by decide +kernel)]
  unfold doOther
  rw [if_neg (by decide +kernel), if_pos rfl]
  refine (bind_ok (side_ok (by rw [hb0, List.length_append, List.length_singleton]; omega) (by rw [hb1]; omega))).trans ?_
  show Out.ok () { T with spot := T.back.getLastD 0, back := T.back.dropLast } = _
  rw [hb0, List.dropLast_concat]
  congr 2
  simp
theorem run_do (hP : At C sp "(do)") (hs : C.spot = sp) (hst : C.stack = pre ++ [x, y]) (hms : (C.stack.length : Int) ≤ C.ms) (hl : C.stack.length < LIM) (hb : C.back.length + 2 ≤ 32) : Runs n 1 C { C with spot := sp + 1, stack := pre, back := C.back ++ [x, y] } := by
  have hp0 : 0 ≤ sp := by obtain ⟨_, _, p1, _⟩ := hP; exact p1
  refine run_deed hP hs (fun T => { T with stack := pre, back := T.back ++ [x, y] }) (fun go T e => ?_) (fun T e => ⟨by
    show { cfg T with stack := pre, back := T.back ++ [x, y] } = _
    rw [e, show T.back = C.back from cf_bk e], rfl, rfl, rfl⟩)
  have s1 : T.spot = sp + 1 := cf_sp e
  have hst0 : T.stack = pre ++ [x, y] := (cf_st e).trans hst
  have hst1 : T.stack = C.stack := cf_st e
  have hms1 : T.ms = C.ms := cf_ms e
  have hb1 : T.back = C.back := cf_bk e
  rw [doDeed_in (by omega), if_neg (by decide +kernel), if_neg (by decide +kernel), if_neg (by decide +kernel), if_neg (by decide +kernel)]
  unfold doOther
  rw [if_neg (by decide +kernel), if_neg (by decide +kernel), if_neg (by decide +kernel), if_pos rfl]
  refine (bind_ok (need_ok' (by rw [hst0, List.length_append]; show (2 : Int) ≤ ((pre.length + 2 : Nat) : Int); omega) (by rw [hst1, hms1]; omega))).trans ?_
  refine (bind_ok (side_ok (by omega) (by rw [hb1]; omega))).trans ?_
  refine (bind_ok (must_ok (decide_eq_true (by rw [hst1]; exact hl)))).trans ?_
  show Out.ok () { T with back := T.back ++ T.stack.drop (T.stack.length - 2), stack := T.stack.take (T.stack.length - 2) } = _
  have e5 : T.stack.length - 2 = pre.length := by rw [hst0, List.length_append]; rfl
  rw [e5, hst0, List.drop_left, List.take_left]
end
end WH
set_option Elab.async false
set_option linter.all false
set_option maxRecDepth 100000
set_option maxHeartbeats 1000000
namespace WH
open PySem PySem.Spec PyProof.Rows L2
section
variable {n : Nat} {C : MS} {sp x y g : Int} {z : Str} {pre bk : List Int}
/-- behind (loop): once more, or on -/
theorem run_loop (hP : At C sp "(loop)") (hs : C.spot = sp) (h1 : sp + 1 < (C.cells.length : Int)) (hx : cellAt C (sp + 1) = g) (hb : C.back = bk ++ [x, y]) (hbl : C.back.length ≤ 32) :
    Runs n 1 C (if y + 1 < x then { C with spot := g, back := bk ++ [x, y + 1] } else { C with spot := sp + 2, back := bk }) := by
  have hp0 : 0 ≤ sp := by obtain ⟨_, _, p1, _⟩ := hP; exact p1
  refine run_deed hP hs (fun T => if y + 1 < x then { T with spot := g, back := bk ++ [x, y + 1] } else { T with spot := T.spot + 1, back := bk }) (fun go T e => ?_) (fun T e => ?_)
  · have s1 : T.spot = sp + 1 := cf_sp e
    have hb0 : T.back = bk ++ [x, y] := (cf_bk e).trans hb
    have hb1 : T.back = C.back := cf_bk e
    have hc : T.cells = C.cells := cf_ce e
    rw [doDeed_in (by omega), if_neg (by decide +kernel), if_pos (by decide +kernel)]
    show M.bind get' (fun s => M.bind (needCell s.spot) fun _ => _) T = _
    refine bind_get.trans ?_
    refine (bind_ok (cellN_ok (by omega) (by rw [hc]; omega))).trans ?_
    show doLoop (cellAt T T.spot) T = _
    have e4 : cellAt T T.spot = g := by
      rw [s1, ← hx]
      unfold cellAt
      rw [hc]
    rw [e4]
    unfold doLoop
    refine (bind_ok (side_ok (by rw [hb0, List.length_append]; show (2 : Int) ≤ ((bk.length + 2 : Nat) : Int); omega) (by rw [hb1]; omega))).trans ?_
    refine bind_get.trans ?_
    have e5 : T.back.getLastD 0 = y := by
      rw [hb0, show bk ++ [x, y] = (bk ++ [x]) ++ [y] by rw [List.append_assoc]; rfl]
      simp
    have e6 : T.back.dropLast = bk ++ [x] := by
      rw [hb0, show bk ++ [x, y] = (bk ++ [x]) ++ [y] by rw [List.append_assoc]; rfl, List.dropLast_concat]
    have e7 : (bk ++ [x]).getLastD 0 = x := by simp
    rw [e5, e6, e7]
    by_cases h : y + 1 < x
    · rw [if_pos h, if_pos h]
      show Out.ok () { T with back := T.back.dropLast ++ [y + 1], spot := g } = _
      rw [e6, List.append_assoc]
      rfl
    · rw [if_neg h, if_neg h]
      show Out.ok () { T with back := T.back.dropLast.dropLast, spot := T.spot + 1 } = _
      rw [e6, List.dropLast_concat]
  · have s1 : T.spot = sp + 1 := cf_sp e
    by_cases h : y + 1 < x
    · rw [if_pos h, if_pos h]
      exact ⟨by show { cfg T with spot := g, back := bk ++ [x, y + 1] } = _; rw [e], rfl, rfl, rfl⟩
    · rw [if_neg h, if_neg h]
      refine ⟨?_, rfl, rfl, rfl⟩
      show { cfg T with spot := T.spot + 1, back := bk } = _
      rw [e, s1, show sp + 1 + 1 = sp + 2 by omega]
theorem run_tor (hP : At C sp ">r") (hs : C.spot = sp) (hst : C.stack = pre ++ [x]) (hms : (C.stack.length : Int) ≤ C.ms) (hb : C.back.length + 1 ≤ 32) : Runs n 1 C { C with spot := sp + 1, stack := pre, back := C.back ++ [x] } := by
  have hp0 : 0 ≤ sp := by obtain ⟨_, _, p1, _⟩ := hP; exact p1
  refine run_deed hP hs (fun T => { T with stack := pre, back := T.back ++ [x] }) (fun go T e => ?_) (fun T e => ⟨by
    show { cfg T with stack := pre, back := T.back ++ [x] } = _
    rw [e, cf_bk e], rfl, rfl, rfl⟩)
  have s1 : T.spot = sp + 1 := cf_sp e
  have hst0 : T.stack = pre ++ [x] := (cf_st e).trans hst
  have hst1 : T.stack = C.stack := cf_st e
  have hms1 : T.ms = C.ms := cf_ms e
  have hb1 : T.back = C.back := cf_bk e
  rw [doDeed_in (by omega), if_neg (by decide +kernel), if_neg (by decide +kernel), if_pos (by decide +kernel)]
  unfold doSide
  rw [if_pos rfl]
  refine (bind_ok (need_ok' (by rw [hst0, List.length_append, List.length_singleton]; omega) (by rw [hst1, hms1]; omega))).trans ?_
  refine (bind_ok (side_ok (by omega) (by rw [hb1]; omega))).trans ?_
  refine (bind_ok (pop_ok hst0)).trans ?_
  rfl
theorem run_side (hz2 : z = "r>" ∨ z = "r@" ∨ z = "i") (hP : At C sp z) (hs : C.spot = sp) (hb : C.back = bk ++ [x]) (hbl : C.back.length ≤ 32) (h2 : (C.stack.length : Int) + 1 ≤ C.ms) (hl : C.stack.length < LIM) :
    Runs n 1 C { C with spot := sp + 1, stack := C.stack ++ [x], back := if z = "r>" then bk else C.back } := by
  have hp0 : 0 ≤ sp := by obtain ⟨_, _, p1, _⟩ := hP; exact p1
  refine run_deed hP hs (fun T => { T with stack := T.stack ++ [x], back := if z = "r>" then bk else T.back }) (fun go T e => ?_) (fun T e => ⟨by
    show { cfg T with stack := T.stack ++ [x], back := if z = "r>" then bk else T.back } = _
    rw [e, cf_bk e, cf_st e], rfl, rfl, rfl⟩)
  have s1 : T.spot = sp + 1 := cf_sp e
  have hst1 : T.stack = C.stack := cf_st e
  have hms1 : T.ms = C.ms := cf_ms e
  have hb0 : T.back = bk ++ [x] := (cf_bk e).trans hb
  have hb1 : T.back = C.back := cf_bk e
  have g1 : ¬ z ∈ faces.map (·.1) ∧ ¬ z ∈ paired ∧ z ∈ sidewise ∧ ¬ z = ">r" := by rcases hz2 with rfl | rfl | rfl <;> decide +kernel
  obtain ⟨g1, g2, g3, g4⟩ := g1
  rw [doDeed_in (by omega), if_neg g1, if_neg g2, if_pos g3]
  unfold doSide
  rw [if_neg g4]
  refine (bind_ok (need_ok' (by omega) (by rw [hst1, hms1]; exact h2))).trans ?_
  refine (bind_ok (side_ok (by rw [hb0, List.length_append, List.length_singleton]; omega) (by rw [hb1]; omega))).trans ?_
  refine bind_get.trans ?_
  have e5 : T.back.getLastD 0 = x := by
    rw [hb0]
    simp
  rw [e5]
  refine (bind_ok (push_ok (by rw [hst1]; exact hl))).trans ?_
  by_cases h : z = "r>"
  · rw [if_pos h]
    show Out.ok () { T with stack := T.stack ++ [x], back := T.back.dropLast } = Out.ok () { T with stack := T.stack ++ [x], back := if z = "r>" then bk else T.back }
    rw [if_pos h, hb0, List.dropLast_concat]
  · rw [if_neg h]
    show Out.ok () _ = Out.ok () { T with stack := T.stack ++ [x], back := if z = "r>" then bk else T.back }
    rw [if_neg h]
theorem run_dot (hP : At C sp ".") (hs : C.spot = sp) (hst : C.stack = pre ++ [x]) (hms : (C.stack.length : Int) ≤ C.ms) (ht : C.told.length < LIM) : Runs n 1 C { C with spot := sp + 1, stack := pre, told := C.told ++ [x] } := by
  have hp0 : 0 ≤ sp := by obtain ⟨_, _, p1, _⟩ := hP; exact p1
  refine run_deed hP hs (fun T => { T with stack := pre, told := T.told ++ [x] }) (fun go T e => ?_) (fun T e => ⟨by
    show { cfg T with stack := pre, told := T.told ++ [x] } = _
    rw [e, cf_to e], rfl, rfl, rfl⟩)
  exact doDeed_dot (S := T) ((cf_st e).trans hst) (by rw [cf_to e]; exact ht) (by rw [cf_st e, cf_ms e]; exact hms)
/-- a cell that holds a row's number: the row is gone into -/
theorem run_call {m : Int} {en : Ent} (h0 : 0 ≤ sp) (h1 : sp < (C.cells.length : Int)) (hm : cellAt C sp = m) (hm0 : 0 ≤ m) (hb : C.book[m.toNat]? = some en) (hk : en.kind = .row) (hs : C.spot = sp) (hbl : C.back.length + 1 ≤ 32) :
    Runs n 1 C { C with spot := en.start, back := C.back ++ [sp + 1] } := fun T e hl => by
  subst e
  refine ⟨{ T with spot := en.start, back := T.back ++ [sp + 1], left := T.left - 1 }, fun f => ?_, rfl, rfl, rfl, rfl⟩
  refine run_cell (T := T) (e := en) (m := m) hs h0 h1 hm hm0 hb (by omega) ?_ f
  have e3 : ∃ go, goInto n en = goWith go en := by
    cases n with
    | zero => exact ⟨_, rfl⟩
    | succ m => exact ⟨_, rfl⟩
  obtain ⟨go, e3⟩ := e3
  rw [e3]
  unfold goWith
  rw [hk]
  show goTo en _ = _
  unfold goTo goBegins goIn
  rw [if_neg (by rw [hk]; decide), if_pos hk]
  have hbl' : T.back.length + 1 ≤ 32 := hbl
  refine (bind_ok (side_ok (S := { T with spot := sp + 1, left := T.left - 1 }) (by show (0 : Int) ≤ (T.back.length : Int); omega) (by show (T.back.length : Int) + 1 ≤ 32; omega))).trans ?_
  rfl
/-- a cell that holds a fixed one's number -/
theorem run_fixed {m : Int} {en : Ent} (h0 : 0 ≤ sp) (h1 : sp < (C.cells.length : Int)) (hm : cellAt C sp = m) (hm0 : 0 ≤ m) (hb : C.book[m.toNat]? = some en) (hk : en.kind = .fixed) (hs : C.spot = sp) (h2 : (C.stack.length : Int) + 1 ≤ C.ms) (hl : C.stack.length < LIM) :
    Runs n 1 C { C with spot := sp + 1, stack := C.stack ++ [en.worth] } := fun T e hl' => by
  subst e
  refine ⟨{ T with spot := sp + 1, stack := T.stack ++ [en.worth], left := T.left - 1 }, fun f => ?_, rfl, rfl, rfl, rfl⟩
  refine run_cell (T := T) (e := en) (m := m) hs h0 h1 hm hm0 hb (by omega) ?_ f
  have e3 : ∃ go, goInto n en = goWith go en := by
    cases n with
    | zero => exact ⟨_, rfl⟩
    | succ m => exact ⟨_, rfl⟩
  obtain ⟨go, e3⟩ := e3
  rw [e3]
  unfold goWith
  rw [hk]
  have h2' : (T.stack.length : Int) + 1 ≤ T.ms := h2
  have hl2 : T.stack.length < LIM := hl
  refine (bind_ok (need_ok' (S := { T with spot := sp + 1, left := T.left - 1 }) (by show (0 : Int) ≤ (T.stack.length : Int); omega) h2')).trans ?_
  exact push_ok (T := { T with spot := sp + 1, left := T.left - 1 }) hl2
end
end WH
set_option Elab.async false
set_option linter.all false
set_option maxRecDepth 100000
set_option maxHeartbeats 1000000
namespace WH
open PySem PySem.Spec PyProof.Rows L2
/-! ### list(range(i, j, c)) -/
def rgW (i c : Int) (n : Nat) : List V := (List.range n).map fun m => V.int (i + (m : Nat) * c)
def tLstRg3 (ta : TA) : TE := fun σ H Q => ta σ H fun vs H1 => ∃ (i j c : Int) (n : Nat), vs = [.int i, .int j, .int c] ∧ RgC i j c n ∧ n ≤ 2 ^ 24 ∧ ∀ q, H1 q = none → Q (.ref q) (upd H1 q (.lst (rgW i c n)))
section
variable {X : Cx} {a b c : Expr} {ta : TA} {p p2 pos pos2 : Pos}
theorem vals_rgW {i k : Int} {n : Nat} {acc : Array Value} (h : ItemsOf (fun m v => ∃ t, v = .int (i + m * k) t) acc n) : Vals (rgW i k n) acc.toList := by
  have e : acc.toList.length = n := by rw [Array.length_toList]; exact h.1
  unfold rgW
  rw [← e]
  refine vals_of_get acc.toList _ fun j u hj => ?_
  obtain ⟨t, rfl⟩ := h.2 j u (by rw [← hj, Array.getElem?_toList])
  exact ⟨t, rfl⟩
theorem pe_listRg3 (hc : X.calm = true) (hg : L2.Gl X "list") (hm : X.mg "list" = none) (hg2 : L2.Gl X "range") (hm2 : X.mg "range" = none) (ha : PA X [a, b, c] ta)
    (hs : starEach [a, b, c] X.env = (false, eval a X.env) :: starEach [b, c] X.env := by rfl) (hpl : (backTo pos2 (starEach [b, c] X.env)).any (·.1) = false := by rfl)
    (na : starEach [(.Call (.Name "range" p2) [a, b, c] [] pos2 : Expr)] X.env = (false, eval (.Call (.Name "range" p2) [a, b, c] [] pos2) X.env) :: starEach [] X.env := by rfl) :
    PE X (.Call (.Name "list" p) [.Call (.Name "range" p2) [a, b, c] [] pos2] [] pos) (tLstRg3 ta) := by
  refine ⟨fun pins s σ H Q I h => ?_⟩
  have inner : wpAny (model X.prog X.w) X.A (eval (.Call (.Name "range" p2) [a, b, c] [] pos2) X.env) (fun x s' => ∃ r i j k n t u v H', x = .ref r ∧ IsRange s'.heap r i j k t u v ∧ Inv X pins σ H' s' ∧ RgC i j k n ∧ n ≤ 2 ^ 24 ∧ ∀ q, H' q = none → Q (.ref q) (upd H' q (.lst (rgW i k n)))) X.xe s := by
    refine Call_ (ld_blt I hg2 hm2 boot_range (PyProof.Rows.callWith_type1 (thn (ha.run pos2 pins s σ H _ I h) fun us s1 ⟨vs, H1, I1, r1, q1⟩ => ?_) hs hpl))
    obtain ⟨i, j, k, n, e, ⟨c0, c1, c2, c3⟩, hn, q⟩ := q1
    subst e
    cases r1 with
    | cons r rr =>
      cases rr with
      | cons r' rr =>
        cases rr with
        | cons r'' rr =>
          cases rr
          obtain ⟨t, rfl⟩ := r
          obtain ⟨t', rfl⟩ := r'
          obtain ⟨t'', rfl⟩ := r''
          refine call_range_3 c0 ?_ (.inl (PyProof.noPylong_small c1))
          exact ⟨_, i, j, k, n, _, _, _, H1, rfl, IsRange.new _ _ _ _ _ _ _, I1.kept fun b u e => Heap.get?_push_of_some _ e, ⟨c0, c1, c2, c3⟩, hn, q⟩
  refine Call_ (ld_blt I hg hm boot_list (PyProof.Rows.callWith_type1 (args_cons (thn inner fun x s1 ⟨r, i, j, k, n, t, u, v, H1, ex, hr, I1, ⟨c0, c1, c2, c3⟩, hn, q⟩ => args_nil ?_) na) na))
  subst ex
  refine call_list_range (n := n) (I1.ok.hd hc) hr c2 c3 hn fun h' tk acc c' hk e' hi => ?_
  refine ⟨.ref s1.heap.objs.size, upd H1 s1.heap.objs.size (.lst (rgW i k n)), I1.laid hk (Nat.le_refl _) (show ObjOk X.prog X.w _ _ _ (.lst (rgW i k n)) from ⟨?_, acc.toList, c', vals_rgW hi, ?_⟩), rfl, q _ (I1.hok.fresh (Nat.le_refl _))⟩
  · unfold rgW
    rw [List.length_map, List.length_range, sizeLine_eq]
    omega
  · rw [Array.toArray_toList]
    exact e'
end
end WH
set_option Elab.async false
set_option linter.all false
set_option maxRecDepth 100000
set_option maxHeartbeats 2000000
namespace WH
open PySem PySem.Spec PyProof.Rows L2
/-! ### rows of loops -/
def rowE (n : Int) (z : Str) (a b : Int) : Ent := { num := n, name := z, kind := .row, start := a, fin := b, worth := 0, beyond := none, now := false }
/-- a text that is reckoned out: any spot -/
theorem tells_calc {n : Nat} {ws : List Str} {most : Int} {S S1 : MS} {t : List Int} (hS : S.words = [] ∧ S.at_ = 0 ∧ S.left = 0 ∧ S.spot = -1 ∧ S.back = []) (h : ∀ sp, ∃ T', wordsFrom n (ws.length + 1) { S with words := ws, at_ := 0, left := most, spot := sp } = .ok () T' ∧ norm T' = S1) (ht : S1.told.drop S.told.length = t) : Tells n ws most S S1 t := fun T e hb => by
  obtain ⟨T', e1, e2⟩ := h T.spot
  refine ⟨T', ?_, e2, ?_⟩
  · rw [← e1]
    congr 1
    subst e
    obtain ⟨_, _, _, _, _, _, _, _, _, _, _, _, _, _, _⟩ := T
    dsimp only at hb
    subst hb
    rfl
  · rw [← ht, ← e2, ← e]
    rfl
def hX (cs : List Int) (bk : List Ent) (td : List Int) (st : List Int) : MS := { newHouse 400 32 with cells := cs, book := deedEnts ++ bk, told := td, stack := st }
def cs1 : List Int := [39, 25, 37, 36, 1, 41, 0, 37, 33, 1, 9, 0, 33, 0, 17, 35, 6, 1, 41]
def bk1 : List Ent := [rowE 69 "count" 0 6, rowE 70 "down" 6 19]
def tx1 : Str := ": count do i . loop ; : down begin dup . 1 - dup 0 < until drop ;"
def wx1 : List Str := [":", "count", "do", "i", ".", "loop", ";", ":", "down", "begin", "dup", ".", "1", "-", "dup", "0", "<", "until", "drop", ";"]
theorem tw1 : Txt.words tx1 = wx1 := by decide +kernel
theorem tl1 : Tells 0 wx1 2000 (hX [] [] [] []) (hX cs1 bk1 [] []) [] :=
  tells_calc ⟨rfl, rfl, rfl, rfl, rfl⟩ (fun sp => ⟨{ hX cs1 bk1 [] [] with words := wx1, at_ := 20, left := 1992, spot := -1 }, by kernel_rfl, rfl⟩) rfl
def cs2 : List Int := [39, 25, 37, 36, 1, 41, 0, 37, 33, 1, 9, 0, 33, 0, 17, 35, 6, 1, 41, 6, 18, 35, 30, 0, 37, 33, 1, 8, 34, 19, 7, 41]
def bk2 : List Ent := [rowE 69 "count" 0 6, rowE 70 "down" 6 19, rowE 71 "up" 19 32]
def tx2 : Str := ": up begin 2dup > while dup . 1 + repeat 2drop ;"
def wx2 : List Str := [":", "up", "begin", "2dup", ">", "while", "dup", ".", "1", "+", "repeat", "2drop", ";"]
theorem tw2 : Txt.words tx2 = wx2 := by decide +kernel
theorem tl2 : Tells 0 wx2 2000 (hX cs1 bk1 [] []) (hX cs2 bk2 [] []) [] :=
  tells_calc ⟨rfl, rfl, rfl, rfl, rfl⟩ (fun sp => ⟨{ hX cs2 bk2 [] [] with words := wx2, at_ := 13, left := 1995, spot := -1 }, by kernel_rfl, rfl⟩) rfl
def cs3 : List Int := [39, 25, 37, 36, 1, 41, 0, 37, 33, 1, 9, 0, 33, 0, 17, 35, 6, 1, 41, 6, 18, 35, 30, 0, 37, 33, 1, 8, 34, 19, 7, 41, 0, 37, 0, 33, 5, 16, 35, 42, 1, 41, 33, 1, 8, 34, 32, 41]
def bk3 : List Ent := [rowE 69 "count" 0 6, rowE 70 "down" 6 19, rowE 71 "up" 19 32, rowE 72 "out" 32 48]
def tx3 : Str := ": out begin dup . dup 5 = if drop exit then 1 + again ;"
def wx3 : List Str := [":", "out", "begin", "dup", ".", "dup", "5", "=", "if", "drop", "exit", "then", "1", "+", "again", ";"]
theorem tw3 : Txt.words tx3 = wx3 := by decide +kernel
theorem tl3 : Tells 0 wx3 2000 (hX cs2 bk2 [] []) (hX cs3 bk3 [] []) [] :=
  tells_calc ⟨rfl, rfl, rfl, rfl, rfl⟩ (fun sp => ⟨{ hX cs3 bk3 [] [] with words := wx3, at_ := 16, left := 1994, spot := -1 }, by kernel_rfl, rfl⟩) rfl
def cs4 : List Int := [39, 25, 37, 36, 1, 41, 0, 37, 33, 1, 9, 0, 33, 0, 17, 35, 6, 1, 41, 6, 18, 35, 30, 0, 37, 33, 1, 8, 34, 19, 7, 41, 0, 37, 0, 33, 5, 16, 35, 42, 1, 41, 33, 1, 8, 34, 32, 41, 33, 0, 39, 33, 0, 0, 33, 2, 17, 35, 68, 25, 37, 0, 37, 33, 1, 8, 34, 53, 1, 36, 51, 41]
def bk4 : List Ent := [rowE 69 "count" 0 6, rowE 70 "down" 6 19, rowE 71 "up" 19 32, rowE 72 "out" 32 48, rowE 73 "two" 48 72]
def tx4 : Str := ": two 0 do 0 begin dup 2 < while i . dup . 1 + repeat drop loop ;"
def wx4 : List Str := [":", "two", "0", "do", "0", "begin", "dup", "2", "<", "while", "i", ".", "dup", ".", "1", "+", "repeat", "drop", "loop", ";"]
theorem tw4 : Txt.words tx4 = wx4 := by decide +kernel
theorem tl4 : Tells 0 wx4 2000 (hX cs3 bk3 [] []) (hX cs4 bk4 [] []) [] :=
  tells_calc ⟨rfl, rfl, rfl, rfl, rfl⟩ (fun sp => ⟨{ hX cs4 bk4 [] [] with words := wx4, at_ := 20, left := 1993, spot := -1 }, by kernel_rfl, rfl⟩) rfl
end WH
set_option Elab.async false
set_option linter.all false
set_option maxRecDepth 100000
set_option maxHeartbeats 2000000
namespace WH
open PySem PySem.Spec PyProof.Rows L2
/-- while a row is done -/
def cf (st bk td : List Int) (sp : Int) : MS := { hX cs4 bk4 td st with spot := sp, back := bk }
def atB (sp : Nat) (z : Str) : Bool := match cs4[sp]? with
  | some m => decide (0 ≤ m) && (match (deedEnts ++ bk4)[m.toNat]? with
    | some e => decide (e.kind = .deed) && decide (e.name = z)
    | none => false)
  | none => false
theorem at_of {st bk td : List Int} {q : Int} {sp : Nat} {z : Str} (h : atB sp z = true) : At (cf st bk td q) (sp : Int) z := by
  unfold atB at h
  split at h
  · rename_i m hm
    rw [Bool.and_eq_true] at h
    obtain ⟨h1, h⟩ := h
    split at h
    · rename_i e he
      rw [Bool.and_eq_true] at h
      have hl : sp < cs4.length := (List.getElem?_eq_some_iff.mp hm).1
      refine ⟨m, e, by omega, by show (sp : Int) < (cs4.length : Int); omega, ?_, of_decide_eq_true h1, he, of_decide_eq_true h.1, of_decide_eq_true h.2⟩
      show cs4.getD (sp : Int).toNat 0 = m
      rw [Int.toNat_natCast, List.getD_eq_getElem?_getD, hm]
      rfl
    · cases h
  · cases h
section
variable {a b x y : Int} {td st bk : List Int}
def Nm (x : Int) : Prop := -32768 ≤ x ∧ x ≤ 32767
/-- a face's deed at a cell -/
theorem cf_face {sp : Nat} {z : Str} {pre xs ys : List Int} {aa l : Int} (h : atB sp z = true) (hf : faces.lookup z = some (aa, l)) (ha : (xs.length : Int) = aa) (h2 : ((pre ++ xs).length : Int) + (l - aa) ≤ 32) (hx : ∀ x ∈ xs, Nm x) (hx2 : ∀ x ∈ pre, Nm x) (hy : leftBy z xs = some ys) (hl : (pre ++ xs).length ≤ 100) :
    Runs 0 1 (cf (pre ++ xs) bk td sp) (cf (pre ++ ys) bk td (sp + 1 : Nat)) :=
  run_face (C := cf (pre ++ xs) bk td sp) (at_of h) rfl hf rfl ha h2 (by show (pre ++ xs).length < LIM; unfold LIM; omega) hx hx2 hy
theorem cf_lit {sp : Nat} {v : Int} (h : atB sp "(lit)" = true) (hv : cs4[sp + 1]? = some v) (h2 : st.length + 1 ≤ 32) : Runs 0 1 (cf st bk td sp) (cf (st ++ [v]) bk td (sp + 2 : Nat)) := by
  have hl : sp + 1 < cs4.length := (List.getElem?_eq_some_iff.mp hv).1
  exact run_lit (C := cf st bk td sp) (at_of h) rfl (by show (sp : Int) + 1 < (cs4.length : Int); omega) (by
    show cs4.getD ((sp : Int) + 1).toNat 0 = v
    rw [show ((sp : Int) + 1).toNat = sp + 1 by omega, List.getD_eq_getElem?_getD, hv]
    rfl) (by show (st.length : Int) + 1 ≤ 32; omega) (by show st.length < LIM; unfold LIM; omega)
theorem cf_jump {sp g : Nat} (h : atB sp "(jump)" = true) (hv : cs4[sp + 1]? = some (g : Int)) : Runs 0 1 (cf st bk td sp) (cf st bk td g) := by
  have hl : sp + 1 < cs4.length := (List.getElem?_eq_some_iff.mp hv).1
  exact run_jump (C := cf st bk td sp) (at_of h) rfl (by show (sp : Int) + 1 < (cs4.length : Int); omega) (by
    show cs4.getD ((sp : Int) + 1).toNat 0 = g
    rw [show ((sp : Int) + 1).toNat = sp + 1 by omega, List.getD_eq_getElem?_getD, hv]
    rfl)
theorem cf_bare {sp g : Nat} (h : atB sp "(bare)" = true) (hv : cs4[sp + 1]? = some (g : Int)) (h2 : st.length + 1 ≤ 32) : Runs 0 1 (cf (st ++ [y]) bk td sp) (cf st bk td (if y = 0 then g else sp + 2 : Nat)) := by
  have hl : sp + 1 < cs4.length := (List.getElem?_eq_some_iff.mp hv).1
  have r := run_bare (n := 0) (C := cf (st ++ [y]) bk td sp) (x := (g : Int)) (y := y) (pre := st) (at_of h) rfl (by show (sp : Int) + 1 < (cs4.length : Int); omega) (by
    show cs4.getD ((sp : Int) + 1).toNat 0 = g
    rw [show ((sp : Int) + 1).toNat = sp + 1 by omega, List.getD_eq_getElem?_getD, hv]
    rfl) rfl (by show ((st ++ [y]).length : Int) ≤ 32; rw [List.length_append, List.length_singleton]; omega)
  have e : (if y = 0 then (g : Int) else (sp : Int) + 2) = ((if y = 0 then g else sp + 2 : Nat) : Int) := by
    split <;> rfl
  rw [e] at r
  exact r
theorem cf_exit {sp : Nat} (h : atB sp "exit" = true) (hb : bk.length < 32) : Runs 0 1 (cf st (bk ++ [x]) td sp) (cf st bk td x) :=
  run_exit (C := cf st (bk ++ [x]) td sp) (at_of h) rfl rfl (by show (bk ++ [x]).length ≤ 32; rw [List.length_append, List.length_singleton]; omega)
theorem cf_do {sp : Nat} (h : atB sp "(do)" = true) (hs : st.length + 2 ≤ 32) (hb : bk.length + 2 ≤ 32) : Runs 0 1 (cf (st ++ [x, y]) bk td sp) (cf st (bk ++ [x, y]) td (sp + 1 : Nat)) :=
  run_do (C := cf (st ++ [x, y]) bk td sp) (at_of h) rfl rfl (by show ((st ++ [x, y]).length : Int) ≤ 32; rw [List.length_append]; show ((st.length + 2 : Nat) : Int) ≤ 32; omega) (by show (st ++ [x, y]).length < LIM; rw [List.length_append]; show st.length + 2 < LIM; unfold LIM; omega) hb
theorem cf_loop {sp g : Nat} (h : atB sp "(loop)" = true) (hv : cs4[sp + 1]? = some (g : Int)) (hb : bk.length + 2 ≤ 32) : Runs 0 1 (cf st (bk ++ [x, y]) td sp) (if y + 1 < x then cf st (bk ++ [x, y + 1]) td g else cf st bk td (sp + 2 : Nat)) := by
  have hl : sp + 1 < cs4.length := (List.getElem?_eq_some_iff.mp hv).1
  exact run_loop (C := cf st (bk ++ [x, y]) td sp) (at_of h) rfl (by show (sp : Int) + 1 < (cs4.length : Int); omega) (by
    show cs4.getD ((sp : Int) + 1).toNat 0 = g
    rw [show ((sp : Int) + 1).toNat = sp + 1 by omega, List.getD_eq_getElem?_getD, hv]
    rfl) rfl (by show (bk ++ [x, y]).length ≤ 32; rw [List.length_append]; exact hb)
theorem cf_i {sp : Nat} (h : atB sp "i" = true) (hs : st.length + 1 ≤ 32) (hb : bk.length + 1 ≤ 32) : Runs 0 1 (cf st (bk ++ [x]) td sp) (cf (st ++ [x]) (bk ++ [x]) td (sp + 1 : Nat)) := by
  have r := run_side (n := 0) (C := cf st (bk ++ [x]) td sp) (z := "i") (bk := bk) (x := x) (.inr (.inr rfl)) (at_of h) rfl rfl (by show (bk ++ [x]).length ≤ 32; rw [List.length_append]; exact hb) (by show (st.length : Int) + 1 ≤ 32; omega) (by show st.length < LIM; unfold LIM; omega)
  rw [if_neg (by decide +kernel)] at r
  exact r
theorem cf_dot {sp : Nat} (h : atB sp "." = true) (hs : st.length + 1 ≤ 32) (ht : td.length < 10000) : Runs 0 1 (cf (st ++ [x]) bk td sp) (cf st bk (td ++ [x]) (sp + 1 : Nat)) :=
  run_dot (C := cf (st ++ [x]) bk td sp) (at_of h) rfl rfl (by show ((st ++ [x]).length : Int) ≤ 32; rw [List.length_append, List.length_singleton]; omega) (by show td.length < LIM; unfold LIM; omega)
/-! ### count -/
def upTo (x : Int) : Nat → List Int
  | 0 => []
  | n + 1 => x :: upTo (x + 1) n
theorem upTo_len : ∀ (n : Nat) (x : Int), (upTo x n).length = n
  | 0, _ => rfl
  | n + 1, x => congrArg (· + 1) (upTo_len n (x + 1))
theorem count_loop : ∀ (m : Nat) (x : Int) (td : List Int), (m : Int) + 1 = (if x + 1 < a then a - x else 1) → td.length + m < 9000 → Runs 0 (3 * (m + 1)) (cf [] [-1, a, x] td 1) (cf [] [-1] (td ++ upTo x (m + 1)) 5)
  | m, x, td, hm, ht => by
    have r1 : Runs 0 1 (cf [] [-1, a, x] td 1) (cf [x] [-1, a, x] td 2) := cf_i (st := []) (bk := [-1, a]) (sp := 1) (by decide +kernel) (by decide) (by show 3 ≤ 32; decide)
    have r2 : Runs 0 1 (cf [x] [-1, a, x] td 2) (cf [] [-1, a, x] (td ++ [x]) 3) := cf_dot (st := []) (sp := 2) (by decide +kernel) (by decide) (by omega)
    have r3 := cf_loop (st := []) (bk := [-1]) (x := a) (y := x) (td := td ++ [x]) (sp := 3) (g := 1) (by decide +kernel) (by decide +kernel) (by decide)
    by_cases h : x + 1 < a
    · rw [if_pos h] at r3 hm
      cases m with
      | zero => omega
      | succ m =>
        have r4 := count_loop m (x + 1) (td ++ [x]) (by split <;> omega) (by rw [List.length_append, List.length_singleton]; omega)
        have e : td ++ [x] ++ upTo (x + 1) (m + 1) = td ++ upTo x (m + 1 + 1) := by
          rw [List.append_assoc]
          rfl
        rw [e] at r4
        have := ((r1.app r2).app r3).app r4
        rw [show 3 * (m + 1 + 1) = 1 + 1 + 1 + 3 * (m + 1) by omega]
        exact this
    · rw [if_neg h] at r3 hm
      obtain rfl : m = 0 := by omega
      exact (r1.app r2).app r3
end
end WH
set_option Elab.async false
set_option linter.all false
set_option maxRecDepth 100000
set_option maxHeartbeats 2000000
namespace WH
open PySem PySem.Spec PyProof.Rows L2
section
variable {a b x y : Int} {td st bk : List Int}
theorem cf_count {m : Nat} (hm : (m : Int) + 1 = (if b + 1 < a then a - b else 1)) (ht : td.length + m < 9000) : Runs 0 (1 + 3 * (m + 1) + 1) (cf [a, b] [-1] td 0) (cf [] [] (td ++ upTo b (m + 1)) (-1)) := by
  have r1 : Runs 0 1 (cf [a, b] [-1] td 0) (cf [] [-1, a, b] td 1) := cf_do (st := []) (bk := [-1]) (sp := 0) (by decide +kernel) (by decide) (by decide)
  have r3 : Runs 0 1 (cf [] [-1] (td ++ upTo b (m + 1)) 5) (cf [] [] (td ++ upTo b (m + 1)) (-1)) := cf_exit (bk := []) (sp := 5) (by decide +kernel) (by decide)
  exact (r1.app (count_loop m b td hm ht)).app r3
theorem sm_le {z : Int} (h : -1000 ≤ z ∧ z ≤ 1000) : Nm z := by unfold Nm; omega
theorem nm2 {u v : Int} (h1 : Nm u) (h2 : Nm v) : ∀ x ∈ [u, v], Nm x := fun x hx => by
  simp only [List.mem_cons, List.not_mem_nil, or_false] at hx
  rcases hx with rfl | rfl
  · exact h1
  · exact h2
theorem nm1 {u : Int} (h1 : Nm u) : ∀ x ∈ [u], Nm x := fun x hx => by rw [List.mem_singleton.mp hx]; exact h1
theorem nm0 : ∀ x ∈ ([] : List Int), Nm x := fun x hx => nomatch hx
theorem rd {z : Int} (h : Nm z) : rounded z = z := by
  unfold Nm at h
  unfold rounded
  omega
/-! ### down -/
def downFrom (x : Int) : Nat → List Int
  | 0 => []
  | n + 1 => x :: downFrom (x - 1) n
theorem down_loop : ∀ (m : Nat) (x : Int) (td : List Int), x = m → m ≤ 900 → td.length + m < 9000 → Runs 0 (8 * (m + 1)) (cf [x] [-1] td 6) (cf [-1] [-1] (td ++ downFrom x (m + 1)) 17)
  | m, x, td, hm, hb, ht => by
    have hx : Nm x := sm_le (by omega)
    have hx1 : Nm (x - 1) := sm_le (by omega)
    have r1 : Runs 0 1 (cf [x] [-1] td 6) (cf [x, x] [-1] td 7) := cf_face (sp := 6) (z := "dup") (pre := []) (xs := [x]) (ys := [x, x]) (aa := 1) (l := 2) (by decide +kernel) (by kernel_rfl) rfl (by show (1 : Int) + (2 - 1) ≤ 32; decide) (nm1 hx) nm0 rfl (by show 1 ≤ 100; decide)
    have r2 : Runs 0 1 (cf [x, x] [-1] td 7) (cf [x] [-1] (td ++ [x]) 8) := cf_dot (st := [x]) (sp := 7) (by decide +kernel) (by show 2 ≤ 32; decide) (by omega)
    have r3 : Runs 0 1 (cf [x] [-1] (td ++ [x]) 8) (cf [x, 1] [-1] (td ++ [x]) 10) := cf_lit (st := [x]) (sp := 8) (by decide +kernel) (by decide +kernel) (by show 2 ≤ 32; decide)
    have r4 : Runs 0 1 (cf [x, 1] [-1] (td ++ [x]) 10) (cf [rounded (x - 1)] [-1] (td ++ [x]) 11) := cf_face (sp := 10) (z := "-") (pre := []) (xs := [x, 1]) (ys := [rounded (x - 1)]) (aa := 2) (l := 1) (by decide +kernel) (by kernel_rfl) rfl (by show (2 : Int) + (1 - 2) ≤ 32; decide) (nm2 hx (by unfold Nm; decide)) nm0 rfl (by show 2 ≤ 100; decide)
    rw [rd hx1] at r4
    have r5 : Runs 0 1 (cf [x - 1] [-1] (td ++ [x]) 11) (cf [x - 1, x - 1] [-1] (td ++ [x]) 12) := cf_face (sp := 11) (z := "dup") (pre := []) (xs := [x - 1]) (ys := [x - 1, x - 1]) (aa := 1) (l := 2) (by decide +kernel) (by kernel_rfl) rfl (by show (1 : Int) + (2 - 1) ≤ 32; decide) (nm1 hx1) nm0 rfl (by show 1 ≤ 100; decide)
    have r6 : Runs 0 1 (cf [x - 1, x - 1] [-1] (td ++ [x]) 12) (cf [x - 1, x - 1, 0] [-1] (td ++ [x]) 14) := cf_lit (st := [x - 1, x - 1]) (sp := 12) (by decide +kernel) (by decide +kernel) (by show 3 ≤ 32; decide)
    have r7 : Runs 0 1 (cf [x - 1, x - 1, 0] [-1] (td ++ [x]) 14) (cf [x - 1, truthI (decide (x - 1 < 0))] [-1] (td ++ [x]) 15) := cf_face (sp := 14) (z := "<") (pre := [x - 1]) (xs := [x - 1, 0]) (ys := [truthI (decide (x - 1 < 0))]) (aa := 2) (l := 1) (by decide +kernel) (by kernel_rfl) rfl (by show (3 : Int) + (1 - 2) ≤ 32; decide) (nm2 hx1 (by unfold Nm; decide)) (nm1 hx1) rfl (by show 3 ≤ 100; decide)
    have r8 := cf_bare (y := truthI (decide (x - 1 < 0))) (bk := [-1]) (td := td ++ [x]) (st := [x - 1]) (sp := 15) (g := 6) (by decide +kernel) (by decide +kernel) (by show 2 ≤ 32; decide)
    have ra := ((((((r1.app r2).app r3).app r4).app r5).app r6).app r7).app r8
    cases m with
    | zero =>
      have e : x = 0 := hm
      subst e
      exact ra
    | succ m =>
      have e : truthI (decide (x - 1 < 0)) = 0 := by
        rw [decide_eq_false (by omega)]
        rfl
      rw [e, if_pos rfl] at ra
      have r9 := down_loop m (x - 1) (td ++ [x]) (by omega) (by omega) (by rw [List.length_append, List.length_singleton]; omega)
      have e2 : td ++ [x] ++ downFrom (x - 1) (m + 1) = td ++ downFrom x (m + 1 + 1) := by
        rw [List.append_assoc]
        rfl
      rw [e2] at r9
      rw [show 8 * (m + 1 + 1) = 1 + 1 + 1 + 1 + 1 + 1 + 1 + 1 + 8 * (m + 1) by omega]
      exact ra.app r9
theorem cf_down {m : Nat} (hm : x = m) (hb : m ≤ 900) (ht : td.length + m < 9000) : Runs 0 (8 * (m + 1) + 1 + 1) (cf [x] [-1] td 6) (cf [] [] (td ++ downFrom x (m + 1)) (-1)) := by
  have r1 : Runs 0 1 (cf [-1] [-1] (td ++ downFrom x (m + 1)) 17) (cf [] [-1] (td ++ downFrom x (m + 1)) 18) := cf_face (sp := 17) (z := "drop") (pre := []) (xs := [-1]) (ys := []) (aa := 1) (l := 0) (by decide +kernel) (by kernel_rfl) rfl (by show (1 : Int) + (0 - 1) ≤ 32; decide) (nm1 (by unfold Nm; decide)) nm0 rfl (by decide)
  have r2 : Runs 0 1 (cf [] [-1] (td ++ downFrom x (m + 1)) 18) (cf [] [] (td ++ downFrom x (m + 1)) (-1)) := cf_exit (bk := []) (sp := 18) (by decide +kernel) (by decide)
  exact ((down_loop m x td hm hb ht).app r1).app r2
/-! ### up -/
theorem up_loop {e : Int} (he : -900 ≤ e ∧ e ≤ 900) : ∀ (m : Nat) (x : Int) (td : List Int), (m : Int) = (if x < e then e - x else 0) → -900 ≤ x ∧ x ≤ 900 → td.length + m < 9000 → ∃ k y, k ≤ 8 * m + 3 ∧ Nm y ∧ Runs 0 k (cf [e, x] [-1] td 19) (cf [e, y] [-1] (td ++ upTo x m) 30)
  | m, x, td, hm, hb, ht => by
    have hx : Nm x := sm_le (by omega)
    have hx1 : Nm (x + 1) := sm_le (by omega)
    have hE : Nm e := sm_le (by omega)
    have r1 : Runs 0 1 (cf [e, x] [-1] td 19) (cf [e, x, e, x] [-1] td 20) := cf_face (sp := 19) (z := "2dup") (pre := []) (xs := [e, x]) (ys := [e, x, e, x]) (aa := 2) (l := 4) (by decide +kernel) (by kernel_rfl) rfl (by show (2 : Int) + (4 - 2) ≤ 32; decide) (nm2 hE hx) nm0 rfl (by show 2 ≤ 100; decide)
    have r2 : Runs 0 1 (cf [e, x, e, x] [-1] td 20) (cf [e, x, truthI (decide (e > x))] [-1] td 21) := cf_face (sp := 20) (z := ">") (pre := [e, x]) (xs := [e, x]) (ys := [truthI (decide (e > x))]) (aa := 2) (l := 1) (by decide +kernel) (by kernel_rfl) rfl (by show (4 : Int) + (1 - 2) ≤ 32; decide) (nm2 hE hx) (nm2 hE hx) rfl (by show 4 ≤ 100; decide)
    have r3 := cf_bare (y := truthI (decide (e > x))) (bk := [-1]) (td := td) (st := [e, x]) (sp := 21) (g := 30) (by decide +kernel) (by decide +kernel) (by show 3 ≤ 32; decide)
    have ra := (r1.app r2).app r3
    by_cases h : x < e
    · rw [if_pos h] at hm
      rw [decide_eq_true (show e > x from h), if_neg (by decide)] at ra
      cases m with
      | zero => omega
      | succ m =>
        have r4 : Runs 0 1 (cf [e, x] [-1] td 23) (cf [e, x, x] [-1] td 24) := cf_face (sp := 23) (z := "dup") (pre := [e]) (xs := [x]) (ys := [x, x]) (aa := 1) (l := 2) (by decide +kernel) (by kernel_rfl) rfl (by show (2 : Int) + (2 - 1) ≤ 32; decide) (nm1 hx) (nm1 hE) rfl (by show 2 ≤ 100; decide)
        have r5 : Runs 0 1 (cf [e, x, x] [-1] td 24) (cf [e, x] [-1] (td ++ [x]) 25) := cf_dot (st := [e, x]) (sp := 24) (by decide +kernel) (by show 3 ≤ 32; decide) (by omega)
        have r6 : Runs 0 1 (cf [e, x] [-1] (td ++ [x]) 25) (cf [e, x, 1] [-1] (td ++ [x]) 27) := cf_lit (st := [e, x]) (sp := 25) (by decide +kernel) (by decide +kernel) (by show 3 ≤ 32; decide)
        have r7 : Runs 0 1 (cf [e, x, 1] [-1] (td ++ [x]) 27) (cf [e, rounded (x + 1)] [-1] (td ++ [x]) 28) := cf_face (sp := 27) (z := "+") (pre := [e]) (xs := [x, 1]) (ys := [rounded (x + 1)]) (aa := 2) (l := 1) (by decide +kernel) (by kernel_rfl) rfl (by show (3 : Int) + (1 - 2) ≤ 32; decide) (nm2 hx (by unfold Nm; decide)) (nm1 hE) rfl (by show 3 ≤ 100; decide)
        rw [rd hx1] at r7
        have r8 : Runs 0 1 (cf [e, x + 1] [-1] (td ++ [x]) 28) (cf [e, x + 1] [-1] (td ++ [x]) 19) := cf_jump (sp := 28) (g := 19) (by decide +kernel) (by decide +kernel)
        obtain ⟨k, y, hk, hy, r9⟩ := up_loop he m (x + 1) (td ++ [x]) (by split <;> omega) (by omega) (by rw [List.length_append, List.length_singleton]; omega)
        have e2 : td ++ [x] ++ upTo (x + 1) m = td ++ upTo x (m + 1) := by
          rw [List.append_assoc]
          rfl
        rw [e2] at r9
        exact ⟨_, y, by omega, hy, (((((ra.app r4).app r5).app r6).app r7).app r8).app r9⟩
    · rw [if_neg h] at hm
      obtain rfl : m = 0 := by omega
      rw [decide_eq_false (show ¬ e > x from h), if_pos (by decide)] at ra
      refine ⟨1 + 1 + 1, x, by omega, hx, ?_⟩
      show Runs 0 _ _ (cf [e, x] [-1] (td ++ []) 30)
      rw [List.append_nil]
      exact ra
end
end WH
set_option Elab.async false
set_option linter.all false
set_option maxRecDepth 100000
set_option maxHeartbeats 2000000
namespace WH
open PySem PySem.Spec PyProof.Rows L2
section
variable {a b x y : Int} {td st bk : List Int}
theorem cf_up {e : Int} {m : Nat} (he : -900 ≤ e ∧ e ≤ 900) (hm : (m : Int) = (if x < e then e - x else 0)) (hx : -900 ≤ x ∧ x ≤ 900) (ht : td.length + m < 9000) : ∃ k, k ≤ 8 * m + 5 ∧ Runs 0 k (cf [e, x] [-1] td 19) (cf [] [] (td ++ upTo x m) (-1)) := by
  obtain ⟨k, y, hk, hy, r⟩ := up_loop he m x td hm hx ht
  have r1 : Runs 0 1 (cf [e, y] [-1] (td ++ upTo x m) 30) (cf [] [-1] (td ++ upTo x m) 31) := cf_face (sp := 30) (z := "2drop") (pre := []) (xs := [e, y]) (ys := []) (aa := 2) (l := 0) (by decide +kernel) (by kernel_rfl) rfl (by show (2 : Int) + (0 - 2) ≤ 32; decide) (nm2 (sm_le (by omega)) hy) nm0 rfl (by show 2 ≤ 100; decide)
  have r2 : Runs 0 1 (cf [] [-1] (td ++ upTo x m) 31) (cf [] [] (td ++ upTo x m) (-1)) := cf_exit (bk := []) (sp := 31) (by decide +kernel) (by decide)
  exact ⟨_, by omega, (r.app r1).app r2⟩
/-! ### out -/
theorem out_loop : ∀ (m : Nat) (x : Int) (td : List Int), x = 5 - m → m ≤ 900 → td.length + m < 9000 → ∃ k, k ≤ 9 * (m + 1) ∧ Runs 0 k (cf [x] [-1] td 32) (cf [] [] (td ++ upTo x (m + 1)) (-1))
  | m, x, td, hm, hb, ht => by
    have hx : Nm x := sm_le (by omega)
    have hx1 : Nm (x + 1) := sm_le (by omega)
    have r1 : Runs 0 1 (cf [x] [-1] td 32) (cf [x, x] [-1] td 33) := cf_face (sp := 32) (z := "dup") (pre := []) (xs := [x]) (ys := [x, x]) (aa := 1) (l := 2) (by decide +kernel) (by kernel_rfl) rfl (by show (1 : Int) + (2 - 1) ≤ 32; decide) (nm1 hx) nm0 rfl (by show 1 ≤ 100; decide)
    have r2 : Runs 0 1 (cf [x, x] [-1] td 33) (cf [x] [-1] (td ++ [x]) 34) := cf_dot (st := [x]) (sp := 33) (by decide +kernel) (by show 2 ≤ 32; decide) (by omega)
    have r3 : Runs 0 1 (cf [x] [-1] (td ++ [x]) 34) (cf [x, x] [-1] (td ++ [x]) 35) := cf_face (sp := 34) (z := "dup") (pre := []) (xs := [x]) (ys := [x, x]) (aa := 1) (l := 2) (by decide +kernel) (by kernel_rfl) rfl (by show (1 : Int) + (2 - 1) ≤ 32; decide) (nm1 hx) nm0 rfl (by show 1 ≤ 100; decide)
    have r4 : Runs 0 1 (cf [x, x] [-1] (td ++ [x]) 35) (cf [x, x, 5] [-1] (td ++ [x]) 37) := cf_lit (st := [x, x]) (sp := 35) (by decide +kernel) (by decide +kernel) (by show 3 ≤ 32; decide)
    have r5 : Runs 0 1 (cf [x, x, 5] [-1] (td ++ [x]) 37) (cf [x, truthI (decide (x = 5))] [-1] (td ++ [x]) 38) := cf_face (sp := 37) (z := "=") (pre := [x]) (xs := [x, 5]) (ys := [truthI (decide (x = 5))]) (aa := 2) (l := 1) (by decide +kernel) (by kernel_rfl) rfl (by show (3 : Int) + (1 - 2) ≤ 32; decide) (nm2 hx (by unfold Nm; decide)) (nm1 hx) rfl (by show 3 ≤ 100; decide)
    have r6 := cf_bare (y := truthI (decide (x = 5))) (bk := [-1]) (td := td ++ [x]) (st := [x]) (sp := 38) (g := 42) (by decide +kernel) (by decide +kernel) (by show 2 ≤ 32; decide)
    have ra := ((((r1.app r2).app r3).app r4).app r5).app r6
    cases m with
    | zero =>
      rw [decide_eq_true (show x = 5 by omega), if_neg (by decide)] at ra
      have r7 : Runs 0 1 (cf [x] [-1] (td ++ [x]) 40) (cf [] [-1] (td ++ [x]) 41) := cf_face (sp := 40) (z := "drop") (pre := []) (xs := [x]) (ys := []) (aa := 1) (l := 0) (by decide +kernel) (by kernel_rfl) rfl (by show (1 : Int) + (0 - 1) ≤ 32; decide) (nm1 hx) nm0 rfl (by show 1 ≤ 100; decide)
      have r8 : Runs 0 1 (cf [] [-1] (td ++ [x]) 41) (cf [] [] (td ++ [x]) (-1)) := cf_exit (bk := []) (sp := 41) (by decide +kernel) (by decide)
      exact ⟨1 + 1 + 1 + 1 + 1 + 1 + 1 + 1, by omega, (ra.app r7).app r8⟩
    | succ m =>
      rw [decide_eq_false (show ¬ x = 5 by omega), if_pos (by decide)] at ra
      have r7 : Runs 0 1 (cf [x] [-1] (td ++ [x]) 42) (cf [x, 1] [-1] (td ++ [x]) 44) := cf_lit (st := [x]) (sp := 42) (by decide +kernel) (by decide +kernel) (by show 2 ≤ 32; decide)
      have r8 : Runs 0 1 (cf [x, 1] [-1] (td ++ [x]) 44) (cf [rounded (x + 1)] [-1] (td ++ [x]) 45) := cf_face (sp := 44) (z := "+") (pre := []) (xs := [x, 1]) (ys := [rounded (x + 1)]) (aa := 2) (l := 1) (by decide +kernel) (by kernel_rfl) rfl (by show (2 : Int) + (1 - 2) ≤ 32; decide) (nm2 hx (by unfold Nm; decide)) nm0 rfl (by show 2 ≤ 100; decide)
      rw [rd hx1] at r8
      have r9 : Runs 0 1 (cf [x + 1] [-1] (td ++ [x]) 45) (cf [x + 1] [-1] (td ++ [x]) 32) := cf_jump (sp := 45) (g := 32) (by decide +kernel) (by decide +kernel)
      obtain ⟨k, hk, r10⟩ := out_loop m (x + 1) (td ++ [x]) (by omega) (by omega) (by rw [List.length_append, List.length_singleton]; omega)
      have e2 : td ++ [x] ++ upTo (x + 1) (m + 1) = td ++ upTo x (m + 1 + 1) := by
        rw [List.append_assoc]
        rfl
      rw [e2] at r10
      exact ⟨1 + 1 + 1 + 1 + 1 + 1 + 1 + 1 + 1 + k, by omega, (((ra.app r7).app r8).app r9).app r10⟩
/-! ### two -/
/-- once around the inner loop -/
theorem two_step {n k j : Int} (hn : Nm j) (h2 : j < 2) (h3 : 0 ≤ j) (ht : td.length < 9000) : Runs 0 11 (cf [j] [-1, n, k] td 53) (cf [j + 1] [-1, n, k] (td ++ [k, j]) 53) := by
  have r1 : Runs 0 1 (cf [j] [-1, n, k] td 53) (cf [j, j] [-1, n, k] td 54) := cf_face (sp := 53) (z := "dup") (pre := []) (xs := [j]) (ys := [j, j]) (aa := 1) (l := 2) (by decide +kernel) (by kernel_rfl) rfl (by show (1 : Int) + (2 - 1) ≤ 32; decide) (nm1 hn) nm0 rfl (by show 1 ≤ 100; decide)
  have r2 : Runs 0 1 (cf [j, j] [-1, n, k] td 54) (cf [j, j, 2] [-1, n, k] td 56) := cf_lit (st := [j, j]) (sp := 54) (by decide +kernel) (by decide +kernel) (by show 3 ≤ 32; decide)
  have r3 : Runs 0 1 (cf [j, j, 2] [-1, n, k] td 56) (cf [j, truthI (decide (j < 2))] [-1, n, k] td 57) := cf_face (sp := 56) (z := "<") (pre := [j]) (xs := [j, 2]) (ys := [truthI (decide (j < 2))]) (aa := 2) (l := 1) (by decide +kernel) (by kernel_rfl) rfl (by show (3 : Int) + (1 - 2) ≤ 32; decide) (nm2 hn (by unfold Nm; decide)) (nm1 hn) rfl (by show 3 ≤ 100; decide)
  have r4 := cf_bare (y := truthI (decide (j < 2))) (bk := [-1, n, k]) (td := td) (st := [j]) (sp := 57) (g := 68) (by decide +kernel) (by decide +kernel) (by show 2 ≤ 32; decide)
  rw [decide_eq_true h2, if_neg (by decide)] at r4
  rw [decide_eq_true h2] at r3
  have r5 : Runs 0 1 (cf [j] [-1, n, k] td 59) (cf [j, k] [-1, n, k] td 60) := cf_i (st := [j]) (bk := [-1, n]) (sp := 59) (by decide +kernel) (by show 2 ≤ 32; decide) (by show 3 ≤ 32; decide)
  have r6 : Runs 0 1 (cf [j, k] [-1, n, k] td 60) (cf [j] [-1, n, k] (td ++ [k]) 61) := cf_dot (st := [j]) (sp := 60) (by decide +kernel) (by show 2 ≤ 32; decide) (by omega)
  have r7 : Runs 0 1 (cf [j] [-1, n, k] (td ++ [k]) 61) (cf [j, j] [-1, n, k] (td ++ [k]) 62) := cf_face (sp := 61) (z := "dup") (pre := []) (xs := [j]) (ys := [j, j]) (aa := 1) (l := 2) (by decide +kernel) (by kernel_rfl) rfl (by show (1 : Int) + (2 - 1) ≤ 32; decide) (nm1 hn) nm0 rfl (by show 1 ≤ 100; decide)
  have r8 : Runs 0 1 (cf [j, j] [-1, n, k] (td ++ [k]) 62) (cf [j] [-1, n, k] (td ++ [k] ++ [j]) 63) := cf_dot (st := [j]) (sp := 62) (by decide +kernel) (by show 2 ≤ 32; decide) (by rw [List.length_append, List.length_singleton]; omega)
  have r9 : Runs 0 1 (cf [j] [-1, n, k] (td ++ [k] ++ [j]) 63) (cf [j, 1] [-1, n, k] (td ++ [k] ++ [j]) 65) := cf_lit (st := [j]) (sp := 63) (by decide +kernel) (by decide +kernel) (by show 2 ≤ 32; decide)
  have r10 : Runs 0 1 (cf [j, 1] [-1, n, k] (td ++ [k] ++ [j]) 65) (cf [rounded (j + 1)] [-1, n, k] (td ++ [k] ++ [j]) 66) := cf_face (sp := 65) (z := "+") (pre := []) (xs := [j, 1]) (ys := [rounded (j + 1)]) (aa := 2) (l := 1) (by decide +kernel) (by kernel_rfl) rfl (by show (2 : Int) + (1 - 2) ≤ 32; decide) (nm2 hn (by unfold Nm; decide)) nm0 rfl (by show 2 ≤ 100; decide)
  rw [rd (sm_le (by omega))] at r10
  have r11 : Runs 0 1 (cf [j + 1] [-1, n, k] (td ++ [k] ++ [j]) 66) (cf [j + 1] [-1, n, k] (td ++ [k] ++ [j]) 53) := cf_jump (sp := 66) (g := 53) (by decide +kernel) (by decide +kernel)
  have e2 : td ++ [k] ++ [j] = td ++ [k, j] := by rw [List.append_assoc]; rfl
  rw [e2] at r8 r9 r10 r11
  exact (((((((((r1.app r2).app r3).app r4).app r5).app r6).app r7).app r8).app r9).app r10).app r11
def twos (k : Int) : Nat → List Int
  | 0 => []
  | m + 1 => [k, 0, k, 1] ++ twos (k + 1) m
theorem twos_len : ∀ (m : Nat) (k : Int), (twos k m).length = 4 * m
  | 0, _ => rfl
  | m + 1, k => by
    show ([k, 0, k, 1] ++ twos (k + 1) m).length = _
    rw [List.length_append, twos_len]
    show 4 + 4 * m = _
    omega
theorem two_loop {n : Int} : ∀ (m : Nat) (k : Int) (td : List Int), (m : Int) + 1 = (if k + 1 < n then n - k else 1) → td.length + 4 * m < 8000 → Runs 0 (29 * (m + 1)) (cf [] [-1, n, k] td 51) (cf [] [-1] (td ++ twos k (m + 1)) 71)
  | m, k, td, hm, ht => by
    have r1 : Runs 0 1 (cf [] [-1, n, k] td 51) (cf [0] [-1, n, k] td 53) := cf_lit (st := []) (sp := 51) (by decide +kernel) (by decide +kernel) (by decide)
    have r2 := two_step (n := n) (k := k) (j := 0) (td := td) (by unfold Nm; decide) (by decide) (by decide) (by omega)
    have r3 := two_step (n := n) (k := k) (j := 0 + 1) (td := td ++ [k, 0]) (by unfold Nm; decide) (by decide) (by decide) (by rw [List.length_append]; show td.length + 2 < 9000; omega)
    have e2 : td ++ [k, 0] ++ [k, 0 + 1] = td ++ [k, 0, k, 1] := by rw [List.append_assoc]; rfl
    rw [e2] at r3
    obtain ⟨td2, e3⟩ : ∃ td2, td ++ [k, 0, k, 1] = td2 := ⟨_, rfl⟩
    rw [e3] at r3
    have n2 : Nm 2 := by unfold Nm; decide
    have r4 : Runs 0 1 (cf [2] [-1, n, k] td2 53) (cf [2, 2] [-1, n, k] td2 54) := cf_face (sp := 53) (z := "dup") (pre := []) (xs := [2]) (ys := [2, 2]) (aa := 1) (l := 2) (by decide +kernel) (by kernel_rfl) rfl (by show (1 : Int) + (2 - 1) ≤ 32; decide) (nm1 n2) nm0 rfl (by show 1 ≤ 100; decide)
    have r5 : Runs 0 1 (cf [2, 2] [-1, n, k] td2 54) (cf [2, 2, 2] [-1, n, k] td2 56) := cf_lit (st := [2, 2]) (sp := 54) (by decide +kernel) (by decide +kernel) (by show 3 ≤ 32; decide)
    have r6 : Runs 0 1 (cf [2, 2, 2] [-1, n, k] td2 56) (cf [2, 0] [-1, n, k] td2 57) := cf_face (sp := 56) (z := "<") (pre := [2]) (xs := [2, 2]) (ys := [0]) (aa := 2) (l := 1) (by decide +kernel) (by kernel_rfl) rfl (by show (3 : Int) + (1 - 2) ≤ 32; decide) (nm2 n2 n2) (nm1 n2) rfl (by show 3 ≤ 100; decide)
    have r7 : Runs 0 1 (cf [2, 0] [-1, n, k] td2 57) (cf [2] [-1, n, k] td2 68) := cf_bare (y := 0) (bk := [-1, n, k]) (td := td2) (st := [2]) (sp := 57) (g := 68) (by decide +kernel) (by decide +kernel) (by show 2 ≤ 32; decide)
    have r8 : Runs 0 1 (cf [2] [-1, n, k] td2 68) (cf [] [-1, n, k] td2 69) := cf_face (sp := 68) (z := "drop") (pre := []) (xs := [2]) (ys := []) (aa := 1) (l := 0) (by decide +kernel) (by kernel_rfl) rfl (by show (1 : Int) + (0 - 1) ≤ 32; decide) (nm1 n2) nm0 rfl (by show 1 ≤ 100; decide)
    have r9 := cf_loop (st := []) (bk := [-1]) (x := n) (y := k) (td := td2) (sp := 69) (g := 51) (by decide +kernel) (by decide +kernel) (by decide)
    have ra := (((((((r1.app r2).app r3).app r4).app r5).app r6).app r7).app r8).app r9
    by_cases h : k + 1 < n
    · rw [if_pos h] at ra hm
      cases m with
      | zero => omega
      | succ m =>
        have r10 := two_loop (n := n) m (k + 1) td2 (by split <;> omega) (by rw [← e3, List.length_append]; show td.length + 4 + 4 * m < 8000; omega)
        have e4 : td2 ++ twos (k + 1) (m + 1) = td ++ twos k (m + 1 + 1) := by
          rw [← e3, List.append_assoc]
          rfl
        rw [e4] at r10
        rw [show 29 * (m + 1 + 1) = 1 + 11 + 11 + 1 + 1 + 1 + 1 + 1 + 1 + 29 * (m + 1) by omega]
        exact ra.app r10
    · rw [if_neg h] at ra hm
      obtain rfl : m = 0 := by omega
      have e4 : td ++ twos k (0 + 1) = td2 := by
        rw [← e3]
        rfl
      rw [e4]
      exact ra
theorem cf_two {n : Int} {m : Nat} (hn : n = (m : Int) + 1) (ht : td.length + 4 * m < 8000) : Runs 0 (1 + 1 + 29 * (m + 1) + 1) (cf [n] [-1] td 48) (cf [] [] (td ++ twos 0 (m + 1)) (-1)) := by
  have r1 : Runs 0 1 (cf [n] [-1] td 48) (cf [n, 0] [-1] td 50) := cf_lit (st := [n]) (sp := 48) (by decide +kernel) (by decide +kernel) (by show 2 ≤ 32; decide)
  have r2 : Runs 0 1 (cf [n, 0] [-1] td 50) (cf [] [-1, n, 0] td 51) := cf_do (st := []) (bk := [-1]) (sp := 50) (by decide +kernel) (by decide) (by decide)
  have r3 := two_loop (n := n) m 0 td (by split <;> omega) ht
  have r4 : Runs 0 1 (cf [] [-1] (td ++ twos 0 (m + 1)) 71) (cf [] [] (td ++ twos 0 (m + 1)) (-1)) := cf_exit (bk := []) (sp := 71) (by decide +kernel) (by decide)
  exact ((r1.app r2).app r3).app r4
end
end WH
set_option Elab.async false
set_option linter.all false
set_option maxRecDepth 100000
set_option maxHeartbeats 2000000
namespace WH
open PySem PySem.Spec PyProof.Rows L2
def X4 (td st : List Int) : MS := hX cs4 bk4 td st
theorem book_no : (deedEnts ++ bk4).all (fun e => decide (numberOf e.name = none)) = true := by decide +kernel
theorem known_noX {td st : List Int} {z : Str} {i : Int} (h : numberOf z = some i) : known (X4 td st) z = none := by
  unfold known
  refine List.find?_eq_none.mpr fun e he => ?_
  have h1 := of_decide_eq_true (List.all_eq_true.mp book_no e (List.mem_reverse.mp he))
  intro h2
  have h3 : e.name = z := of_decide_eq_true h2
  rw [h3, h] at h1
  cases h1
section
variable {a b x y : Int} {td st : List Int}
theorem x_num (hx : Nm x) (hs : st.length < 32) : Step 0 (itxt x) 0 (X4 td st) (X4 td (st ++ [x])) :=
  step_num (S := X4 td st) (num_itxt hx.1 hx.2) (known_noX (num_itxt hx.1 hx.2)) (Nat.le_trans (itxt_len hx.1 hx.2) (by decide)) rfl (by show (st.length : Int) + 1 ≤ 32; omega) (by show st.length < LIM; unfold LIM; omega)
theorem x_row {z : Str} {e : Ent} {k : Nat} {td' : List Int} (he : ∀ td st, known (X4 td st) z = some e) (hk : e.kind = .row) (hn : e.now = false) (r : Runs 0 k (cf st [-1] td e.start) (cf [] [] td' (-1))) : Step 0 z (1 + k) (X4 td st) (X4 td' []) :=
  step_row (S := X4 td st) (S' := X4 td' []) (he td st) hk hn rfl r
theorem kn_count (td st : List Int) : known (X4 td st) "count" = some (rowE 69 "count" 0 6) := by kernel_rfl
theorem kn_down (td st : List Int) : known (X4 td st) "down" = some (rowE 70 "down" 6 19) := by kernel_rfl
theorem kn_up (td st : List Int) : known (X4 td st) "up" = some (rowE 71 "up" 19 32) := by kernel_rfl
theorem kn_out (td st : List Int) : known (X4 td st) "out" = some (rowE 72 "out" 32 48) := by kernel_rfl
theorem kn_two (td st : List Int) : known (X4 td st) "two" = some (rowE 73 "two" 48 72) := by kernel_rfl
theorem x_count {m : Nat} (ha : Nm a) (hb : Nm b) (hm : (m : Int) + 1 = (if b + 1 < a then a - b else 1)) (h9 : m ≤ 500) (ht : td.length < 5000) : ∃ k : Nat, (k : Int) ≤ 2000 ∧ Steps 0 [itxt a, itxt b, "count"] k (X4 td []) (X4 (td ++ upTo b (m + 1)) []) :=
  ⟨0 + (0 + (1 + (1 + 3 * (m + 1) + 1) + 0)), by omega, .cons (x_num (st := []) ha (by decide)) (.cons (x_num (st := [a]) hb (by show 1 < 32; decide)) (.cons (x_row kn_count rfl rfl (cf_count (b := b) (a := a) (td := td) hm (by omega))) .nil))⟩
theorem x_down {m : Nat} (hm : x = m) (h9 : m ≤ 200) (ht : td.length < 5000) : ∃ k : Nat, (k : Int) ≤ 2000 ∧ Steps 0 [itxt x, "down"] k (X4 td []) (X4 (td ++ downFrom x (m + 1)) []) :=
  ⟨0 + (1 + (8 * (m + 1) + 1 + 1) + 0), by omega, .cons (x_num (st := []) (sm_le (by omega)) (by decide)) (.cons (x_row kn_down rfl rfl (cf_down (td := td) hm (by omega) (by omega))) .nil)⟩
theorem x_up {e : Int} {m : Nat} (he : -100 ≤ e ∧ e ≤ 100) (hx : -100 ≤ x ∧ x ≤ 100) (hm : (m : Int) = (if x < e then e - x else 0)) (ht : td.length < 5000) : ∃ k : Nat, (k : Int) ≤ 2000 ∧ Steps 0 [itxt e, itxt x, "up"] k (X4 td []) (X4 (td ++ upTo x m) []) := by
  obtain ⟨k, hk, r⟩ := cf_up (e := e) (x := x) (td := td) (m := m) (by omega) hm (by omega) (by split at hm <;> omega)
  refine ⟨0 + (0 + (1 + k + 0)), ?_, .cons (x_num (st := []) (sm_le (by omega)) (by decide)) (.cons (x_num (st := [e]) (sm_le (by omega)) (by show 1 < 32; decide)) (.cons (x_row kn_up rfl rfl r) .nil))⟩
  split at hm <;> omega
theorem x_out {m : Nat} (hm : x = 5 - m) (h9 : m ≤ 100) (ht : td.length < 5000) : ∃ k : Nat, (k : Int) ≤ 2000 ∧ Steps 0 [itxt x, "out"] k (X4 td []) (X4 (td ++ upTo x (m + 1)) []) := by
  obtain ⟨k, hk, r⟩ := out_loop m x td hm (by omega) (by omega)
  exact ⟨0 + (1 + k + 0), by omega, .cons (x_num (st := []) (sm_le (by omega)) (by decide)) (.cons (x_row kn_out rfl rfl r) .nil)⟩
theorem x_two {m : Nat} (hm : x = (m : Int) + 1) (h9 : m ≤ 50) (ht : td.length < 5000) : ∃ k : Nat, (k : Int) ≤ 2000 ∧ Steps 0 [itxt x, "two"] k (X4 td []) (X4 (td ++ twos 0 (m + 1)) []) :=
  ⟨0 + (1 + (1 + 1 + 29 * (m + 1) + 1) + 0), by omega, .cons (x_num (st := []) (sm_le (by omega)) (by decide)) (.cons (x_row kn_two rfl rfl (cf_two (td := td) hm (by omega))) .nil)⟩
end
end WH
set_option Elab.async false
set_option linter.all false
set_option maxRecDepth 100000
set_option maxHeartbeats 2000000
namespace WH
open PySem PySem.Spec PyProof.Rows L2
local macro_rules | `(tactic| walk_at "w") => `(tactic| repeat (with_reducible first
  | (refine is_te ?_; first | refine w_var (by with_unfolding_all rfl) ?_ | refine w_c ?_ | refine w_op ?_ | refine w_cb ?_ | refine w_call ?_ | refine w_self (by assumption) (by with_unfolding_all rfl) (by decide +kernel) ?_ | refine w_ife ?_ | refine w_lstN ?_ | (refine is_fld ?_; first | refine w_cells (by assumption) (by assumption) (by with_unfolding_all rfl) ?_ | refine w_stack (by assumption) (by assumption) (by with_unfolding_all rfl) ?_ | refine w_back (by assumption) (by assumption) (by with_unfolding_all rfl) ?_ | refine w_most_cells (by assumption) (by assumption) (by with_unfolding_all rfl) ?_ | refine w_most_stack (by assumption) (by assumption) (by with_unfolding_all rfl) ?_ | refine w_book (by assumption) (by assumption) (by with_unfolding_all rfl) ?_ | refine w_spot (by assumption) (by assumption) (by with_unfolding_all rfl) ?_ | refine w_left (by assumption) (by assumption) (by with_unfolding_all rfl) ?_ | refine w_at (by assumption) (by assumption) (by with_unfolding_all rfl) ?_ | refine w_told (by assumption) (by assumption) (by with_unfolding_all rfl) ?_ | refine w_words (by assumption) (by assumption) (by with_unfolding_all rfl) ?_ | refine w_mode (by assumption) (by assumption) (by with_unfolding_all rfl) ?_ | refine w_ties (by assumption) (by assumption) (by with_unfolding_all rfl) ?_ | refine w_many_deeds (by assumption) (by assumption) (by with_unfolding_all rfl) ?_ | refine w_steps (by assumption) (by assumption) (by with_unfolding_all rfl) ?_ | refine w_fld ?_) | refine w_tupN ?_ | refine w_bm ?_ | refine w_bm0 ?_ | refine w_un ?_ | refine w_sl ?_ | refine w_chain ?_)
  | (refine is_ta ?_; first | refine w_cons ?_ | refine w_nil ?_)
  | refine w_gn ?_
  | (refine is_ts ?_; first | refine w_seq ?_ | refine w_asg ?_ | refine w_ifs ?_ | refine w_drop ?_ | refine w_next ?_ | refine w_ret ?_ | refine w_retN ?_ | refine w_sfld ?_ | refine w_augS ?_ | refine w_aug_spot (by assumption) (by assumption) (by with_unfolding_all rfl) ?_ | refine w_aug_left (by assumption) (by assumption) (by with_unfolding_all rfl) ?_ | refine w_aug_at (by assumption) (by assumption) (by with_unfolding_all rfl) ?_)
  | (refine is_tt ?_; first | refine w_test ?_ | refine w_and ?_ | refine w_or ?_ | refine w_not ?_ | refine w_tB ?_)
  | (refine is_r2 ?_; first | refine w_i0 ?_ | refine w_eqt ?_ | refine w_eqi ?_ | refine w_net ?_ | refine w_nei ?_ | refine w_isN ?_ | refine w_notN ?_ | refine w_rAdd ?_ | refine w_rSub ?_ | refine w_ipI ?_)
  | (refine is_ty ?_; first | refine w_tyS' (by assumption) ?_ | refine w_tyC (by assumption) ?_ | refine w_tyB (by assumption) ?_ | refine w_tyT (by assumption) ?_ | refine w_tyK (by assumption) ?_ | refine w_tyI (by assumption) ?_)
  | (refine is_ln ?_; first | refine w_lnS (by assumption) ?_ | refine w_lnC (by assumption) ?_ | refine w_lnB (by assumption) ?_ | refine w_lnT (by assumption) ?_ | refine w_lnW (by assumption) ?_ | refine w_lnK (by assumption) ?_)
  | (refine is_rf ?_; first | refine e_kind (by assumption) (by assumption) ?_ | refine e_name (by assumption) (by assumption) ?_ | refine e_number (by assumption) (by assumption) ?_ | refine e_start (by assumption) (by assumption) ?_ | refine e_end (by assumption) (by assumption) ?_ | refine e_was (by assumption) (by assumption) ?_ | refine e_worth (by assumption) (by assumption) ?_ | refine e_beyond (by assumption) (by assumption) ?_ | refine e_is_now (by assumption) (by assumption) ?_)
  | refine w_bl ?_ | refine w_mkw ?_ | refine w_mknw ?_ | refine w_part1 ?_ | refine w_neg ?_ | refine w_smk ?_ | refine w_smkn ?_ | refine w_noP ?_ | refine w_part ?_ | refine w_gcut ?_ | refine w_gsub ?_))

theorem hX0 : newHouse 400 32 = hX [] [] [] [] := by
  unfold hX
  rw [List.append_nil]
  rfl
theorem upTo_map : ∀ (n : Nat) (x : Int), (List.range n).map (fun i => V.int (x + (i : Nat))) = iv (upTo x n)
  | 0, _ => rfl
  | n + 1, x => by
    rw [List.range_succ_eq_map, List.map_cons, List.map_map]
    show V.int (x + ((0 : Nat) : Int)) :: _ = V.int x :: iv (upTo (x + 1) n)
    rw [← upTo_map n (x + 1)]
    congr 1
    · rw [Int.natCast_zero, Int.add_zero]
    · refine List.map_congr_left fun i _ => ?_
      show V.int (x + ((i + 1 : Nat) : Int)) = V.int (x + 1 + (i : Int))
      congr 1
      omega
theorem rgV_upTo (x e : Int) : rgV x e = iv (upTo x (e - x).toNat) := upTo_map _ _
theorem downFrom_map : ∀ (n : Nat) (x : Int), rgW x (-1) n = iv (downFrom x n)
  | 0, _ => rfl
  | n + 1, x => by
    unfold rgW
    rw [List.range_succ_eq_map, List.map_cons, List.map_map]
    show V.int (x + ((0 : Nat) : Int) * -1) :: _ = V.int x :: iv (downFrom (x - 1) n)
    rw [← downFrom_map n (x - 1)]
    unfold rgW
    congr 1
    · congr 1
      omega
    · refine List.map_congr_left fun i _ => ?_
      show V.int (x + ((i + 1 : Nat) : Int) * -1) = V.int (x - 1 + (i : Int) * -1)
      congr 1
      omega
theorem twos_snoc : ∀ (m : Nat) (k : Int), twos k (m + 1) = twos k m ++ [k + m, 0, k + m, 1]
  | 0, k => by
    show [k, 0, k, 1] ++ [] = [] ++ [k + ((0 : Nat) : Int), 0, k + ((0 : Nat) : Int), 1]
    rw [Int.natCast_zero, Int.add_zero]
    rfl
  | m + 1, k => by
    show [k, 0, k, 1] ++ twos (k + 1) (m + 1) = ([k, 0, k, 1] ++ twos (k + 1) m) ++ _
    rw [twos_snoc m (k + 1), List.append_assoc]
    have e : k + 1 + (m : Int) = k + ((m + 1 : Nat) : Int) := by omega
    rw [e]
section
variable {P : Program} {w : World} {K : PySem.W.Frag} {mg : Str → Option Value} {base : Heap} {c : Cn} {cls : Err → Addr}
theorem sc_law : FnScope ["_law_script", "_law_h", "_law_house", "_law_turn", "_law_a", "_law_b", "_law_due", "_law_low", "_law_start", "_law_end", "_law_k"] ["_law_script"] (defScope (top 57)) := ⟨rfl, rfl, rfl, by decide +kernel, rfl, by decide +kernel, by decide +kernel⟩
theorem ok_law {f : Addr} {fd : FuncData} (F : FnT K "law" "law" (top 57) [] [] f fd) (g : Gb w K mg) (gl : Gl mg) (T : HCls K c)
    (F__law_mix : CallOk P w K mg base "_law_mix" 1 (spLMix K) [])
    (M_House : MakeOk P w K mg base "House" c.CH 3 (spHouseInit c) [.int 400, .int 32])
    (M_tell1 : MethOk P w K mg base c.CH "tell" 16 (spTell c cls (goInto 0)) [.int 2000, .bl true])
    (F__law_next : CallOk P w K mg base "_law_next" 1 spLNext [])
    (F__law_alike : CallOk P w K mg base "_law_alike" 3 (spLAlike 2) [])
    (F__law_text : CallOk P w K mg base "_law_text" 1 (spLText K) [])
    (M_pile0 : MethOk P w K mg base c.CH "pile" 1 (spPile c) []) : FnOk P w K mg base (L2N.CX P w) 18 f fd ["_law_script"] (spLaw K) := by
  refine F.ok sc_law (fun vs H Q E h => ?_) (fun cdv A outer s H vs Q E hr h => ?_)
  · obtain ⟨a, ns, rfl, _⟩ := h
    rfl
  · obtain ⟨a, ns, rfl, hs, hl, k⟩ := h
    try dsimp only at k
    refine ⟨_, (pss_cons (ps_set (i := 1) sc_law.nd rfl (by first | exact Or.inl rfl | exact Or.inr rfl) (pe_fM F__law_mix (hr.mono (by first | decide | omega)) passN (pa_cons (pv 0) (pa_cons pe_int pa_nil))))
      (pss_cons (ps_set (i := 2) sc_law.nd rfl (by first | exact Or.inl rfl | exact Or.inr rfl) (pe_cM0 M_House (hr.mono (by first | decide | omega)) passN))
      (pss_cons (ps_expr (pe_mM M_tell1 T.cH (hr.mono (by first | decide | omega)) passN (pv 2) (pa_cons pe_str pa_nil)))
      (pss_cons (ps_expr (pe_mM M_tell1 T.cH (hr.mono (by first | decide | omega)) passN (pv 2) (pa_cons pe_str pa_nil)))
      (pss_cons (ps_expr (pe_mM M_tell1 T.cH (hr.mono (by first | decide | omega)) passN (pv 2) (pa_cons pe_str pa_nil)))
      (pss_cons (ps_expr (pe_mM M_tell1 T.cH (hr.mono (by first | decide | omega)) passN (pv 2) (pa_cons pe_str pa_nil)))
      (pss_cons (ps_for (passes_of rfl) rfl (pi_range1 rfl g.range (pa_cons pe_int pa_nil)) (pg_name (i := 3) sc_law.nd rfl (by first | exact Or.inl rfl | exact Or.inr rfl)) (pss_cons (ps_set (i := 4) sc_law.nd rfl (by first | exact Or.inl rfl | exact Or.inr rfl) (pe_ix ix_list (pe_lst (pa_cons (pe_op op_sub (pe_fM F__law_next (hr.mono (by first | decide | omega)) passN (pa_cons (pv 1) (pa_cons pe_int pa_nil))) pe_int) (pa_cons (pe_op op_sub pe_int (pe_fM F__law_next (hr.mono (by first | decide | omega)) passN (pa_cons (pv 1) (pa_cons pe_int pa_nil)))) (pa_cons (pe_op op_add (pe_un un_neg pe_int) (pe_fM F__law_next (hr.mono (by first | decide | omega)) passN (pa_cons (pv 1) (pa_cons pe_int pa_nil)))) pa_nil)))) (pe_fM F__law_next (hr.mono (by first | decide | omega)) passN (pa_cons (pv 1) (pa_cons pe_int pa_nil))) (fun _ _ => rfl)))
      (pss_cons (ps_set (i := 5) sc_law.nd rfl (by first | exact Or.inl rfl | exact Or.inr rfl) (pe_callB (call_mx2 rfl) (by rfl) gl.max (by decide +kernel) (pa_cons (pe_un un_neg pe_int) (pa_cons (pe_callB (call_mn2 rfl) (by rfl) gl.min (by decide +kernel) (pa_cons pe_int (pa_cons (pe_op op_add (pe_op op_sub (pv 4) (pe_fM F__law_next (hr.mono (by first | decide | omega)) passN (pa_cons (pv 1) (pa_cons pe_int pa_nil)))) pe_int) pa_nil))) pa_nil))))
      (pss_cons (ps_set (i := 6) sc_law.nd rfl (by first | exact Or.inl rfl | exact Or.inr rfl) (pe_listRg rfl (by rfl) g.list (prg_2 (by rfl) g.range (pv 5) (pe_callB (call_mx2 rfl) (by rfl) gl.max (by decide +kernel) (pa_cons (pv 4) (pa_cons (pe_op op_add (pv 5) pe_int) pa_nil))))))
      (pss_cons (ps_if (pt_not (pt_val (pe_fM F__law_alike (hr.mono (by first | decide | omega)) passN (pa_cons (pe_mM M_tell1 T.cH (hr.mono (by first | decide | omega)) passN (pv 2) (pa_cons (pe_fM F__law_text (hr.mono (by first | decide | omega)) passN (pa_cons (pe_lst (pa_cons (pv 4) (pa_cons (pv 5) (pa_cons pe_str pa_nil)))) pa_nil)) pa_nil)) (pa_cons (pv 6) pa_nil))))) (pss_one (ps_ret pe_bl)) pss_nil)
      (pss_cons (ps_set (i := 7) sc_law.nd rfl (by first | exact Or.inl rfl | exact Or.inr rfl) (pe_fM F__law_next (hr.mono (by first | decide | omega)) passN (pa_cons (pv 1) (pa_cons pe_int pa_nil))))
      (pss_cons (ps_if (pt_not (pt_val (pe_fM F__law_alike (hr.mono (by first | decide | omega)) passN (pa_cons (pe_mM M_tell1 T.cH (hr.mono (by first | decide | omega)) passN (pv 2) (pa_cons (pe_fM F__law_text (hr.mono (by first | decide | omega)) passN (pa_cons (pe_lst (pa_cons (pv 7) (pa_cons pe_str pa_nil))) pa_nil)) pa_nil)) (pa_cons (pe_ifExp (pt_cmpR op_ge (pv 7) pe_int (nomark _)) (pe_listRg3 rfl (by rfl) g.list (by rfl) g.range (pa_cons (pv 7) (pa_cons (pe_un un_neg pe_int) (pa_cons (pe_un un_neg pe_int) pa_nil)))) (pe_lst (pa_cons (pv 7) pa_nil))) pa_nil))))) (pss_one (ps_ret pe_bl)) pss_nil)
      (pss_cons (ps_par (i := 8) (j := 9) (by rfl) sc_law.nd rfl rfl (by decide) rfl rfl (pa_cons (pe_op op_sub (pe_fM F__law_next (hr.mono (by first | decide | omega)) passN (pa_cons (pv 1) (pa_cons pe_int pa_nil))) pe_int) (pa_cons (pe_op op_sub (pe_fM F__law_next (hr.mono (by first | decide | omega)) passN (pa_cons (pv 1) (pa_cons pe_int pa_nil))) pe_int) pa_nil)) (by rfl))
      (pss_cons (ps_if (pt_not (pt_val (pe_fM F__law_alike (hr.mono (by first | decide | omega)) passN (pa_cons (pe_mM M_tell1 T.cH (hr.mono (by first | decide | omega)) passN (pv 2) (pa_cons (pe_fM F__law_text (hr.mono (by first | decide | omega)) passN (pa_cons (pe_lst (pa_cons (pv 9) (pa_cons (pv 8) (pa_cons pe_str pa_nil)))) pa_nil)) pa_nil)) (pa_cons (pe_listRg rfl (by rfl) g.list (prg_2 (by rfl) g.range (pv 8) (pv 9))) pa_nil))))) (pss_one (ps_ret pe_bl)) pss_nil)
      (pss_cons (ps_if (pt_not (pt_val (pe_fM F__law_alike (hr.mono (by first | decide | omega)) passN (pa_cons (pe_mM M_tell1 T.cH (hr.mono (by first | decide | omega)) passN (pv 2) (pa_cons (pe_fM F__law_text (hr.mono (by first | decide | omega)) passN (pa_cons (pe_lst (pa_cons (pe_op op_sub pe_int (pv 7)) (pa_cons pe_str pa_nil))) pa_nil)) pa_nil)) (pa_cons (pe_listRg rfl (by rfl) g.list (prg_2 (by rfl) g.range (pe_op op_sub pe_int (pv 7)) pe_int)) pa_nil))))) (pss_one (ps_ret pe_bl)) pss_nil)
      (pss_cons (ps_set (i := 6) sc_law.nd rfl (by first | exact Or.inl rfl | exact Or.inr rfl) (pe_lst pa_nil))
      (pss_cons (ps_for (passes_of rfl) rfl (pi_range1 rfl g.range (pa_cons (pe_op op_add pe_int (pv 7)) pa_nil)) (pg_name (i := 10) sc_law.nd rfl (by first | exact Or.inl rfl | exact Or.inr rfl)) (pss_one (ps_set (i := 6) sc_law.nd rfl (by first | exact Or.inl rfl | exact Or.inr rfl) (pe_op op_cat (pv 6) (pe_lst (pa_cons (pv 10) (pa_cons pe_int (pa_cons (pv 10) (pa_cons pe_int pa_nil)))))))))
      (pss_one (ps_if (PW.pt (pw_or (pt_not (pt_val (pe_fM F__law_alike (hr.mono (by first | decide | omega)) passN (pa_cons (pe_mM M_tell1 T.cH (hr.mono (by first | decide | omega)) passN (pv 2) (pa_cons (pe_fM F__law_text (hr.mono (by first | decide | omega)) passN (pa_cons (pe_lst (pa_cons (pe_op op_add pe_int (pv 7)) (pa_cons pe_str pa_nil))) pa_nil)) pa_nil)) (pa_cons (pv 6) pa_nil))))) (pw_or1 (pt_cmpR (op_neE (Nat.lt_of_succ_lt (hu_of hr))) (pe_mM0 M_pile0 T.cH (hr.mono (by first | decide | omega)) passN (pv 2)) (pe_lst pa_nil) (nomark _))))) (pss_one (ps_ret pe_bl)) pss_nil))))))))))))))
      (pss_one (ps_ret pe_bl))))))))), ?_⟩
    try dsimp only [cxOf_K]
    walk_at "w"
    refine ⟨a, ns, 43, rfl, hs, hl, by decide, by decide, fun H1 h l L sm nh nl => ?_⟩
    have W : LS c h l [] [] H1 := ⟨L, fun x hx => (nomatch hx), List.nodup_nil⟩
    clear L sm nh nl
    walk_at "w"
    refine l_house0 W fun p H2 W => ?_
    rw [hX0] at W
    walk_at "w"
    refine l_self W rfl (by decide +kernel) ?_
    walk_at "w"
    refine l_tell (z := tx1) W tw1 (Nat.le_of_ble_eq_true (by decide +kernel)) (Nat.le_of_ble_eq_true (by decide +kernel)) tl1 fun r1 H3 W => ?_
    replace W := W.drop
    walk_at "w"
    refine l_self W rfl (by decide +kernel) ?_
    walk_at "w"
    refine l_tell (z := tx2) W tw2 (Nat.le_of_ble_eq_true (by decide +kernel)) (Nat.le_of_ble_eq_true (by decide +kernel)) tl2 fun r2 H4 W => ?_
    replace W := W.drop
    walk_at "w"
    refine l_self W rfl (by decide +kernel) ?_
    walk_at "w"
    refine l_tell (z := tx3) W tw3 (Nat.le_of_ble_eq_true (by decide +kernel)) (Nat.le_of_ble_eq_true (by decide +kernel)) tl3 fun r3 H5 W => ?_
    replace W := W.drop
    walk_at "w"
    refine l_self W rfl (by decide +kernel) ?_
    walk_at "w"
    refine l_tell (z := tx4) W tw4 (Nat.le_of_ble_eq_true (by decide +kernel)) (Nat.le_of_ble_eq_true (by decide +kernel)) tl4 fun r4 H6 W => ?_
    replace W := W.drop
    walk_at "w"
    replace W : LS c h l [(p, X4 [] [])] [] H6 := W
    unfold tFor iRng1
    walk_at "w"
    refine ⟨4, rfl, by decide, by decide, ?_⟩
    refine for_range (n := 4) (fun i σ H' => (∃ o3 o4 o5 o6 o7 o8 o9 o10, σ = [some (.ref a), some (.ref h), some (.ref p), o3, o4, o5, o6, o7, o8, o9, o10]) ∧ ∃ td, td.length ≤ 200 * i ∧ LS c h l [(p, X4 td [])] [] H') ⟨⟨none, none, none, none, none, none, none, none, rfl⟩, [], Nat.zero_le _, W⟩ (fun i σ H' hi z => ?_) (fun σ H' z => ?_)
    rotate_left
    · obtain ⟨⟨_, _, _, _, _, _, _, _, rfl⟩, _⟩ := z
      walk_at "w"
      exact k _
    clear W
    obtain ⟨⟨o3, o4, o5, o6, o7, o8, o9, o10, rfl⟩, td, htd, W⟩ := z
    have hbk : ∀ {td st}, (X4 td st).book.length ≤ LIM := fun {td st} => by
      show (deedEnts ++ bk4).length ≤ LIM
      exact Nat.le_of_ble_eq_true (by decide +kernel)
    walk_at "w"
    refine l_next W (by decide) (by decide) fun H7 r1 W h10 h11 => ?_
    walk_at "w"
    refine l_next W (by decide) (by decide) fun H8 r2 W h20 h21 => ?_
    walk_at "w"
    refine l_next W (by decide) (by decide) fun H9 r3 W h30 h31 => ?_
    walk_at "w"
    refine l_newI (xs := [r1 - 6, 32767 - r2, -32768 + r3]) W (by show 3 ≤ sizeLine; decide) fun aL H10 W => ?_
    walk_at "w"
    refine l_next W (by decide) (by decide) fun H11 r4 W h40 h41 => ?_
    obtain ⟨av, hm, hy⟩ := list_at (xs := [r1 - 6, 32767 - r2, -32768 + r3]) h40 h41
    refine l_ixL W .here (atI_int (v := .int av) h40 (iv_get hy)) ?_
    have hav : Nm av := by
      unfold Nm
      simp only [List.mem_cons, List.not_mem_nil, or_false] at hm
      rcases hm with rfl | rfl | rfl <;> omega
    clear hm hy
    replace W := W.drop
    walk_at "w"
    refine l_next W (by decide) (by decide) fun H12 r5 W h50 h51 => ?_
    walk_at "w"
    refine w_mn2 ?_
    walk_at "w"
    refine w_max2 ?_
    walk_at "w"
    obtain ⟨bv, ebv, hbv, hba⟩ : ∃ bv : Int, (if (if av - r5 + 3 < 32767 then av - r5 + 3 else 32767) > -32768 then (if av - r5 + 3 < 32767 then av - r5 + 3 else 32767) else -32768) = bv ∧ Nm bv ∧ av - bv ≤ 6 := by
      unfold Nm at hav ⊢
      refine ⟨_, rfl, ?_, ?_⟩
      · split <;> split at * <;> omega
      · split <;> split at * <;> omega
    rw [ebv]
    unfold tLstRg tRg2
    walk_at "w"
    refine w_max2 ?_
    walk_at "w"
    obtain ⟨m, em, hm9⟩ : ∃ m : Nat, (m : Int) + 1 = (if bv + 1 < av then av - bv else 1) ∧ m ≤ 8 := ⟨((if bv + 1 < av then av - bv else 1) - 1).toNat, by split <;> omega, by split <;> omega⟩
    unfold Nm at hav hbv
    refine ⟨bv, _, rfl, rfl, ⟨by omega, by omega, by split <;> omega, by split <;> omega, by split <;> omega⟩, fun q hq => ?_⟩
    have eR : rgV bv (if bv + 1 > av then bv + 1 else av) = iv (upTo bv (m + 1)) := by
      rw [rgV_upTo]
      congr 2
      split at em <;> split <;> omega
    rw [eR]
    replace W := W.new (o := .lst (iv (upTo bv (m + 1)))) hq
    generalize upd H12 q (.lst (iv (upTo bv (m + 1)))) = H13 at W ⊢
    walk_at "w"
    refine l_self W rfl (by decide +kernel) ?_
    walk_at "w"
    refine l_newW [.inl av, .inl bv, .inr "count"] W (by show 3 ≤ 1000; decide) fun aT H14 W => ?_
    walk_at "w"
    have hws := wd_cons (wdI hav) (wd_cons (wdI hbv) (wd_cons (wdB (z := "count") (by decide +kernel)) wd_nil))
    refine l_text W .here (by show 3 ≤ 1000; decide) hws fun H15 W => ?_
    walk_at "w"
    obtain ⟨kk, hkk, st⟩ := x_count (td := td) hav hbv em (by omega) (by omega)
    refine l_tellW (xs := [.inl av, .inl bv, .inr "count"]) W hws (by show 3 ≤ 1000; decide) hbk st hkk fun r6 H16 W => ?_
    have eD : (X4 (td ++ upTo bv (m + 1)) []).told.drop (X4 td []).told.length = upTo bv (m + 1) := List.drop_left
    rw [eD] at W
    walk_at "w"
    refine l_alike 2 W (l_alikeL W .here (.there (.there .here)) (by rw [iv_len, upTo_len]; omega) (alike_ints (n := 0) _)) fun H17 W => ?_
    replace W := W.drop.drop.drop
    walk_at "w"
    refine iteF ?_
    have htd2 : (td ++ upTo bv (m + 1)).length ≤ 200 * i + 9 := by
      rw [List.length_append, upTo_len]
      omega
    obtain ⟨td2, etd2⟩ : ∃ td2, td ++ upTo bv (m + 1) = td2 := ⟨_, rfl⟩
    rw [etd2] at W htd2
    walk_at "w"
    refine l_next W (by decide) (by decide) fun H18 low W hl0 hl1 => ?_
    walk_at "w"
    refine l_self W rfl (by decide +kernel) ?_
    walk_at "w"
    refine l_newW [.inl low, .inr "down"] W (by show 2 ≤ 1000; decide) fun aT H19 W => ?_
    walk_at "w"
    have hws2 := wd_cons (wdI (x := low) ⟨by omega, by omega⟩) (wd_cons (wdB (z := "down") (by decide +kernel)) wd_nil)
    refine l_text W .here (by show 2 ≤ 1000; decide) hws2 fun H20 W => ?_
    walk_at "w"
    obtain ⟨m2, em2⟩ : ∃ m2 : Nat, low = m2 := ⟨low.toNat, by omega⟩
    obtain ⟨kk2, hkk2, st2⟩ := x_down (td := td2) (x := low) (m := m2) em2 (by omega) (by omega)
    refine l_tellW (xs := [.inl low, .inr "down"]) W hws2 (by show 2 ≤ 1000; decide) hbk st2 hkk2 fun r7 H21 W => ?_
    have eD2 : (X4 (td2 ++ downFrom low (m2 + 1)) []).told.drop (X4 td2 []).told.length = downFrom low (m2 + 1) := List.drop_left
    rw [eD2] at W
    walk_at "w"
    refine ite_dec (fun hA => ?_) (fun hA => absurd (by omega) hA)
    unfold tLstRg3
    walk_at "w"
    refine ⟨low, -1, -1, m2 + 1, rfl, ?_, by omega, fun q2 hq2 => ?_⟩
    · have := RgC.neg (i := low) (j := -1) (by omega) (by omega) (by omega) (by omega)
      rw [show (low - -1).toNat = m2 + 1 by omega] at this
      exact this
    rw [downFrom_map]
    replace W := W.new (o := .lst (iv (downFrom low (m2 + 1)))) hq2
    generalize upd H21 q2 (.lst (iv (downFrom low (m2 + 1)))) = H22 at W ⊢
    walk_at "w"
    refine l_alike 2 W (l_alikeL W (.there .here) .here (by
      have : ∀ (n : Nat) (x : Int), (downFrom x n).length = n := fun n => by
        induction n with
        | zero => exact fun _ => rfl
        | succ n ih => exact fun x => congrArg (· + 1) (ih (x - 1))
      rw [iv_len, this]
      omega) (alike_ints (n := 0) _)) fun H23 W => ?_
    replace W := W.drop.drop.drop
    walk_at "w"
    try refine iteF ?_
    have htd3 : (td2 ++ downFrom low (m2 + 1)).length ≤ 200 * i + 18 := by
      have : ∀ (n : Nat) (x : Int), (downFrom x n).length = n := fun n => by
        induction n with
        | zero => exact fun _ => rfl
        | succ n ih => exact fun x => congrArg (· + 1) (ih (x - 1))
      rw [List.length_append, this]
      omega
    obtain ⟨td3, etd3⟩ : ∃ td3, td2 ++ downFrom low (m2 + 1) = td3 := ⟨_, rfl⟩
    rw [etd3] at W htd3
    walk_at "w"
    unfold tPar
    walk_at "w"
    refine l_next W (by decide) (by decide) fun H24 r8 W h80 h81 => ?_
    walk_at "w"
    refine l_next W (by decide) (by decide) fun H25 r9 W h90 h91 => ?_
    walk_at "w"
    refine ⟨_, _, rfl, ?_⟩
    walk_at "w"
    refine l_self W rfl (by decide +kernel) ?_
    walk_at "w"
    refine l_newW [.inl (r9 - 4), .inl (r8 - 4), .inr "up"] W (by show 3 ≤ 1000; decide) fun aT H26 W => ?_
    walk_at "w"
    have hws3 := wd_cons (wdI (x := r9 - 4) ⟨by omega, by omega⟩) (wd_cons (wdI (x := r8 - 4) ⟨by omega, by omega⟩) (wd_cons (wdB (z := "up") (by decide +kernel)) wd_nil))
    refine l_text W .here (by show 3 ≤ 1000; decide) hws3 fun H27 W => ?_
    walk_at "w"
    obtain ⟨m3, em3, hm3⟩ : ∃ m3 : Nat, (m3 : Int) = (if r8 - 4 < r9 - 4 then (r9 - 4) - (r8 - 4) else 0) ∧ m3 ≤ 9 := ⟨(if r8 - 4 < r9 - 4 then (r9 - 4) - (r8 - 4) else 0).toNat, by split <;> omega, by split <;> omega⟩
    obtain ⟨kk3, hkk3, st3⟩ := x_up (td := td3) (e := r9 - 4) (x := r8 - 4) (m := m3) ⟨by omega, by omega⟩ ⟨by omega, by omega⟩ em3 (by omega)
    refine l_tellW (xs := [.inl (r9 - 4), .inl (r8 - 4), .inr "up"]) W hws3 (by show 3 ≤ 1000; decide) hbk st3 hkk3 fun r10 H28 W => ?_
    have eD3 : (X4 (td3 ++ upTo (r8 - 4) m3) []).told.drop (X4 td3 []).told.length = upTo (r8 - 4) m3 := List.drop_left
    rw [eD3] at W
    walk_at "w"
    dsimp only
    walk_at "w"
    refine ⟨_, _, rfl, rfl, ⟨by omega, by omega, by omega, by omega, by omega⟩, fun q3 hq3 => ?_⟩
    have eR3 : rgV (r8 - 4) (r9 - 4) = iv (upTo (r8 - 4) m3) := by
      rw [rgV_upTo]
      congr 2
      split at em3 <;> omega
    rw [eR3]
    replace W := W.new (o := .lst (iv (upTo (r8 - 4) m3))) hq3
    generalize upd H28 q3 (.lst (iv (upTo (r8 - 4) m3))) = H29 at W ⊢
    walk_at "w"
    refine l_alike 2 W (l_alikeL W (.there .here) .here (by rw [iv_len, upTo_len]; omega) (alike_ints (n := 0) _)) fun H30 W => ?_
    replace W := W.drop.drop.drop
    walk_at "w"
    refine iteF ?_
    have htd4 : (td3 ++ upTo (r8 - 4) m3).length ≤ 200 * i + 27 := by
      rw [List.length_append, upTo_len]
      omega
    obtain ⟨td4, etd4⟩ : ∃ td4, td3 ++ upTo (r8 - 4) m3 = td4 := ⟨_, rfl⟩
    rw [etd4] at W htd4
    walk_at "w"
    refine l_self W rfl (by decide +kernel) ?_
    walk_at "w"
    refine l_newW [.inl (5 - low), .inr "out"] W (by show 2 ≤ 1000; decide) fun aT H31 W => ?_
    walk_at "w"
    have hws4 := wd_cons (wdI (x := 5 - low) ⟨by omega, by omega⟩) (wd_cons (wdB (z := "out") (by decide +kernel)) wd_nil)
    refine l_text W .here (by show 2 ≤ 1000; decide) hws4 fun H32 W => ?_
    walk_at "w"
    obtain ⟨kk4, hkk4, st4⟩ := x_out (td := td4) (x := 5 - low) (m := m2) (by omega) (by omega) (by omega)
    refine l_tellW (xs := [.inl (5 - low), .inr "out"]) W hws4 (by show 2 ≤ 1000; decide) hbk st4 hkk4 fun r11 H33 W => ?_
    have eD4 : (X4 (td4 ++ upTo (5 - low) (m2 + 1)) []).told.drop (X4 td4 []).told.length = upTo (5 - low) (m2 + 1) := List.drop_left
    rw [eD4] at W
    walk_at "w"
    dsimp only
    walk_at "w"
    refine ⟨_, _, rfl, rfl, ⟨by omega, by omega, by omega, by omega, by omega⟩, fun q4 hq4 => ?_⟩
    have eR4 : rgV (5 - low) 6 = iv (upTo (5 - low) (m2 + 1)) := by
      rw [rgV_upTo]
      congr 2
      omega
    rw [eR4]
    replace W := W.new (o := .lst (iv (upTo (5 - low) (m2 + 1)))) hq4
    generalize upd H33 q4 (.lst (iv (upTo (5 - low) (m2 + 1)))) = H34 at W ⊢
    walk_at "w"
    refine l_alike 2 W (l_alikeL W (.there .here) .here (by rw [iv_len, upTo_len]; omega) (alike_ints (n := 0) _)) fun H35 W => ?_
    replace W := W.drop.drop.drop
    walk_at "w"
    refine iteF ?_
    have htd5 : (td4 ++ upTo (5 - low) (m2 + 1)).length ≤ 200 * i + 36 := by
      rw [List.length_append, upTo_len]
      omega
    obtain ⟨td5, etd5⟩ : ∃ td5, td4 ++ upTo (5 - low) (m2 + 1) = td5 := ⟨_, rfl⟩
    rw [etd5] at W htd5
    walk_at "w"
    refine l_newI (xs := []) W (Nat.zero_le _) fun aD H36 W => ?_
    refine w_gn ?_
    dsimp only
    refine w_cut (fun σ H' => ∃ aD o10, σ = [some (.ref a), some (.ref h), some (.ref p), some (.int (0 + (i : Int))), some (.int av), some (.int bv), some (.ref aD), some (.int low), some (.int (r8 - 4)), some (.int (r9 - 4)), o10] ∧ LS c h l [(p, X4 td5 [])] [(aD, .lst (iv (twos 0 (1 + low).toNat)))] H') (fun N hN => ?_) (fun σ' H' z => ?_)
    · dsimp only
      walk_at "w"
      refine ⟨1 + low, rfl, by omega, by omega, ?_⟩
      refine for_range (D := { nx := N, rt := _, bk := N, ct := N }) (n := (1 + low).toNat) (fun j σ H' => ∃ aD o10, σ = [some (.ref a), some (.ref h), some (.ref p), some (.int (0 + (i : Int))), some (.int av), some (.int bv), some (.ref aD), some (.int low), some (.int (r8 - 4)), some (.int (r9 - 4)), o10] ∧ LS c h l [(p, X4 td5 [])] [(aD, .lst (iv (twos 0 j)))] H') ⟨aD, o10, rfl, W⟩ (fun j σ H' hj z => ?_) (fun σ H' z => ?_)
      rotate_left
      · exact hN _ _ z
      obtain ⟨aD, o10, rfl, W⟩ := z
      walk_at "w"
      refine l_newI (xs := [0 + (j : Int), 0, 0 + (j : Int), 1]) W (by show 4 ≤ sizeLine; decide) fun aE H37 W => ?_
      refine l_catI W (.there .here) .here (by rw [twos_len]; exact Nat.le_trans (show 4 * j + 4 ≤ 100 by omega) (by decide)) fun aF H38 W => ?_
      rw [← twos_snoc] at W
      walk_at "w"
      exact ⟨_, _, rfl, (W.drop1).drop1⟩
    clear W
    obtain ⟨aD, o10, rfl, W⟩ := z
    rw [show (1 + low).toNat = m2 + 1 by omega] at W
    walk_at "w"
    refine l_self W rfl (by decide +kernel) ?_
    walk_at "w"
    refine l_newW [.inl (1 + low), .inr "two"] W (by show 2 ≤ 1000; decide) fun aT H39 W => ?_
    walk_at "w"
    have hws5 := wd_cons (wdI (x := 1 + low) ⟨by omega, by omega⟩) (wd_cons (wdB (z := "two") (by decide +kernel)) wd_nil)
    refine l_text W .here (by show 2 ≤ 1000; decide) hws5 fun H40 W => ?_
    walk_at "w"
    obtain ⟨kk5, hkk5, st5⟩ := x_two (td := td5) (x := 1 + low) (m := m2) (by omega) (by omega) (by omega)
    refine l_tellW (xs := [.inl (1 + low), .inr "two"]) W hws5 (by show 2 ≤ 1000; decide) hbk st5 hkk5 fun r12 H41 W => ?_
    have eD5 : (X4 (td5 ++ twos 0 (m2 + 1)) []).told.drop (X4 td5 []).told.length = twos 0 (m2 + 1) := List.drop_left
    rw [eD5] at W
    walk_at "w"
    refine l_alike 2 W (l_alikeL W .here (.there (.there .here)) (by rw [iv_len, twos_len]; omega) (alike_ints (n := 0) _)) fun H42 W => ?_
    walk_at "w"
    refine iteF ?_
    walk_at "w"
    refine l_self W rfl (by decide +kernel) ?_
    walk_at "w"
    refine l_pile W fun r13 H43 W => ?_
    walk_at "w"
    refine l_new (xs := []) W (Nat.zero_le _) fun q9 H44 W => ?_
    refine l_neE (xs := []) W (.there .here) .here ?_
    refine ⟨_, rfl, iteF ?_⟩
    walk_at "w"
    refine ⟨⟨_, _, _, _, _, _, _, _, rfl⟩, _, ?_, W.drop.drop.drop.drop.drop⟩
    rw [List.length_append, twos_len]
    omega
end
end WH
set_option Elab.async false
set_option linter.all false
set_option maxRecDepth 100000
set_option maxHeartbeats 4000000
namespace WH
open PySem PySem.Spec PyProof.Rows L2
section
variable {P : Program} {w : World} {K : PySem.W.Frag} {mg : Str → Option Value} {base h : Heap}
theorem to_none {k : Nat} {f : Addr} {fd : FuncData} {ps : List Str} {sp : Sp} (F : FnOk P w K mg base (L2N.CX P w) k f fd ps sp) (hE : ∀ vs H Q E, sp vs H Q E → sp vs H Q fun _ _ _ => False) : FnOk P w K mg base CXn k f fd ps sp :=
  ⟨F.len, fun A outer s H args us vs Q E hr I b r z => codeAny_mono (F.run A outer s H args us vs Q (fun _ _ _ => False) hr I b r (hE vs H Q E z)) fun r s' q => by
    cases r with
    | ok fl => cases fl <;> exact q
    | error e =>
      obtain ⟨_, _, _, _, _, _, _, _, _, _, _, _, z⟩ := q
      exact z.elim⟩
theorem law_fin {fa : Addr} (X : K.In h) (G : h.Ns mainGlobals mg) (S : He.SaysT faD fnD tsD w K) (E : exD K = true) (hfa : mg ("law" : Str) = some (.ref fa)) :
    ∃ fd : FuncData, (∀ (s : Shared) (v : Value), BindsTo s fd ⟨[v], []⟩ [("_law_script", v)]) ∧ ∀ base : Heap, K.In base → base.Ns mainGlobals mg → FnOk P w K mg base CXn 18 fa fd ["_law_script"] (spLaw K) := by
  have D := S.d
  obtain ⟨fd_law, FF⟩ := D.def_ 65 (d := d_law) rfl
  have F_law : FnT K "law" "law" (top 57) [] [] (He.fAd K ("law", none)) fd_law := FF
  have e := hfa.symm.trans (He.glo_ok X G (D.fact 15 (f := .glo "law") rfl))
  cases e
  have b := FunD.bindsA (ps := ["_law_script"]) F_law fun _ _ _ _ _ _ us hl => match us, hl with | [_], _ => rfl
  refine ⟨fd_law, fun s v => b s [v] rfl, fun base _ _ => to_none (sp := spLaw K) ?_ fun vs H Q E z => z⟩
  obtain ⟨c, C⟩ := ctx_of (base := base) (P := P) X G S E
  have g := C.g
  have T := C.T
  have R := C.R
  have gl : Gl mg := { isinstance := He.free_ok X G (D.fact 50 (f := .free "isinstance") rfl), max := He.free_ok X G (D.fact 51 (f := .free "max") rfl), tuple := He.free_ok X G (D.fact 52 (f := .free "tuple") rfl), bool := He.free_ok X G (D.fact 53 (f := .free "bool") rfl), min := He.free_ok X G (D.fact 54 (f := .free "min") rfl) }
  obtain ⟨fd_d__law_mix, FF_d__law_mix⟩ := D.def_ 58 (d := d__law_mix) rfl
  have F_d__law_mix : FnT K "_law_mix" "_law_mix" (top 50) [] [] (He.fAd K ("_law_mix", none)) fd_d__law_mix := FF_d__law_mix
  have F__law_mix : CallOk P w K mg base "_law_mix" 1 (spLMix K) [] := ⟨_, _, _, _, He.glo_ok X G (D.fact 8 (f := .glo "_law_mix") rfl), F_d__law_mix.kp, ok_law_mix (P := P) (w := w) (base := base) F_d__law_mix g, (F_d__law_mix.bindsN (ps := ["_law_script", "_law_seed"]) fun _ _ _ _ _ _ us hl => match us, hl with | [_, _], _ => rfl), .nil⟩
  obtain ⟨fd_d__law_next, FF_d__law_next⟩ := D.def_ 59 (d := d__law_next) rfl
  have F_d__law_next : FnT K "_law_next" "_law_next" (top 51) [] [] (He.fAd K ("_law_next", none)) fd_d__law_next := FF_d__law_next
  have F__law_next : CallOk P w K mg base "_law_next" 1 spLNext [] := ⟨_, _, _, _, He.glo_ok X G (D.fact 9 (f := .glo "_law_next") rfl), F_d__law_next.kp, ok_law_next (P := P) (w := w) (base := base) F_d__law_next g gl, (F_d__law_next.bindsN (ps := ["_law_h", "_law_many"]) fun _ _ _ _ _ _ us hl => match us, hl with | [_, _], _ => rfl), .nil⟩
  obtain ⟨fd_d__law_round, FF_d__law_round⟩ := D.def_ 61 (d := d__law_round) rfl
  have F_d__law_round : FnT K "_law_round" "_law_round" (top 53) [] [] (He.fAd K ("_law_round", none)) fd_d__law_round := FF_d__law_round
  have F__law_round : CallOk P w K mg base "_law_round" 1 spLRound [] := ⟨_, _, _, _, He.glo_ok X G (D.fact 11 (f := .glo "_law_round") rfl), F_d__law_round.kp, ok_law_round (P := P) (w := w) (base := base) F_d__law_round , (F_d__law_round.bindsN (ps := ["_law_number_here"]) fun _ _ _ _ _ _ us hl => match us, hl with | [_], _ => rfl), .nil⟩
  obtain ⟨fd_d__law_number, FF_d__law_number⟩ := D.def_ 62 (d := d__law_number) rfl
  have F_d__law_number : FnT K "_law_number" "_law_number" (top 54) [] [] (He.fAd K ("_law_number", none)) fd_d__law_number := FF_d__law_number
  have F__law_number : CallOk P w K mg base "_law_number" 2 spLNumber [] := ⟨_, _, _, _, He.glo_ok X G (D.fact 12 (f := .glo "_law_number") rfl), F_d__law_number.kp, ok_law_number (P := P) (w := w) (base := base) F_d__law_number F__law_next F__law_round, (F_d__law_number.bindsN (ps := ["_law_h"]) fun _ _ _ _ _ _ us hl => match us, hl with | [_], _ => rfl), .nil⟩
  obtain ⟨fd_d__law_text, FF_d__law_text⟩ := D.def_ 64 (d := d__law_text) rfl
  have F_d__law_text : FnT K "_law_text" "_law_text" (top 56) [] [] (He.fAd K ("_law_text", none)) fd_d__law_text := FF_d__law_text
  have F__law_text : CallOk P w K mg base "_law_text" 1 (spLText K) [] := ⟨_, _, _, _, He.glo_ok X G (D.fact 14 (f := .glo "_law_text") rfl), F_d__law_text.kp, ok_law_text (P := P) (w := w) (base := base) F_d__law_text g, (F_d__law_text.bindsN (ps := ["_law_some"]) fun _ _ _ _ _ _ us hl => match us, hl with | [_], _ => rfl), .nil⟩
  obtain ⟨fd_d__law_alike, FF_d__law_alike⟩ := D.def_ 60 (d := d__law_alike) rfl
  have F_d__law_alike : FnT K "_law_alike" "_law_alike" (top 52) [] [] (He.fAd K ("_law_alike", none)) fd_d__law_alike := FF_d__law_alike
  have F__law_alike0 : CallOk P w K mg base "_law_alike" 1 (spLAlike 0) [] := by
    have O : FnOk P w K mg base (L2N.CX P w) 1 (He.fAd K ("_law_alike", none)) fd_d__law_alike ["_law_found", "_law_due"] (spLAlike 0) := ⟨fun vs H Q E z => by
      obtain ⟨v, u, rfl, _⟩ := z
      rfl, fun A outer s H args us vs Q E _ _ _ _ z => by
      obtain ⟨v, u, rfl, z, _⟩ := z
      exact z.elim⟩
    exact ⟨_, _, _, _, He.glo_ok X G (D.fact 10 (f := .glo "_law_alike") rfl), F_d__law_alike.kp, O, (F_d__law_alike.bindsN (ps := ["_law_found", "_law_due"]) fun _ _ _ _ _ _ us hl => match us, hl with | [_, _], _ => rfl), .nil⟩
  have F__law_alike1 : CallOk P w K mg base "_law_alike" 2 (spLAlike 1) [] := ⟨_, _, _, _, He.glo_ok X G (D.fact 10 (f := .glo "_law_alike") rfl), F_d__law_alike.kp, ok_law_alike (P := P) (w := w) (base := base) (m := 0) F_d__law_alike g gl F__law_alike0, (F_d__law_alike.bindsN (ps := ["_law_found", "_law_due"]) fun _ _ _ _ _ _ us hl => match us, hl with | [_, _], _ => rfl), .nil⟩
  have F__law_alike2 : CallOk P w K mg base "_law_alike" 3 (spLAlike 2) [] := ⟨_, _, _, _, He.glo_ok X G (D.fact 10 (f := .glo "_law_alike") rfl), F_d__law_alike.kp, ok_law_alike (P := P) (w := w) (base := base) (m := 1) F_d__law_alike g gl F__law_alike1, (F_d__law_alike.bindsN (ps := ["_law_found", "_law_due"]) fun _ _ _ _ _ _ us hl => match us, hl with | [_, _], _ => rfl), .nil⟩
  have F__law_alike := F__law_alike2
  exact ok_law (P := P) (w := w) (base := base) (c := c) F_law g gl T F__law_mix C.M_House (C.M_tell1 0) F__law_next F__law_alike F__law_text C.M_pile0
end
end WH
theorem PySem.Challenge.cw_wordhoard_k13_loops_holds : PySem.Challenge.rw_wordhoard_k13_loops.Holds :=
  WH.end_of fun w K mg h fa X G S E e => WH.law_fin (P := (PySem.Challenge.rw_wordhoard_k13_loops).prog) (w := w) X G S E e
