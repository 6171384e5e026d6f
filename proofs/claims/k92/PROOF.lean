import PyProof.Rows.All
import Wide.All
import OpenK.AllK
import Wide.FinOn
import HandS.ForMost
import HandS.Defaults
import HandS.IsInst
import HandS.Deep
import HandS.Strs
import HandS.TupAny
import HandS.Dict
import HandS.DictComp
import HandS.More
import KE.KDictPairs
import KE.GoesZip
import KE.GoesMore
import KE.KItemsList
import PyProof.ListNew
import KE.KUnpackStar
import HandS.Slots
import HandS.Zip
import HandS.HeadHook2
import PySem.Challenge.RW_crossedwishes_k92_whole_settled_by_cours
import KE.SortData
import HandS.TupSets
import HandS.MakeKw
import HandS.NoneIn
import HandS.Finally
import HandS.OwnEq
import HandS.HeadHook4
import HandS.Head0
import HandS.Head1
import HandS.Head2
import HandS.HeadEnd
import KE.KStateDown
import Lean
set_option Elab.async false
set_option linter.all false
set_option maxRecDepth 99999
set_option maxHeartbeats 0
/-! text CwMir -/
/-! The mirror: what the program computes, as plain Lean. -/
namespace Cw
open PySem

abbrev Pair := Str × Int
abbrev Ask := List Pair
structure Wish where
  kind : Str
  worths : List Int
  must : Bool
  needs : Option Pair
abbrev Bounds := List (Str × List Int)
abbrev Plan := List (Str × List Int)
structure Book where
  wishes : List Wish
  bounds : Bounds
inductive Wd where
  | ask | yes | no | rather | bye | here | there
  deriving DecidableEq
structure Letter where
  who : Bool
  word : Wd
  mine : Int
  yours : Int
  number : Int
  pairs : Ask
structure End where
  name : Bool
  wishes : List Wish
  closed : Bool
  turn : Int
  yours : Int
  number : Int
  plan : Plan
  refused : List Pair
  given : Option Ask
  heard : Int
  took : Option Ask
  last : Option Letter
  tries : Int
  echoes : Int
  why : Str

/-! ### plans, asks, answers -/
def planOf (ws : List Wish) : Plan := ws.map fun w => (w.kind, w.worths)
def askTurn (found : Ask) (w : Wish) (left : List Int) : Ask :=
  match left with
  | [] => found
  | x :: _ => match w.needs with
    | none => found ++ [(w.kind, x)]
    | some n => if n ∈ found then found ++ [(w.kind, x)] else found
def askGo : Ask → List (Wish × (Str × List Int)) → Ask
  | found, [] => found
  | found, z :: r => askGo (askTurn found z.1 z.2.2) r
def askOf (ws : List Wish) (pl : Plan) : Ask := askGo [] (ws.zip pl)

def lk {α : Type} (l : List (Str × α)) (k : Str) : Option α := (l.find? fun p => decide (p.1 = k)).map (·.2)
def strange (b : Bounds) (a : Ask) : Ask := a.filter fun p => (lk b p.1).isNone
def others (b : Bounds) (a : Ask) : Ask := (a.filter fun p => !decide (p.2 ∈ (lk b p.1).getD [])).map fun p => (p.1, ((lk b p.1).getD []).headD 0)
def answer (b : Bounds) (a : Ask) : Wd × Ask :=
  if strange b a ≠ [] then (.no, strange b a)
  else if others b a ≠ [] then (.rather, others b a) else (.yes, a)

inductive Beh where
  | agreed (a : Ask)
  | failed (k : Str)
  | plan (p : Plan) (r : List Pair)
def risingB : List Nat → Bool
  | a :: b :: r => decide (a < b) && risingB (b :: r)
  | _ => true
def places (ks ps : List Str) : List Nat := ps.map fun k => ks.findIdx fun j => decide (j = k)
def areRefusals (w : Wd) (ps a : Ask) : Bool :=
  !ps.isEmpty && (ps.all fun p => decide (p.1 ∈ a.map (·.1))) && risingB (places (a.map (·.1)) (ps.map (·.1)))
    && ps.all fun p => decide (p ∈ a) == decide (w = .no)
def leftBehind (w : Wd) (x : Int) (left : List Int) : List Int :=
  if w = .no then [] else if x ∈ left.tail then x :: left.tail.filter (fun y => !decide (y = x)) else left.tail
def leftNow (w : Wd) (ps : Ask) (pl : Plan) : Plan := pl.map fun p => (p.1, match lk ps p.1 with
  | some x => leftBehind w x p.2
  | none => p.2)
def lacking (ws : List Wish) (pl : Plan) : Option Str := (ws.find? fun w => w.must && decide (lk pl w.kind = some [])).map (·.kind)
def leP (p q : Pair) : Bool := if p.1 = q.1 then decide (p.2 ≤ q.2) else decide (p.1.cps.toList < q.1.cps.toList)
def srt (l : List Pair) : List Pair := l.mergeSort leP
def joined (l : List Pair) : List Pair := srt l.eraseDups
def refusedBy (w : Wd) (ps a : Ask) : List Pair := srt (ps.map fun p => (p.1, if w = .no then -1 else (lk a p.1).getD 0))
def behind (ws : List Wish) (pl : Plan) (w : Wd) (ps : Ask) : Option Beh :=
  let a := askOf ws pl
  if w = .yes then (if ps = a then some (.agreed a) else none)
  else if (w = .no ∨ w = .rather) ∧ areRefusals w ps a = true then
    match lacking ws (leftNow w ps pl) with
    | some k => some (.failed k)
    | none => some (.plan (leftNow w ps pl) (refusedBy w ps a))
  else none

/-! ### ends -/
def newEnd (name : Bool) (ws : List Wish) : End :=
  { name, wishes := ws, closed := true, turn := 0, yours := 0, number := 0, plan := [], refused := [], given := none, heard := 0, took := none, last := none, tries := 0, echoes := 0, why := Str.ofString "new" }
def askL (e : End) : Letter := ⟨e.name, .ask, e.turn, e.yours, e.number, askOf e.wishes e.plan⟩
def bareL (e : End) (w : Wd) : Letter := ⟨e.name, w, e.turn, e.yours, 0, []⟩
def begun (e : End) : End :=
  { e with closed := false, number := 1, plan := planOf e.wishes, refused := [], given := none, heard := 0, took := none, last := none, tries := 3, why := Str.ofString "" }
def shut (e : End) (why : Str) : End :=
  { e with closed := true, number := 0, plan := [], refused := [], given := none, heard := 0, took := none, last := none, tries := 0, why := why }
def opened (e : End) : End × List Letter :=
  let e1 := begun { e with turn := e.turn + 1, echoes := 0 }
  (e1, [askL e1])
def closing (e : End) : End × List Letter := (shut e (Str.ofString "closed"), [bareL e .bye])
def ticked (e : End) : End × List Letter :=
  if e.closed then (e, [])
  else if e.tries = 0 then (shut e (Str.ofString "tries"), [bareL e .bye])
  else let e1 := { e with tries := e.tries - 1 }
    (e1, [if e.given.isNone then askL e1 else bareL e1 .here])
def heardAsk (e : End) (l : Letter) (b : Bounds) : End × List Letter :=
  if l.number < e.heard then (e, [])
  else if e.heard < l.number then
    let z := answer b l.pairs
    let m : Letter := ⟨e.name, z.1, e.turn, e.yours, l.number, z.2⟩
    ({ e with heard := l.number, took := if z.1 = .yes then some l.pairs else none, last := some m }, [m])
  else (e, e.last.toList)
def heardAnswer (e : End) (l : Letter) : End × List Letter :=
  if l.number ≠ e.number ∨ e.given.isSome then (e, [])
  else match behind e.wishes e.plan l.word l.pairs with
    | none => (e, [])
    | some (.failed _) => (shut e (Str.ofString "failed"), [bareL e .bye])
    | some (.agreed a) => ({ e with tries := 3, given := some a }, [])
    | some (.plan p r) =>
      let e1 := { e with tries := 3, plan := p, refused := joined (e.refused ++ r), number := e.number + 1 }
      (e1, [askL e1])
def heardWord (e : End) (l : Letter) (b : Bounds) : End × List Letter :=
  match l.word with
  | .ask => heardAsk e l b
  | .bye => (shut e (Str.ofString "bye"), [])
  | .here => (e, [bareL e .there])
  | .there => ({ e with tries := 3 }, [])
  | _ => heardAnswer e l
def backL (n : Bool) (l : Letter) : Letter := ⟨n, .bye, l.yours, l.mine, 0, []⟩
def learn (e : End) (l : Letter) : End × List Letter :=
  if e.yours < l.mine then
    let e1 := begun { e with yours := l.mine }
    (e1, [askL e1])
  else (e, [])
def heard (e : End) (l : Letter) (b : Bounds) : End × List Letter :=
  if e.closed then (e, if l.yours = 0 ∨ l.yours ≠ e.turn ∨ l.word = .bye then [] else [backL e.name l])
  else
    let z := learn e l
    if l.mine = z.1.yours ∧ l.yours = z.1.turn then
      let y := heardWord z.1 l b
      (y.1, z.2 ++ y.2)
    else z

/-! ### the wire -/
structure WS where
  e : Bool → End
  air : List Letter
def put (s : WS) (i : Bool) (z : End × List Letter) (air : List Letter) : WS := ⟨fun j => if j = i then z.1 else s.e j, air ++ z.2⟩
def start (bk : Bool → Book) : WS := ⟨fun i => newEnd i (bk i).wishes, []⟩
def opens (s : WS) (i : Bool) : WS := put s i (opened (s.e i)) s.air
def closes (s : WS) (i : Bool) : WS := put s i (closing (s.e i)) s.air
def ticks (s : WS) (i : Bool) : WS := put s i (ticked (s.e i)) s.air
def comes (bk : Bool → Book) (s : WS) (l : Letter) (air : List Letter) : WS := put s (!l.who) (heard (s.e (!l.who)) l (bk (!l.who)).bounds) air
def isOpen (e : End) : Bool := !e.closed && e.given.isSome && e.took.isSome
def openWith (x y : End) : Bool := isOpen x && isOpen y && decide (x.yours = y.turn) && decide (y.yours = x.turn)
def bothClosed (s : WS) : Bool := (s.e false).closed && (s.e true).closed
def final (s : WS) : Bool := bothClosed s || openWith (s.e false) (s.e true) && s.air.isEmpty
/-- a round of ticks: who isn't closed, as they stand ahead -/
def round (s : WS) : WS :=
  let s1 := if (s.e false).closed then s else ticks s false
  if (s.e true).closed then s1 else ticks s1 true
def comeTo (bk : Bool → Book) (s : WS) : WS := match s.air with
  | [] => round s
  | l :: r => comes bk s l r
/-- settling: k turns of the loop, n letters came -/
inductive Settles (bk : Bool → Book) : Nat → WS → Nat → WS → Prop
  | done {s : WS} : final s = true → Settles bk 0 s 0 s
  | come {k n : Nat} {s s' : WS} {l : Letter} {r : List Letter} : final s = false → s.air = l :: r → Settles bk k (comes bk s l r) n s' → Settles bk (k + 1) s (n + 1) s'
  | tick {k n : Nat} {s s' : WS} : final s = false → s.air = [] → Settles bk k (round s) n s' → Settles bk (k + 1) s n s'

/-! ### courses -/
/-- what a course of most liked answers comes to, from a plan on -/
inductive CTo (ws : List Wish) (b : Bounds) : Plan → Beh → Prop
  | agreed {p : Plan} {a : Ask} : behind ws p (answer b (askOf ws p)).1 (answer b (askOf ws p)).2 = some (.agreed a) → CTo ws b p (.agreed a)
  | failed {p : Plan} {k : Str} : behind ws p (answer b (askOf ws p)).1 (answer b (askOf ws p)).2 = some (.failed k) → CTo ws b p (.failed k)
  | plan {p q : Plan} {r : List Pair} {z : Beh} : behind ws p (answer b (askOf ws p)).1 (answer b (askOf ws p)).2 = some (.plan q r) → CTo ws b q z → CTo ws b p z
end Cw

/-! text CwPlan -/
/-! Plans, asks and answers: what the mathematics needs of them. -/
namespace Cw
open PySem

/-! ### asks -/
theorem askTurn_mem {f : Ask} {w : Wish} {l : List Int} {p : Pair} (h : p ∈ askTurn f w l) : p ∈ f ∨ (p.1 = w.kind ∧ ∃ r, l = p.2 :: r) := by
  unfold askTurn at h
  split at h
  · exact .inl h
  · split at h
    · rcases List.mem_append.mp h with h | h
      · exact .inl h
      · rw [List.mem_singleton] at h
        subst h
        exact .inr ⟨rfl, _, rfl⟩
    · split at h
      · rcases List.mem_append.mp h with h | h
        · exact .inl h
        · rw [List.mem_singleton] at h
          subst h
          exact .inr ⟨rfl, _, rfl⟩
      · exact .inl h
theorem askGo_mem {p : Pair} : ∀ {zs : List (Wish × (Str × List Int))} {f : Ask}, p ∈ askGo f zs → p ∈ f ∨ ∃ z ∈ zs, p.1 = z.1.kind ∧ ∃ r, z.2.2 = p.2 :: r
  | [], f, h => .inl h
  | z :: zs, f, h => by
    rcases askGo_mem (zs := zs) (show p ∈ askGo (askTurn f z.1 z.2.2) zs from h) with h | ⟨y, hy, q⟩
    · rcases askTurn_mem h with h | h
      · exact .inl h
      · exact .inr ⟨z, List.mem_cons_self, h⟩
    · exact .inr ⟨y, List.mem_cons_of_mem _ hy, q⟩
/-- the kinds asked are some of the wishes', in their order -/
theorem askGo_kinds : ∀ (zs : List (Wish × (Str × List Int))) (f : Ask), ∃ ks, (askGo f zs).map (·.1) = f.map (·.1) ++ ks ∧ ks.Sublist (zs.map (·.1.kind))
  | [], f => ⟨[], by simp [askGo], List.Sublist.refl _⟩
  | z :: zs, f => by
    obtain ⟨ks, e, s⟩ := askGo_kinds zs (askTurn f z.1 z.2.2)
    have hz : askTurn f z.1 z.2.2 = f ∨ ∃ x, askTurn f z.1 z.2.2 = f ++ [(z.1.kind, x)] := by
      unfold askTurn
      split
      · exact .inl rfl
      · split
        · exact .inr ⟨_, rfl⟩
        · split
          · exact .inr ⟨_, rfl⟩
          · exact .inl rfl
    show ∃ ks, (askGo (askTurn f z.1 z.2.2) zs).map (·.1) = f.map (·.1) ++ ks ∧ ks.Sublist (z.1.kind :: zs.map (·.1.kind))
    rcases hz with hz | ⟨x, hz⟩
    · rw [hz] at e ⊢
      exact ⟨ks, e, s.cons _⟩
    · rw [hz] at e ⊢
      refine ⟨z.1.kind :: ks, ?_, s.cons_cons _⟩
      rw [e]
      simp
theorem zip_kinds (ws : List Wish) (pl : Plan) : ((ws.zip pl).map (·.1.kind)).Sublist (ws.map (·.kind)) := by
  induction ws generalizing pl with
  | nil => simp
  | cons w ws ih =>
    cases pl with
    | nil => simp
    | cons p pl => simpa using ih pl
theorem askOf_kinds (ws : List Wish) (pl : Plan) : ((askOf ws pl).map (·.1)).Sublist (ws.map (·.kind)) := by
  obtain ⟨ks, e, s⟩ := askGo_kinds (ws.zip pl) []
  unfold askOf
  rw [e]
  simpa using s.trans (zip_kinds ws pl)

/-- a plan of the wishes: their kinds, unlike -/
structure Fit (ws : List Wish) (pl : Plan) : Prop where
  al : pl.map (·.1) = ws.map (·.kind)
  nd : (ws.map (·.kind)).Nodup
theorem Fit.pnd {ws : List Wish} {pl : Plan} (f : Fit ws pl) : (pl.map (·.1)).Nodup := by rw [f.al]; exact f.nd
theorem zip_al : ∀ {ws : List Wish} {pl : Plan}, pl.map (·.1) = ws.map (·.kind) → ∀ z ∈ ws.zip pl, z.1.kind = z.2.1 ∧ z.2 ∈ pl ∧ z.1 ∈ ws
  | [], _, _, z, h => by simp at h
  | _ :: _, [], _, z, h => by simp at h
  | w :: ws, p :: pl, e, z, h => by
    simp only [List.map_cons, List.cons.injEq] at e
    rcases List.mem_cons.mp h with h | h
    · subst h
      exact ⟨e.1.symm, List.mem_cons_self, List.mem_cons_self⟩
    · obtain ⟨a, b, c⟩ := zip_al e.2 z h
      exact ⟨a, List.mem_cons_of_mem _ b, List.mem_cons_of_mem _ c⟩
theorem Fit.ask {ws : List Wish} {pl : Plan} (f : Fit ws pl) {p : Pair} (h : p ∈ askOf ws pl) : ∃ r, (p.1, p.2 :: r) ∈ pl := by
  rcases askGo_mem h with h | ⟨z, hz, e, r, er⟩
  · cases h
  · obtain ⟨a, b, _⟩ := zip_al f.al z hz
    refine ⟨r, ?_⟩
    have : (p.1, p.2 :: r) = z.2 := by rw [← er, e, a]
    rw [this]
    exact b
theorem Fit.asknd {ws : List Wish} {pl : Plan} (f : Fit ws pl) : ((askOf ws pl).map (·.1)).Nodup := f.nd.sublist (askOf_kinds ws pl)
/-- in a list of unlike names one name has one value -/
theorem nd_one {α : Type} : ∀ {l : List (Str × α)} {k : Str} {x y : α}, (l.map (·.1)).Nodup → (k, x) ∈ l → (k, y) ∈ l → x = y
  | [], _, _, _, _, h, _ => by cases h
  | p :: l, k, x, y, nd, h1, h2 => by
    simp only [List.map_cons, List.nodup_cons] at nd
    rcases List.mem_cons.mp h1 with h1 | h1 <;> rcases List.mem_cons.mp h2 with h2 | h2
    · rw [← h1] at h2
      exact (Prod.mk.inj h2).2.symm
    · exact absurd (List.mem_map.mpr ⟨_, h2, rfl⟩) (by rw [← h1] at nd; exact nd.1)
    · exact absurd (List.mem_map.mpr ⟨_, h1, rfl⟩) (by rw [← h2] at nd; exact nd.1)
    · exact nd_one nd.2 h1 h2
theorem lk_mem {α : Type} {l : List (Str × α)} {k : Str} {x : α} (h : lk l k = some x) : (k, x) ∈ l := by
  unfold lk at h
  rw [Option.map_eq_some_iff] at h
  obtain ⟨p, hp, e⟩ := h
  have h1 := List.find?_some hp
  have h2 := List.mem_of_find?_eq_some hp
  have h3 : p.1 = k := of_decide_eq_true h1
  rw [← h3, ← e]
  exact h2
theorem lk_none {α : Type} {l : List (Str × α)} {k : Str} : lk l k = none ↔ k ∉ l.map (·.1) := by
  unfold lk
  rw [Option.map_eq_none_iff, List.find?_eq_none]
  constructor
  · intro h hk
    obtain ⟨p, hp, e⟩ := List.mem_map.mp hk
    exact h p hp (by simp [e])
  · intro h p hp e
    exact h (List.mem_map.mpr ⟨p, hp, of_decide_eq_true e⟩)
theorem lk_of {α : Type} {l : List (Str × α)} {k : Str} {x : α} (nd : (l.map (·.1)).Nodup) (h : (k, x) ∈ l) : lk l k = some x := by
  cases e : lk l k with
  | none => exact absurd (List.mem_map.mpr ⟨_, h, rfl⟩) (lk_none.mp e)
  | some y => rw [nd_one nd h (lk_mem e)]

/-! ### rising places -/
theorem rising_map_succ : ∀ l : List Nat, risingB (l.map (· + 1)) = risingB l
  | [] => rfl
  | [_] => rfl
  | a :: b :: r => by
    have := rising_map_succ (b :: r)
    simp only [List.map_cons] at this ⊢
    unfold risingB
    rw [this]
    congr 1
    exact decide_eq_decide.mpr (by omega)
theorem rising_cons {a : Nat} : ∀ {l : List Nat}, (∀ x ∈ l, a < x) → risingB l = true → risingB (a :: l) = true
  | [], _, _ => rfl
  | b :: r, h, q => by
    unfold risingB
    rw [q, Bool.and_true]
    exact decide_eq_true (h b List.mem_cons_self)
theorem places_cons_ne {k : Str} {ks ps : List Str} (h : k ∉ ps) : places (k :: ks) ps = (places ks ps).map (· + 1) := by
  unfold places
  rw [List.map_map]
  apply List.map_congr_left
  intro j hj
  have : ¬ k = j := fun e => h (e ▸ hj)
  simp [List.findIdx_cons, this]
theorem places_rising : ∀ {ks ps : List Str}, ks.Nodup → ps.Sublist ks → risingB (places ks ps) = true
  | _, [], _, _ => rfl
  | [], p :: ps, _, s => by cases s
  | k :: ks, p :: ps, nd, s => by
    have nd' := List.nodup_cons.mp nd
    cases s with
    | cons _ s =>
      have hk : k ∉ p :: ps := fun h => nd'.1 (s.subset h)
      rw [places_cons_ne hk, rising_map_succ]
      exact places_rising nd'.2 s
    | cons_cons _ s =>
      have hk : k ∉ ps := fun h => nd'.1 (s.subset h)
      have e : places (k :: ks) (k :: ps) = 0 :: (places ks ps).map (· + 1) := by
        rw [← places_cons_ne hk]
        unfold places
        simp [List.findIdx_cons]
      rw [e]
      refine rising_cons (fun x hx => ?_) (by rw [rising_map_succ]; exact places_rising nd'.2 s)
      obtain ⟨y, _, e⟩ := List.mem_map.mp hx
      omega

/-! ### answers -/
/-- bounds each of whose kinds bears a worth -/
def BOk (b : Bounds) : Prop := ∀ p ∈ b, p.2 ≠ []
theorem strange_sub (b : Bounds) (a : Ask) : ((strange b a).map (·.1)).Sublist (a.map (·.1)) := (List.filter_sublist).map _
theorem others_kinds (b : Bounds) (a : Ask) : ((others b a).map (·.1)).Sublist (a.map (·.1)) := by
  unfold others
  rw [List.map_map]
  exact (List.filter_sublist (p := fun p : Pair => !decide (p.2 ∈ (lk b p.1).getD []))).map _
theorem answer_cases (b : Bounds) (a : Ask) : (answer b a = (.no, strange b a) ∧ strange b a ≠ []) ∨ (answer b a = (.rather, others b a) ∧ strange b a = [] ∧ others b a ≠ []) ∨ (answer b a = (.yes, a) ∧ strange b a = [] ∧ others b a = []) := by
  unfold answer
  by_cases h1 : strange b a = []
  · rw [if_neg (fun z => z h1)]
    by_cases h2 : others b a = []
    · rw [if_neg (fun z => z h2)]
      exact .inr (.inr ⟨rfl, h1, h2⟩)
    · rw [if_pos h2]
      exact .inr (.inl ⟨rfl, h1, h2⟩)
  · rw [if_pos h1]
    exact .inl ⟨rfl, h1⟩
theorem answer_refusals {b : Bounds} {a : Ask} (hb : BOk b) (nd : (a.map (·.1)).Nodup) (h : (answer b a).1 ≠ .yes) : ((answer b a).1 = .no ∨ (answer b a).1 = .rather) ∧ areRefusals (answer b a).1 (answer b a).2 a = true := by
  rcases answer_cases b a with ⟨e, n1⟩ | ⟨e, n1, n2⟩ | ⟨e, _, _⟩
  · rw [e]
    refine ⟨.inl rfl, ?_⟩
    show areRefusals .no (strange b a) a = true
    unfold areRefusals
    simp only [Bool.and_eq_true]
    refine ⟨⟨⟨?_, ?_⟩, ?_⟩, ?_⟩
    · cases q : strange b a with
      | nil => exact absurd q n1
      | cons x r => rfl
    · rw [List.all_eq_true]
      intro p hp
      exact decide_eq_true ((strange_sub b a).subset (List.mem_map.mpr ⟨p, hp, rfl⟩))
    · exact places_rising nd (strange_sub b a)
    · rw [List.all_eq_true]
      intro p hp
      have : p ∈ a := (List.mem_filter.mp hp).1
      simp [this]
  · rw [e]
    refine ⟨.inr rfl, ?_⟩
    show areRefusals .rather (others b a) a = true
    unfold areRefusals
    simp only [Bool.and_eq_true]
    refine ⟨⟨⟨?_, ?_⟩, ?_⟩, ?_⟩
    · cases q : others b a with
      | nil => exact absurd q n2
      | cons x r => rfl
    · rw [List.all_eq_true]
      intro p hp
      exact decide_eq_true ((others_kinds b a).subset (List.mem_map.mpr ⟨p, hp, rfl⟩))
    · exact places_rising nd (others_kinds b a)
    · rw [List.all_eq_true]
      intro p hp
      have hno : decide (Wd.rather = Wd.no) = false := by decide
      rw [hno]
      unfold others at hp
      obtain ⟨q, hq, eq⟩ := List.mem_map.mp hp
      obtain ⟨hq1, hq2⟩ := List.mem_filter.mp hq
      have hnin : p ∉ a := fun hpa => by
        have hk : p.1 = q.1 := by rw [← eq]
        have e2 : p.2 = q.2 := nd_one nd (show (p.1, p.2) ∈ a from hpa) (show (p.1, q.2) ∈ a from by rw [hk]; exact hq1)
        cases hl : lk b q.1 with
        | none =>
          have hs : q ∈ strange b a := List.mem_filter.mpr ⟨hq1, by rw [hl]; rfl⟩
          rw [n1] at hs
          cases hs
        | some l =>
          have hne := hb _ (lk_mem hl)
          rw [hl] at eq hq2
          cases l with
          | nil => exact hne rfl
          | cons y r =>
            have hy : p.2 = y := by rw [← eq]; rfl
            rw [← e2, hy] at hq2
            simp at hq2
      simp [hnin]
  · rw [e] at h
    exact absurd rfl h
theorem answer_yes {b : Bounds} {a : Ask} (h : (answer b a).1 = .yes) : answer b a = (.yes, a) ∧ ∀ p ∈ a, ∃ l, lk b p.1 = some l ∧ p.2 ∈ l := by
  rcases answer_cases b a with ⟨e, _⟩ | ⟨e, _⟩ | ⟨e, n1, n2⟩
  · rw [e] at h; cases h
  · rw [e] at h; cases h
  · refine ⟨e, fun p hp => ?_⟩
    cases hl : lk b p.1 with
    | none =>
      have hs : p ∈ strange b a := List.mem_filter.mpr ⟨hp, by rw [hl]; rfl⟩
      rw [n1] at hs
      cases hs
    | some l =>
      refine ⟨l, rfl, ?_⟩
      by_cases hm : p.2 ∈ l
      · exact hm
      · have hs : p ∈ a.filter fun p => !decide (p.2 ∈ (lk b p.1).getD []) := List.mem_filter.mpr ⟨hp, by rw [hl]; simp [hm]⟩
        have : others b a ≠ [] := by
          unfold others
          intro z
          rw [List.map_eq_nil_iff] at z
          rw [z] at hs
          cases hs
        exact absurd n2 this

/-! ### what is behind -/
theorem behind_yes (ws : List Wish) (pl : Plan) : behind ws pl .yes (askOf ws pl) = some (.agreed (askOf ws pl)) := by
  unfold behind
  simp
theorem behind_agreed {ws : List Wish} {pl : Plan} {w : Wd} {ps a : Ask} (h : behind ws pl w ps = some (.agreed a)) : w = .yes ∧ ps = askOf ws pl ∧ a = askOf ws pl := by
  unfold behind at h
  by_cases hw : w = .yes
  · simp only [hw, if_true] at h
    split at h
    · rename_i e
      exact ⟨hw, e, by cases h; rfl⟩
    · cases h
  · simp only [hw, if_false] at h
    split at h
    · split at h <;> cases h
    · cases h
theorem behind_plan {ws : List Wish} {pl : Plan} {w : Wd} {ps : Ask} {p : Plan} {r : List Pair} (h : behind ws pl w ps = some (.plan p r)) :
    (w = .no ∨ w = .rather) ∧ areRefusals w ps (askOf ws pl) = true ∧ p = leftNow w ps pl ∧ r = refusedBy w ps (askOf ws pl) := by
  unfold behind at h
  by_cases hw : w = .yes
  · simp only [hw, if_true] at h
    split at h <;> cases h
  · simp only [hw, if_false] at h
    split at h
    · rename_i hr
      split at h
      · cases h
      · cases h
        exact ⟨hr.1, hr.2, rfl, rfl⟩
    · cases h
/-- a bounds' own answer always brings something -/
theorem behind_some {ws : List Wish} {pl : Plan} {b : Bounds} (hb : BOk b) (f : Fit ws pl) : ∃ z, behind ws pl (answer b (askOf ws pl)).1 (answer b (askOf ws pl)).2 = some z := by
  by_cases hy : (answer b (askOf ws pl)).1 = .yes
  · obtain ⟨e, _⟩ := answer_yes hy
    rw [e]
    exact ⟨_, behind_yes ws pl⟩
  · obtain ⟨h1, h2⟩ := answer_refusals hb f.asknd hy
    unfold behind
    simp only [hy, if_false]
    rw [if_pos ⟨h1, h2⟩]
    split
    · exact ⟨_, rfl⟩
    · exact ⟨_, rfl⟩
theorem refusals_mem {w : Wd} {ps a : Ask} (h : areRefusals w ps a = true) : ps ≠ [] ∧ ∀ p ∈ ps, p.1 ∈ a.map (·.1) := by
  unfold areRefusals at h
  simp only [Bool.and_eq_true] at h
  refine ⟨fun e => ?_, fun p hp => ?_⟩
  · rw [e] at h
    exact absurd h.1.1.1 (by decide)
  · exact of_decide_eq_true (List.all_eq_true.mp h.1.1.2 p hp)
theorem leftNow_kinds (w : Wd) (ps : Ask) (pl : Plan) : (leftNow w ps pl).map (·.1) = pl.map (·.1) := by
  unfold leftNow
  rw [List.map_map]
  rfl
theorem Fit.now {ws : List Wish} {pl : Plan} (f : Fit ws pl) (w : Wd) (ps : Ask) : Fit ws (leftNow w ps pl) := ⟨by rw [leftNow_kinds]; exact f.al, f.nd⟩

/-! ### what is left lessens -/
def many : Plan → Nat
  | [] => 0
  | p :: r => p.2.length + many r
theorem leftBehind_le (w : Wd) (x : Int) (l : List Int) : (leftBehind w x l).length ≤ l.length := by
  unfold leftBehind
  split
  · simp
  · split
    · rename_i h
      cases l with
      | nil => simp at h
      | cons y r =>
        simp only [List.tail_cons, List.length_cons]
        have := List.length_filter_le (fun y => !decide (y = x)) r
        omega
    · simp
theorem leftBehind_lt (w : Wd) (x y : Int) (r : List Int) : (leftBehind w x (y :: r)).length < (y :: r).length := by
  unfold leftBehind
  split
  · simp
  · split
    · rename_i h
      simp only [List.tail_cons, List.length_cons] at h ⊢
      have h2 : (r.filter fun y => !decide (y = x)).length < r.length := by
        rw [List.length_filter_lt_length_iff_exists]
        exact ⟨x, h, by simp⟩
      omega
    · simp
theorem many_le (w : Wd) (ps : Ask) : ∀ pl : Plan, many (leftNow w ps pl) ≤ many pl
  | [] => Nat.le_refl _
  | p :: r => by
    have ih := many_le w ps r
    unfold leftNow at ih ⊢
    simp only [List.map_cons, many]
    split
    · have := leftBehind_le w ‹Int› p.2
      omega
    · omega
theorem many_lt (w : Wd) (ps : Ask) {k : Str} {y x : Int} {l : List Int} (hk : lk ps k = some x) : ∀ {pl : Plan}, (k, y :: l) ∈ pl → many (leftNow w ps pl) < many pl
  | p :: r, h => by
    rcases List.mem_cons.mp h with h | h
    · subst h
      have ih := many_le w ps r
      unfold leftNow at ih ⊢
      simp only [List.map_cons, many, hk]
      have := leftBehind_lt w x y l
      simp only [List.length_cons] at this ⊢
      omega
    · have ih := many_lt w ps hk h
      unfold leftNow at ih ⊢
      simp only [List.map_cons, many]
      split
      · have := leftBehind_le w ‹Int› p.2
        omega
      · omega
theorem lk_some_of_mem {α : Type} {l : List (Str × α)} {k : Str} (h : k ∈ l.map (·.1)) : ∃ x, lk l k = some x := by
  cases e : lk l k with
  | none => exact absurd h (lk_none.mp e)
  | some x => exact ⟨x, rfl⟩
theorem behind_many {ws : List Wish} {pl : Plan} {w : Wd} {ps : Ask} {p : Plan} {r : List Pair} (f : Fit ws pl) (h : behind ws pl w ps = some (.plan p r)) : many p < many pl := by
  obtain ⟨_, h2, rfl, _⟩ := behind_plan h
  obtain ⟨h3, h4⟩ := refusals_mem h2
  cases ps with
  | nil => exact absurd rfl h3
  | cons q qs =>
    have hk := h4 q List.mem_cons_self
    obtain ⟨z, hz, ez⟩ := List.mem_map.mp hk
    obtain ⟨l, hl⟩ := f.ask hz
    obtain ⟨x, hx⟩ := lk_some_of_mem (l := q :: qs) (k := z.1) (List.mem_map.mpr ⟨q, List.mem_cons_self, ez.symm⟩)
    exact many_lt w _ hx hl
theorem many_planOf (ws : List Wish) : many (planOf ws) = (ws.map fun w => w.worths.length).sum := by
  induction ws with
  | nil => rfl
  | cons w ws ih =>
    show w.worths.length + many (planOf ws) = _
    rw [ih]
    simp

/-! ### a plan and what was refused -/
structure PlanOk (ws : List Wish) (pl : Plan) (rf : List Pair) : Prop where
  fit : Fit ws pl
  nd : ∀ p ∈ pl, p.2.Nodup
  no : ∀ p ∈ pl, ∀ x ∈ p.2, (p.1, x) ∉ rf
  all : ∀ p ∈ pl, (p.1, -1) ∈ rf → p.2 = []
  pos : ∀ p ∈ pl, ∀ x ∈ p.2, 0 ≤ x
  sub : ∀ p ∈ pl, ∀ x ∈ p.2, ∃ w ∈ ws, w.kind = p.1 ∧ x ∈ w.worths
/-- wishes as the mathematics wants them -/
structure WOk (ws : List Wish) : Prop where
  nd : (ws.map (·.kind)).Nodup
  wnd : ∀ w ∈ ws, w.worths.Nodup
  pos : ∀ w ∈ ws, ∀ x ∈ w.worths, 0 ≤ x
theorem PlanOk.first {ws : List Wish} (h : WOk ws) : PlanOk ws (planOf ws) [] where
  fit := ⟨by unfold planOf; rw [List.map_map]; rfl, h.nd⟩
  nd := fun p hp => by
    obtain ⟨w, hw, rfl⟩ := List.mem_map.mp hp
    exact h.wnd w hw
  no := fun _ _ _ _ z => by cases z
  all := fun _ _ z => by cases z
  pos := fun p hp => by
    obtain ⟨w, hw, rfl⟩ := List.mem_map.mp hp
    exact h.pos w hw
  sub := fun p hp x hx => by
    obtain ⟨w, hw, rfl⟩ := List.mem_map.mp hp
    exact ⟨w, hw, rfl, hx⟩
theorem mem_srt {l : List Pair} {p : Pair} : p ∈ srt l ↔ p ∈ l := (List.mergeSort_perm l leP).mem_iff
theorem mem_joined {l : List Pair} {p : Pair} : p ∈ joined l ↔ p ∈ l := by
  unfold joined
  rw [mem_srt, List.mem_eraseDups]
theorem leftBehind_sub {w : Wd} {x y : Int} {l : List Int} (h : y ∈ leftBehind w x l) : y ∈ l.tail := by
  unfold leftBehind at h
  split at h
  · cases h
  · split at h
    · rename_i hx
      rcases List.mem_cons.mp h with h | h
      · rw [h]; exact hx
      · exact (List.mem_filter.mp h).1
    · exact h
theorem leftBehind_nd {w : Wd} {x : Int} {l : List Int} (h : l.Nodup) : (leftBehind w x l).Nodup := by
  unfold leftBehind
  have ht : l.tail.Nodup := h.sublist (List.tail_sublist l)
  split
  · exact List.nodup_nil
  · split
    · refine List.nodup_cons.mpr ⟨fun z => ?_, ht.sublist List.filter_sublist⟩
      have := (List.mem_filter.mp z).2
      simp at this
    · exact ht
theorem PlanOk.step {ws : List Wish} {pl : Plan} {rf : List Pair} {w : Wd} {ps : Ask} {p : Plan} {r : List Pair} (o : PlanOk ws pl rf) (h : behind ws pl w ps = some (.plan p r)) : PlanOk ws p (joined (rf ++ r)) := by
  obtain ⟨hw, h2, rfl, rfl⟩ := behind_plan h
  obtain ⟨_, h4⟩ := refusals_mem h2
  have hr : ∀ k x, (k, x) ∈ refusedBy w ps (askOf ws pl) → k ∈ ps.map (·.1) ∧ x = (if w = .no then -1 else (lk (askOf ws pl) k).getD 0) := fun k x hk => by
    unfold refusedBy at hk
    rw [mem_srt] at hk
    obtain ⟨q, hq, e⟩ := List.mem_map.mp hk
    injection e with e1 e2
    exact ⟨List.mem_map.mpr ⟨q, hq, e1⟩, by rw [← e2, ← e1]⟩
  have each : ∀ q ∈ leftNow w ps pl, ∃ l, (q.1, l) ∈ pl ∧ ((lk ps q.1 = none ∧ q.2 = l) ∨ ∃ x, lk ps q.1 = some x ∧ q.2 = leftBehind w x l) := fun q hq => by
    unfold leftNow at hq
    obtain ⟨z, hz, e⟩ := List.mem_map.mp hq
    cases e1 : lk ps z.1 with
    | none =>
      rw [e1] at e
      subst e
      exact ⟨z.2, hz, .inl ⟨e1, rfl⟩⟩
    | some x =>
      rw [e1] at e
      subst e
      exact ⟨z.2, hz, .inr ⟨x, e1, rfl⟩⟩
  have subl : ∀ q ∈ leftNow w ps pl, ∃ l, (q.1, l) ∈ pl ∧ (∀ y ∈ q.2, y ∈ l) := fun q hq => by
    obtain ⟨l, hl, q2⟩ := each q hq
    rcases q2 with ⟨_, e⟩ | ⟨x, _, e⟩
    · exact ⟨l, hl, fun y hy => by rw [← e]; exact hy⟩
    · exact ⟨l, hl, fun y hy => List.mem_of_mem_tail (leftBehind_sub (by rw [← e]; exact hy))⟩
  refine ⟨o.fit.now w ps, fun q hq => ?_, fun q hq x hx hm => ?_, fun q hq hm => ?_, fun q hq x hx => ?_, fun q hq x hx => ?_⟩
  · obtain ⟨l, hl, q2⟩ := each q hq
    rcases q2 with ⟨_, e⟩ | ⟨x, _, e⟩
    · rw [e]; exact o.nd _ hl
    · rw [e]; exact leftBehind_nd (o.nd _ hl)
  · obtain ⟨l, hl, q2⟩ := each q hq
    obtain ⟨l', hl', hs⟩ := subl q hq
    have hxl : x ∈ l' := hs x hx
    rcases List.mem_append.mp (mem_joined.mp hm) with hm | hm
    · exact o.no _ hl' x hxl hm
    · obtain ⟨m1, m2⟩ := hr _ _ hm
      rcases q2 with ⟨e1, _⟩ | ⟨y, e1, e2⟩
      · exact lk_none.mp e1 m1
      · obtain ⟨z, hz, ez⟩ := List.mem_map.mp m1
        have ha := h4 z hz
        rw [ez] at ha
        obtain ⟨v, hv⟩ := lk_some_of_mem ha
        obtain ⟨r', hr'⟩ := o.fit.ask (lk_mem hv)
        have el : l = v :: r' := nd_one o.fit.pnd hl hr'
        subst el
        by_cases hwn : w = .no
        · rw [if_pos hwn] at m2
          have := o.pos _ hl' x hxl
          omega
        · rw [if_neg hwn, hv] at m2
          have m3 : x = v := m2
          rw [e2] at hx
          have := leftBehind_sub hx
          have nd := o.nd _ hl
          rw [m3] at this
          exact (List.nodup_cons.mp nd).1 this
  · obtain ⟨l, hl, q2⟩ := each q hq
    rcases List.mem_append.mp (mem_joined.mp hm) with hm | hm
    · have e := o.all _ hl hm
      rcases q2 with ⟨_, e2⟩ | ⟨x, _, e2⟩
      · rw [e2]; exact e
      · have e' : l = [] := e
        rw [e2, e']
        unfold leftBehind
        simp
    · obtain ⟨m1, m2⟩ := hr _ _ hm
      rcases q2 with ⟨e1, _⟩ | ⟨y, e1, e2⟩
      · exact absurd m1 (lk_none.mp e1)
      · by_cases hwn : w = .no
        · rw [e2]
          unfold leftBehind
          rw [if_pos hwn]
        · obtain ⟨z, hz, ez⟩ := List.mem_map.mp m1
          have ha := h4 z hz
          rw [ez] at ha
          obtain ⟨v, hv⟩ := lk_some_of_mem ha
          obtain ⟨r', hr'⟩ := o.fit.ask (lk_mem hv)
          rw [if_neg hwn, hv] at m2
          have m3 : (-1 : Int) = v := m2
          have := o.pos _ hr' v List.mem_cons_self
          omega
  · obtain ⟨l', hl', hs⟩ := subl q hq
    exact o.pos _ hl' x (hs x hx)
  · obtain ⟨l', hl', hs⟩ := subl q hq
    exact o.sub _ hl' x (hs x hx)
/-- what is asked is not refused, and is of the wish's worths -/
theorem PlanOk.ask {ws : List Wish} {pl : Plan} {rf : List Pair} (o : PlanOk ws pl rf) {p : Pair} (h : p ∈ askOf ws pl) : p ∉ rf ∧ (p.1, -1) ∉ rf ∧ ∃ w ∈ ws, w.kind = p.1 ∧ p.2 ∈ w.worths := by
  obtain ⟨r, hr⟩ := o.fit.ask h
  refine ⟨o.no _ hr p.2 List.mem_cons_self, fun z => ?_, o.sub _ hr p.2 List.mem_cons_self⟩
  have := o.all _ hr z
  cases this

/-! ### courses -/
/-- plans that a course comes by -/
inductive Reach (ws : List Wish) (b : Bounds) : Plan → Prop
  | first : Reach ws b (planOf ws)
  | step {p q : Plan} {r : List Pair} : Reach ws b p → behind ws p (answer b (askOf ws p)).1 (answer b (askOf ws p)).2 = some (.plan q r) → Reach ws b q
theorem CTo.det {ws : List Wish} {b : Bounds} {p : Plan} {x y : Beh} (h1 : CTo ws b p x) (h2 : CTo ws b p y) : x = y := by
  induction h1 with
  | agreed e => cases h2 with
    | agreed e2 => rw [e] at e2; cases e2; rfl
    | failed e2 => rw [e] at e2; cases e2
    | plan e2 _ => rw [e] at e2; cases e2
  | failed e => cases h2 with
    | agreed e2 => rw [e] at e2; cases e2
    | failed e2 => rw [e] at e2; cases e2; rfl
    | plan e2 _ => rw [e] at e2; cases e2
  | plan e _ ih => cases h2 with
    | agreed e2 => rw [e] at e2; cases e2
    | failed e2 => rw [e] at e2; cases e2
    | plan e2 h => rw [e] at e2; cases e2; exact ih h
theorem Reach.fit {ws : List Wish} {b : Bounds} (h : (ws.map (·.kind)).Nodup) {p : Plan} (r : Reach ws b p) : Fit ws p := by
  induction r with
  | first => exact ⟨by unfold planOf; rw [List.map_map]; rfl, h⟩
  | step _ e ih =>
    obtain ⟨_, _, rfl, _⟩ := behind_plan e
    exact ih.now _ _
theorem CTo.reach {ws : List Wish} {b : Bounds} {p : Plan} {z : Beh} (r : Reach ws b p) (h : CTo ws b (planOf ws) z) : CTo ws b p z := by
  induction r with
  | first => exact h
  | step _ e ih => cases ih with
    | agreed e2 => rw [e] at e2; cases e2
    | failed e2 => rw [e] at e2; cases e2
    | plan e2 h => rw [e] at e2; cases e2; exact h
theorem CTo.ex {ws : List Wish} {b : Bounds} (hb : BOk b) : ∀ (n : Nat) {p : Plan}, many p ≤ n → Fit ws p → ∃ z, CTo ws b p z ∧ ((∃ a, z = .agreed a) ∨ ∃ k, z = .failed k)
  | n, p, hn, f => by
    obtain ⟨z, hz⟩ := behind_some hb f
    cases z with
    | agreed a => exact ⟨_, .agreed hz, .inl ⟨_, rfl⟩⟩
    | failed k => exact ⟨_, .failed hz, .inr ⟨_, rfl⟩⟩
    | plan q r =>
      have hl := behind_many f hz
      obtain ⟨_, _, e, _⟩ := behind_plan hz
      cases n with
      | zero => omega
      | succ n =>
        obtain ⟨z, h, c⟩ := CTo.ex hb n (p := q) (by omega) (by rw [e]; exact f.now _ _)
        exact ⟨z, .plan hz h, c⟩
end Cw

/-! text CwInv -/
/-! What holds of two ends and the letters between, whatever comes, is lost or comes twice. -/
namespace Cw
open PySem

def isAns (w : Wd) : Prop := w = .yes ∨ w = .no ∨ w = .rather
/-- a letter that X wrote, for Y -/
structure LOk (X Y : End) (l : Letter) : Prop where
  m1 : 1 ≤ l.mine
  m2 : l.mine ≤ X.turn
  y1 : 0 ≤ l.yours
  y2 : l.yours ≤ Y.turn
  y3 : l.word ≠ .bye → l.yours ≤ X.yours
  n1 : l.word = .ask → 1 ≤ l.number
  a1 : l.word = .ask → l.mine = X.turn → X.closed = false → l.yours = X.yours → l.number ≤ X.number ∧ (l.number = X.number → l.pairs = askOf X.wishes X.plan)
  b1 : isAns l.word → l.yours = Y.turn → l.mine ≤ Y.yours
  b2 : isAns l.word → l.mine = X.turn → X.closed = false → l.yours = X.yours → 1 ≤ l.number ∧ l.number ≤ X.heard ∧ (l.number = X.heard → X.last = some l)
/-- an end X beside Y; ws: X's wishes, b: Y's bounds -/
structure EOk (i : Bool) (ws : List Wish) (b : Bounds) (X Y : End) : Prop where
  nm : X.name = i
  wi : X.wishes = ws
  t0 : 0 ≤ X.turn
  t1 : X.closed = false → 1 ≤ X.turn
  u0 : 0 ≤ X.yours
  u1 : X.yours ≤ Y.turn
  n1 : X.closed = false → 1 ≤ X.number
  h0 : 0 ≤ X.heard
  l0 : X.heard = 0 → X.last = none ∧ X.took = none
  l1 : 1 ≤ X.heard → ∃ w ps, isAns w ∧ X.last = some ⟨i, w, X.turn, X.yours, X.heard, ps⟩
  s : X.closed = false → Y.closed = false → Y.yours = X.turn → X.yours = Y.turn → Y.heard ≤ X.number ∧ (Y.heard = X.number →
    Y.last = some ⟨!i, (answer b (askOf X.wishes X.plan)).1, Y.turn, Y.yours, Y.heard, (answer b (askOf X.wishes X.plan)).2⟩ ∧ Y.took = if (answer b (askOf X.wishes X.plan)).1 = .yes then some (askOf X.wishes X.plan) else none)
  s0 : X.closed = false → Y.closed = false → Y.yours = X.turn → X.yours ≠ Y.turn → Y.heard = 0
  g : X.closed = false → Y.closed = false → X.yours = Y.turn → ∀ g, X.given = some g → Y.yours = X.turn ∧ Y.heard = X.number ∧ g = askOf X.wishes X.plan ∧ Y.took = some g ∧ (answer b g).1 = .yes
  p : X.closed = false → Y.closed = false → X.yours = Y.turn → Reach ws b X.plan
  q : X.closed = false → PlanOk ws X.plan X.refused
/-- both, and what each writes for -/
structure Two (i : Bool) (ws wo : List Wish) (b bo : Bounds) (X Y : End) : Prop where
  x : EOk i ws bo X Y
  y : EOk (!i) wo b Y X
/-- X has become X' and written out -/
structure Step (i : Bool) (ws wo : List Wish) (b bo : Bounds) (X Y X' : End) (out : List Letter) : Prop where
  two : Two i ws wo b bo X' Y
  mine : ∀ l : Letter, LOk X Y l → LOk X' Y l
  theirs : ∀ l : Letter, LOk Y X l → LOk Y X' l
  new : ∀ l ∈ out, l.who = i ∧ LOk X' Y l

section
variable {i : Bool} {ws wo : List Wish} {b bo : Bounds} {X Y X' X2 : End} {l : Letter}
theorem Step.refl (h : Two i ws wo b bo X Y) : Step i ws wo b bo X Y X [] := ⟨h, fun _ h => h, fun _ h => h, fun _ h => by cases h⟩
theorem Step.trans {o1 o2 : List Letter} (a : Step i ws wo b bo X Y X' o1) (c : Step i ws wo b bo X' Y X2 o2) : Step i ws wo b bo X Y X2 (o1 ++ o2) :=
  ⟨c.two, fun l h => c.mine l (a.mine l h), fun l h => c.theirs l (a.theirs l h), fun l h => (List.mem_append.mp h).elim (fun h => ⟨(a.new l h).1, c.mine l (a.new l h).2⟩) (c.new l)⟩

/-- a letter of an end that isn't closed, as it stands -/
theorem bare_ok (h : Two i ws wo b bo X Y) (hc : 1 ≤ X.turn) {w : Wd} (hw : w = .bye ∨ w = .here ∨ w = .there) : (bareL X w).who = i ∧ LOk X Y (bareL X w) := by
  have hx := h.x
  refine ⟨hx.nm, ⟨hc, Int.le_refl _, hx.u0, hx.u1, fun _ => Int.le_refl _, fun z => ?_, fun z => ?_, fun z => ?_, fun z => ?_⟩⟩
  · have z' : w = .ask := z
    rw [z'] at hw; simp at hw
  · have z' : w = .ask := z
    rw [z'] at hw; simp at hw
  · have z' : isAns w := z
    rcases hw with rfl | rfl | rfl <;> simp [isAns] at z'
  · have z' : isAns w := z
    rcases hw with rfl | rfl | rfl <;> simp [isAns] at z'
theorem ask_ok (h : Two i ws wo b bo X Y) (hc : X.closed = false) : (askL X).who = i ∧ LOk X Y (askL X) := by
  have hx := h.x
  refine ⟨hx.nm, ⟨hx.t1 hc, Int.le_refl _, hx.u0, hx.u1, fun _ => Int.le_refl _, fun _ => hx.n1 hc, fun _ _ _ _ => ⟨Int.le_refl _, fun _ => rfl⟩, fun z => ?_, fun z => ?_⟩⟩
  · have z' : isAns .ask := z
    simp [isAns] at z'
  · have z' : isAns .ask := z
    simp [isAns] at z'
/-- shut -/
theorem step_shut (h : Two i ws wo b bo X Y) (hc : X.closed = false) (why : Str) : Step i ws wo b bo X Y (shut X why) [] ∧ Step i ws wo b bo X Y (shut X why) [bareL X .bye] := by
  have hx := h.x
  have hy := h.y
  have two : Two i ws wo b bo (shut X why) Y := by
    refine ⟨⟨hx.nm, hx.wi, hx.t0, fun z => ?_, hx.u0, hx.u1, fun z => ?_, Int.le_refl _, fun _ => ⟨rfl, rfl⟩, fun z => ?_, fun z => ?_, fun z => ?_, fun z => ?_, fun z => ?_, fun z => ?_⟩,
      ⟨hy.nm, hy.wi, hy.t0, hy.t1, hy.u0, hy.u1, hy.n1, hy.h0, hy.l0, hy.l1, fun _ z => ?_, fun _ z => ?_, fun _ z => ?_, fun _ z => ?_, hy.q⟩⟩
    all_goals first | cases z | exact absurd z (by show ¬ (1 : Int) ≤ 0; omega)
  have mine : ∀ l : Letter, LOk X Y l → LOk (shut X why) Y l := fun l o => ⟨o.m1, o.m2, o.y1, o.y2, o.y3, o.n1, fun _ _ z => (by cases z), o.b1, fun _ _ z => by cases z⟩
  have theirs : ∀ l : Letter, LOk Y X l → LOk Y (shut X why) l := fun l o => ⟨o.m1, o.m2, o.y1, o.y2, o.y3, o.n1, o.a1, o.b1, o.b2⟩
  refine ⟨⟨two, mine, theirs, fun _ z => by cases z⟩, ⟨two, mine, theirs, fun l hl => ?_⟩⟩
  rw [List.mem_singleton] at hl
  subst hl
  exact bare_ok two (hx.t1 hc) (.inl rfl)
/-- tries alone -/
theorem step_tries (h : Two i ws wo b bo X Y) (n : Int) : Step i ws wo b bo X Y { X with tries := n } [] := by
  have hx := h.x
  have hy := h.y
  exact ⟨⟨⟨hx.nm, hx.wi, hx.t0, hx.t1, hx.u0, hx.u1, hx.n1, hx.h0, hx.l0, hx.l1, hx.s, hx.s0, hx.g, hx.p, hx.q⟩, ⟨hy.nm, hy.wi, hy.t0, hy.t1, hy.u0, hy.u1, hy.n1, hy.h0, hy.l0, hy.l1, hy.s, hy.s0, hy.g, hy.p, hy.q⟩⟩,
    fun l o => ⟨o.m1, o.m2, o.y1, o.y2, o.y3, o.n1, o.a1, o.b1, o.b2⟩, fun l o => ⟨o.m1, o.m2, o.y1, o.y2, o.y3, o.n1, o.a1, o.b1, o.b2⟩, fun _ z => by cases z⟩
/-- it begins anew, with a greater turn of its own, or a greater one of the other's -/
theorem step_learn (hw : WOk ws) (h : Two i ws wo b bo X Y) (hc : X.closed = false) {m : Int} (hm : X.yours < m) (hm2 : m ≤ Y.turn) :
    Step i ws wo b bo X Y (begun { X with yours := m }) [askL (begun { X with yours := m })] := by
  have hx := h.x
  have hy := h.y
  have hxu := hx.u0
  have ne : X.yours ≠ Y.turn := by omega
  have two : Two i ws wo b bo (begun { X with yours := m }) Y := by
    refine ⟨⟨hx.nm, hx.wi, hx.t0, fun _ => hx.t1 hc, ?_, hm2, fun _ => Int.le_refl _, Int.le_refl _, fun _ => ⟨rfl, rfl⟩, fun z => ?_, fun _ c1 c2 c3 => ?_, fun _ c1 c2 _ => hx.s0 hc c1 c2 ne, fun _ _ _ g z => ?_, fun _ _ _ => ?_, fun _ => ?_⟩,
      ⟨hy.nm, hy.wi, hy.t0, hy.t1, hy.u0, hy.u1, hy.n1, hy.h0, hy.l0, hy.l1, fun c1 c2 c3 c4 => ⟨?_, fun z => ?_⟩, fun _ _ _ _ => rfl, fun c1 c2 c3 g z => ?_, fun c1 c2 c3 => hy.p c1 hc c3, hy.q⟩⟩
    · show 0 ≤ m
      omega
    · exact absurd z (by show ¬ (1 : Int) ≤ 0; omega)
    · have e := hx.s0 hc c1 c2 ne
      refine ⟨by show Y.heard ≤ 1; omega, fun z => ?_⟩
      have z' : Y.heard = 1 := z
      omega
    · cases z
    · show Reach ws bo (planOf X.wishes)
      rw [hx.wi]
      exact .first
    · show PlanOk ws (planOf X.wishes) []
      rw [hx.wi]
      exact .first hw
    · have := hy.n1 c1
      show (0 : Int) ≤ Y.number
      omega
    · have := hy.n1 c1
      have z' : (0 : Int) = Y.number := z
      omega
    · obtain ⟨e, _⟩ := hy.g c1 hc c3 g z
      exact absurd e ne
  refine ⟨two, fun l o => ⟨o.m1, o.m2, o.y1, o.y2, fun z => ?_, o.n1, fun z _ _ e => ?_, o.b1, fun z _ _ e => ?_⟩, fun l o => ⟨o.m1, o.m2, o.y1, o.y2, o.y3, o.n1, o.a1, fun z e => ?_, o.b2⟩, fun l hl => ?_⟩
  · have := o.y3 z
    show l.yours ≤ m
    omega
  · have := o.y3 (by rw [z]; decide)
    have e' : l.yours = m := e
    omega
  · have := o.y3 (by intro q; rw [q] at z; simp [isAns] at z)
    have e' : l.yours = m := e
    omega
  · have := o.b1 z e
    show l.mine ≤ m
    omega
  · rw [List.mem_singleton] at hl
    subst hl
    exact ask_ok two rfl
/-- an ask not yet heard is answered -/
theorem step_answer (h : Two i ws wo b bo X Y) (hc : X.closed = false) (o : LOk Y X l) (hl : l.who = !i) (hk : l.word = .ask) (h1 : l.mine = X.yours) (h2 : l.yours = X.turn) (hn : X.heard < l.number) :
    Step i ws wo b bo X Y (heardAsk X l b).1 (heardAsk X l b).2 := by
  have hx := h.x
  have hy := h.y
  have hxh := hx.h0
  have e : heardAsk X l b = ({ X with heard := l.number, took := if (answer b l.pairs).1 = .yes then some l.pairs else none, last := some ⟨X.name, (answer b l.pairs).1, X.turn, X.yours, l.number, (answer b l.pairs).2⟩ }, [⟨X.name, (answer b l.pairs).1, X.turn, X.yours, l.number, (answer b l.pairs).2⟩]) := by
    unfold heardAsk
    rw [if_neg (by omega), if_pos hn]
  rw [e]
  have ha : isAns (answer b l.pairs).1 := by
    rcases answer_cases b l.pairs with ⟨q, _⟩ | ⟨q, _⟩ | ⟨q, _⟩ <;> rw [q] <;> simp [isAns]
  have hyy : l.yours ≤ Y.yours := o.y3 (by rw [hk]; decide)
  have hyu := hy.u1
  have hle : Y.closed = false → X.yours = Y.turn → l.number ≤ Y.number ∧ (l.number = Y.number → l.pairs = askOf Y.wishes Y.plan) := fun c1 c2 => o.a1 hk (by omega) c1 (by omega)
  refine ⟨⟨⟨hx.nm, hx.wi, hx.t0, hx.t1, hx.u0, hx.u1, hx.n1, ?_, fun z => ?_, fun _ => ⟨(answer b l.pairs).1, (answer b l.pairs).2, ha, ?_⟩, hx.s, hx.s0, hx.g, hx.p, hx.q⟩,
    ⟨hy.nm, hy.wi, hy.t0, hy.t1, hy.u0, hy.u1, hy.n1, hy.h0, hy.l0, hy.l1, fun c1 _ c2 c3 => ?_, fun c1 _ c2 c3 => ?_, fun c1 _ c3 g z => ?_, hy.p, hy.q⟩⟩,
    fun m w => ⟨w.m1, w.m2, w.y1, w.y2, w.y3, w.n1, w.a1, w.b1, fun z c1 c2 c3 => ?_⟩, fun m w => ⟨w.m1, w.m2, w.y1, w.y2, w.y3, w.n1, w.a1, w.b1, w.b2⟩, fun m hm => ?_⟩
  · show 0 ≤ l.number
    omega
  · have z' : l.number = 0 := z
    omega
  · show some _ = some _
    rw [hx.nm]
  · obtain ⟨g1, g2⟩ := hle c1 c2
    refine ⟨g1, fun z => ?_⟩
    have z' : l.number = Y.number := z
    rw [← g2 z']
    exact ⟨by show some _ = some _; rw [hx.nm, Bool.not_not], rfl⟩
  · exact absurd (show Y.yours = X.turn by omega) c3
  · obtain ⟨g1, g2, _⟩ := hy.g c1 hc c3 g z
    have := (hle c1 g1).1
    omega
  · obtain ⟨w1, w2, w3⟩ := w.b2 z c1 c2 c3
    refine ⟨w1, by show m.number ≤ l.number; omega, fun q => ?_⟩
    have q' : m.number = l.number := q
    omega
  · rw [List.mem_singleton] at hm
    subst hm
    refine ⟨hx.nm, ⟨hx.t1 hc, Int.le_refl _, hx.u0, hx.u1, fun _ => Int.le_refl _, fun z => ?_, fun z => ?_, fun _ z => ?_, fun _ _ _ _ => ⟨?_, Int.le_refl _, fun _ => rfl⟩⟩⟩
    · rw [show (answer b l.pairs).1 = .ask from z] at ha
      simp [isAns] at ha
    · rw [show (answer b l.pairs).1 = .ask from z] at ha
      simp [isAns] at ha
    · have z' : X.yours = Y.turn := z
      show X.turn ≤ Y.yours
      omega
    · show 1 ≤ l.number
      omega
/-- any ask -/
theorem step_ask (h : Two i ws wo b bo X Y) (hc : X.closed = false) (o : LOk Y X l) (hl : l.who = !i) (hk : l.word = .ask) (h1 : l.mine = X.yours) (h2 : l.yours = X.turn) :
    Step i ws wo b bo X Y (heardAsk X l b).1 (heardAsk X l b).2 := by
  have hx := h.x
  have hy := h.y
  by_cases c1 : l.number < X.heard
  · have e : heardAsk X l b = (X, []) := by
      unfold heardAsk
      rw [if_pos c1]
    rw [e]
    exact .refl h
  · by_cases c2 : X.heard < l.number
    · exact step_answer h hc o hl hk h1 h2 c2
    · have e : heardAsk X l b = (X, X.last.toList) := by
        unfold heardAsk
        rw [if_neg c1, if_neg c2]
      rw [e]
      refine ⟨h, fun _ w => w, fun _ w => w, fun m hm => ?_⟩
      have hn := o.n1 hk
      have hxu := hx.u0
      have hyy : l.yours ≤ Y.yours := o.y3 (by rw [hk]; decide)
      obtain ⟨w, ps, hw, el⟩ := hx.l1 (by omega)
      rw [el] at hm
      have hm' : m = ⟨i, w, X.turn, X.yours, X.heard, ps⟩ := by simpa using hm
      subst hm'
      refine ⟨rfl, ⟨hx.t1 hc, Int.le_refl _, hxu, hx.u1, fun _ => Int.le_refl _, fun z => ?_, fun z => ?_, fun _ z => ?_, fun _ _ _ _ => ⟨?_, Int.le_refl _, fun _ => el⟩⟩⟩
      · rw [show w = .ask from z] at hw
        simp [isAns] at hw
      · rw [show w = .ask from z] at hw
        simp [isAns] at hw
      · show X.turn ≤ Y.yours
        omega
      · show 1 ≤ X.heard
        omega
/-- an answer to the very ask that stands is the bounds' own -/
theorem genuine (h : Two i ws wo b bo X Y) (hc : X.closed = false) (hd : Y.closed = false) (o : LOk Y X l) (ha : isAns l.word) (h1 : l.mine = X.yours) (h2 : l.yours = X.turn) (h3 : X.yours = Y.turn) (hn : l.number = X.number) :
    Y.yours = X.turn ∧ Y.heard = X.number ∧ l.word = (answer bo (askOf X.wishes X.plan)).1 ∧ l.pairs = (answer bo (askOf X.wishes X.plan)).2 ∧ Y.took = if (answer bo (askOf X.wishes X.plan)).1 = .yes then some (askOf X.wishes X.plan) else none := by
  have hyy : l.yours ≤ Y.yours := o.y3 (by intro q; rw [q] at ha; simp [isAns] at ha)
  have hyu := h.y.u1
  have ey : Y.yours = X.turn := by omega
  obtain ⟨g1, g2, g3⟩ := o.b2 ha (by omega) hd (by omega)
  obtain ⟨s1, s2⟩ := h.x.s hc hd ey h3
  have eh : Y.heard = X.number := by omega
  obtain ⟨q1, q2⟩ := s2 eh
  have q3 := g3 (by omega)
  rw [q1] at q3
  have q4 := Option.some.inj q3
  refine ⟨ey, eh, ?_, ?_, q2⟩
  · rw [← q4]
  · rw [← q4]
/-- an answer -/
theorem step_answered (h : Two i ws wo b bo X Y) (hc : X.closed = false) (o : LOk Y X l) (ha : isAns l.word) (h1 : l.mine = X.yours) (h2 : l.yours = X.turn) :
    Step i ws wo b bo X Y (heardAnswer X l).1 (heardAnswer X l).2 := by
  have hx := h.x
  have hy := h.y
  unfold heardAnswer
  by_cases c1 : l.number ≠ X.number ∨ X.given.isSome
  · rw [if_pos c1]
    exact .refl h
  · rw [if_neg c1]
    have cn : l.number = X.number := Decidable.byContradiction fun z => c1 (.inl z)
    have cg : X.given = none := by
      cases q : X.given with
      | none => rfl
      | some g => exact absurd (.inr (by rw [q]; rfl)) c1
    cases hb : behind X.wishes X.plan l.word l.pairs with
    | none => exact .refl h
    | some z =>
      cases z with
      | failed k => exact (step_shut h hc _).2
      | agreed a =>
        obtain ⟨b1, b2, b3⟩ := behind_agreed hb
        refine ⟨⟨⟨hx.nm, hx.wi, hx.t0, hx.t1, hx.u0, hx.u1, hx.n1, hx.h0, hx.l0, hx.l1, hx.s, hx.s0, fun _ c2 c3 g z => ?_, hx.p, hx.q⟩,
          ⟨hy.nm, hy.wi, hy.t0, hy.t1, hy.u0, hy.u1, hy.n1, hy.h0, hy.l0, hy.l1, hy.s, hy.s0, hy.g, hy.p, hy.q⟩⟩,
          fun m w => ⟨w.m1, w.m2, w.y1, w.y2, w.y3, w.n1, w.a1, w.b1, w.b2⟩, fun m w => ⟨w.m1, w.m2, w.y1, w.y2, w.y3, w.n1, w.a1, w.b1, w.b2⟩, fun _ z => by cases z⟩
        have eg : a = g := Option.some.inj z
        obtain ⟨q1, q2, q3, q4, q5⟩ := genuine h hc c2 o ha h1 h2 c3 cn
        have q6 : (answer bo (askOf X.wishes X.plan)).1 = .yes := by rw [← q3, b1]
        rw [if_pos q6] at q5
        exact ⟨q1, q2, by rw [← eg, b3], by rw [q5, ← eg, b3], by rw [← eg, b3]; exact q6⟩
      | plan p r =>
        have two : Two i ws wo b bo { X with tries := 3, plan := p, refused := joined (X.refused ++ r), number := X.number + 1 } Y := by
          refine ⟨⟨hx.nm, hx.wi, hx.t0, hx.t1, hx.u0, hx.u1, fun _ => ?_, hx.h0, hx.l0, hx.l1, fun _ c2 c3 c4 => ?_, hx.s0, fun _ _ _ g z => ?_, fun _ c2 c3 => ?_, fun _ => ?_⟩,
            ⟨hy.nm, hy.wi, hy.t0, hy.t1, hy.u0, hy.u1, hy.n1, hy.h0, hy.l0, hy.l1, hy.s, hy.s0, hy.g, hy.p, hy.q⟩⟩
          · have := hx.n1 hc
            show 1 ≤ X.number + 1
            omega
          · have s1 := (hx.s hc c2 c3 c4).1
            refine ⟨by show Y.heard ≤ X.number + 1; omega, fun z => ?_⟩
            have z' : Y.heard = X.number + 1 := z
            omega
          · have z' : X.given = some g := z
            rw [cg] at z'
            cases z'
          · obtain ⟨q1, q2, q3, q4, q5⟩ := genuine h hc c2 o ha h1 h2 c3 cn
            have hr := hx.p hc c2 c3
            refine Reach.step (r := r) hr ?_
            rw [q3, q4, hx.wi] at hb
            exact hb
          · have hq := hx.q hc
            rw [hx.wi] at hb
            exact hq.step hb
        refine ⟨two, fun m w => ⟨w.m1, w.m2, w.y1, w.y2, w.y3, w.n1, fun z1 z2 z3 z4 => ?_, w.b1, w.b2⟩, fun m w => ⟨w.m1, w.m2, w.y1, w.y2, w.y3, w.n1, w.a1, w.b1, w.b2⟩, fun m hm => ?_⟩
        · have w1 := (w.a1 z1 z2 z3 z4).1
          refine ⟨by show m.number ≤ X.number + 1; omega, fun z => ?_⟩
          have z' : m.number = X.number + 1 := z
          omega
        · have hm' : m ∈ [askL { X with tries := 3, plan := p, refused := joined (X.refused ++ r), number := X.number + 1 }] := hm
          rw [List.mem_singleton] at hm'
          subst hm'
          exact ask_ok two hc
/-- a letter of the opening in which it is -/
theorem step_word (h : Two i ws wo b bo X Y) (hc : X.closed = false) (o : LOk Y X l) (hl : l.who = !i) (h1 : l.mine = X.yours) (h2 : l.yours = X.turn) :
    Step i ws wo b bo X Y (heardWord X l b).1 (heardWord X l b).2 := by
  unfold heardWord
  cases hk : l.word with
  | ask => exact step_ask h hc o hl hk h1 h2
  | bye => exact (step_shut h hc _).1
  | here =>
    refine ⟨h, fun _ w => w, fun _ w => w, fun m hm => ?_⟩
    have hm' : m ∈ [bareL X .there] := hm
    rw [List.mem_singleton] at hm'
    subst hm'
    exact bare_ok h (h.x.t1 hc) (.inr (.inr rfl))
  | there => exact step_tries h 3
  | yes => exact step_answered h hc o (by rw [hk]; simp [isAns]) h1 h2
  | no => exact step_answered h hc o (by rw [hk]; simp [isAns]) h1 h2
  | rather => exact step_answered h hc o (by rw [hk]; simp [isAns]) h1 h2
theorem begun_closed (X : End) : (begun X).closed = false := rfl
theorem learn_open (hc : X.closed = false) : (learn X l).1.closed = false := by
  unfold learn
  split
  · rfl
  · exact hc
theorem step_learned (hw : WOk ws) (h : Two i ws wo b bo X Y) (hc : X.closed = false) (o : LOk Y X l) : Step i ws wo b bo X Y (learn X l).1 (learn X l).2 := by
  unfold learn
  split
  · rename_i hm
    exact step_learn hw h hc hm o.m2
  · exact .refl h
/-- ANY LETTER IS HEARD -/
theorem step_heard (hw : WOk ws) (h : Two i ws wo b bo X Y) (o : LOk Y X l) (hl : l.who = !i) : Step i ws wo b bo X Y (heard X l b).1 (heard X l b).2 := by
  have hx := h.x
  have hy := h.y
  unfold heard
  by_cases hc : X.closed = true
  · rw [if_pos hc]
    refine ⟨h, fun _ w => w, fun _ w => w, fun m hm => ?_⟩
    have hm' : m ∈ (if l.yours = 0 ∨ l.yours ≠ X.turn ∨ l.word = .bye then [] else [backL X.name l]) := hm
    split at hm'
    · cases hm'
    · rename_i hn
      rw [List.mem_singleton] at hm'
      subst hm'
      have e1 : l.yours ≠ 0 := fun z => hn (.inl z)
      have e2 : l.yours = X.turn := Decidable.byContradiction fun z => hn (.inr (.inl z))
      have := hx.t0
      have om1 := o.m1
      refine ⟨hx.nm, ⟨?_, ?_, ?_, o.m2, fun z => absurd rfl z, fun z => ?_, fun z => ?_, fun z => ?_, fun z => ?_⟩⟩
      · show 1 ≤ l.yours
        omega
      · show l.yours ≤ X.turn
        omega
      · show 0 ≤ l.mine
        omega
      · cases z
      · cases z
      · rcases z with z | z | z <;> cases z
      · rcases z with z | z | z <;> cases z
  · rw [if_neg hc]
    have hc' : X.closed = false := by simpa using hc
    have s1 := step_learned hw h hc' o
    by_cases hk : l.mine = (learn X l).1.yours ∧ l.yours = (learn X l).1.turn
    · show Step i ws wo b bo X Y (if l.mine = (learn X l).1.yours ∧ l.yours = (learn X l).1.turn then _ else _ : End × List Letter).1 (if l.mine = (learn X l).1.yours ∧ l.yours = (learn X l).1.turn then _ else _ : End × List Letter).2
      rw [if_pos hk]
      exact s1.trans (step_word s1.two (learn_open hc') (s1.theirs l o) hl hk.1 hk.2)
    · show Step i ws wo b bo X Y (if l.mine = (learn X l).1.yours ∧ l.yours = (learn X l).1.turn then _ else _ : End × List Letter).1 (if l.mine = (learn X l).1.yours ∧ l.yours = (learn X l).1.turn then _ else _ : End × List Letter).2
      rw [if_neg hk]
      exact s1
/-- a tick -/
theorem step_ticked (h : Two i ws wo b bo X Y) : Step i ws wo b bo X Y (ticked X).1 (ticked X).2 := by
  unfold ticked
  by_cases hc : X.closed = true
  · rw [if_pos hc]
    exact .refl h
  · rw [if_neg hc]
    have hc' : X.closed = false := by simpa using hc
    by_cases ht : X.tries = 0
    · rw [if_pos ht]
      exact (step_shut h hc' _).2
    · rw [if_neg ht]
      have s1 := step_tries h (X.tries - 1)
      refine ⟨s1.two, s1.mine, s1.theirs, fun m hm => ?_⟩
      have hm' : m ∈ [if X.given.isNone then askL { X with tries := X.tries - 1 } else bareL { X with tries := X.tries - 1 } .here] := hm
      rw [List.mem_singleton] at hm'
      subst hm'
      split
      · exact ask_ok s1.two hc'
      · exact bare_ok s1.two (h.x.t1 hc') (.inr (.inl rfl))
theorem step_closing (h : Two i ws wo b bo X Y) (hc : X.closed = false) : Step i ws wo b bo X Y (closing X).1 (closing X).2 := (step_shut h hc _).2
/-- opened -/
theorem step_opened (hw : WOk ws) (h : Two i ws wo b bo X Y) (hc : X.closed = true) : Step i ws wo b bo X Y (opened X).1 (opened X).2 := by
  have hx := h.x
  have hy := h.y
  have hxt := hx.t0
  have hyu := hy.u1
  have two : Two i ws wo b bo (opened X).1 Y := by
    refine ⟨⟨hx.nm, hx.wi, ?_, fun _ => ?_, hx.u0, hx.u1, fun _ => Int.le_refl _, Int.le_refl _, fun _ => ⟨rfl, rfl⟩, fun z => ?_, fun _ _ z => ?_, fun _ _ z => ?_, fun _ _ _ g z => ?_, fun _ _ _ => ?_, fun _ => ?_⟩,
      ⟨hy.nm, hy.wi, hy.t0, hy.t1, hy.u0, ?_, hy.n1, hy.h0, hy.l0, hy.l1, fun c1 _ _ z => ?_, fun _ _ _ _ => rfl, fun _ _ z => ?_, fun _ _ z => ?_, hy.q⟩⟩
    · show 0 ≤ X.turn + 1
      omega
    · show 1 ≤ X.turn + 1
      omega
    · exact absurd z (by show ¬ (1 : Int) ≤ 0; omega)
    · have z' : Y.yours = X.turn + 1 := z
      omega
    · have z' : Y.yours = X.turn + 1 := z
      omega
    · cases z
    · show Reach ws bo (planOf X.wishes)
      rw [hx.wi]
      exact .first
    · show PlanOk ws (planOf X.wishes) []
      rw [hx.wi]
      exact .first hw
    · show Y.yours ≤ X.turn + 1
      omega
    · have z' : Y.yours = X.turn + 1 := z
      omega
    · have z' : Y.yours = X.turn + 1 := z
      omega
    · have z' : Y.yours = X.turn + 1 := z
      omega
  refine ⟨two, fun l o => ⟨o.m1, ?_, o.y1, o.y2, o.y3, o.n1, fun _ z => ?_, o.b1, fun _ z => ?_⟩, fun l o => ⟨o.m1, o.m2, o.y1, ?_, o.y3, o.n1, o.a1, fun _ z => ?_, o.b2⟩, fun l hl => ?_⟩
  · have := o.m2
    show l.mine ≤ X.turn + 1
    omega
  · have := o.m2
    have z' : l.mine = X.turn + 1 := z
    omega
  · have := o.m2
    have z' : l.mine = X.turn + 1 := z
    omega
  · have := o.y2
    show l.yours ≤ X.turn + 1
    omega
  · have := o.y2
    have z' : l.yours = X.turn + 1 := z
    omega
  · have hl' : l ∈ [askL (opened X).1] := hl
    rw [List.mem_singleton] at hl'
    subst hl'
    exact ask_ok two rfl
end
end Cw

/-! text CwRun -/
/-! The wire: what holds of it, what lessens with each letter, and how it settles. -/
namespace Cw
open PySem

/-- books as the mathematics wants them -/
structure BkOk (bk : Bool → Book) : Prop where
  w : ∀ i, WOk (bk i).wishes
  b : ∀ i, BOk (bk i).bounds
structure Inv (bk : Bool → Book) (s : WS) : Prop where
  e : ∀ i, EOk i (bk i).wishes (bk !i).bounds (s.e i) (s.e !i)
  l : ∀ l ∈ s.air, LOk (s.e l.who) (s.e !l.who) l

section
variable {bk : Bool → Book} {s : WS} {i : Bool} {l : Letter} {r air : List Letter}
theorem Inv.two (h : Inv bk s) (i : Bool) : Two i (bk i).wishes (bk !i).wishes (bk i).bounds (bk !i).bounds (s.e i) (s.e !i) :=
  ⟨h.e i, by have := h.e (!i); rwa [Bool.not_not] at this⟩
theorem put_self (s : WS) (i : Bool) (z : End × List Letter) (air : List Letter) : (put s i z air).e i = z.1 := by unfold put; simp
theorem put_other (s : WS) (i : Bool) (z : End × List Letter) (air : List Letter) : (put s i z air).e (!i) = s.e (!i) := by
  unfold put
  cases i <;> rfl
theorem bool_cases (i j : Bool) : j = i ∨ j = !i := by cases i <;> cases j <;> simp
theorem Inv.put {z : End × List Letter} (h : Inv bk s) (t : Step i (bk i).wishes (bk !i).wishes (bk i).bounds (bk !i).bounds (s.e i) (s.e !i) z.1 z.2) (ha : ∀ m ∈ air, m ∈ s.air) : Inv bk (put s i z air) := by
  constructor
  · intro j
    rcases bool_cases i j with rfl | rfl
    · rw [put_self, put_other]
      exact t.two.x
    · rw [Bool.not_not, put_self, put_other]
      have := t.two.y
      exact this
  · intro m hm
    have hm' : m ∈ air ++ z.2 := hm
    rcases List.mem_append.mp hm' with hm | hm
    · have o := h.l m (ha m hm)
      rcases bool_cases i m.who with e | e
      · rw [e] at o ⊢
        rw [put_self, put_other]
        exact t.mine m o
      · rw [e, Bool.not_not] at o ⊢
        rw [put_self, put_other]
        exact t.theirs m o
    · obtain ⟨e, o⟩ := t.new m hm
      rw [e, put_self, put_other]
      exact o
theorem Inv.comes (hb : BkOk bk) (h : Inv bk s) (e : s.air = l :: r) : Inv bk (comes bk s l r) := by
  have o := h.l l (by rw [e]; exact List.mem_cons_self)
  have t := h.two (!l.who)
  rw [Bool.not_not] at t
  refine Inv.put (i := !l.who) h ?_ fun m hm => by rw [e]; exact List.mem_cons_of_mem _ hm
  rw [Bool.not_not]
  exact step_heard (hb.w _) t o (by simp)
theorem Inv.ticks (h : Inv bk s) (i : Bool) : Inv bk (ticks s i) := h.put (step_ticked (h.two i)) fun _ hm => hm
theorem Inv.closes (h : Inv bk s) (hc : (s.e i).closed = false) : Inv bk (closes s i) := h.put (step_closing (h.two i) hc) fun _ hm => hm
theorem Inv.opens (hb : BkOk bk) (h : Inv bk s) (hc : (s.e i).closed = true) : Inv bk (opens s i) := h.put (step_opened (hb.w i) (h.two i) hc) fun _ hm => hm
theorem Inv.fewer (h : Inv bk s) (ha : ∀ m ∈ air, m ∈ s.air) : Inv bk ⟨s.e, air⟩ := ⟨h.e, fun m hm => h.l m (ha m hm)⟩
theorem Inv.round (h : Inv bk s) : Inv bk (round s) := by
  unfold Cw.round
  have h1 : Inv bk (if (s.e false).closed then s else Cw.ticks s false) := by
    split
    · exact h
    · exact h.ticks false
  show Inv bk (if (s.e true).closed then _ else _)
  split
  · exact h1
  · exact h1.ticks true
theorem Inv.start (bk : Bool → Book) : Inv bk (start bk) := by
  refine ⟨fun i => ⟨rfl, rfl, Int.le_refl _, fun z => ?_, Int.le_refl _, Int.le_refl _, fun z => ?_, Int.le_refl _, fun _ => ⟨rfl, rfl⟩, fun z => ?_, fun z => ?_, fun z => ?_, fun z => ?_, fun z => ?_, fun z => ?_⟩, fun _ z => by cases z⟩
  all_goals first | cases z | exact absurd z (by show ¬ (1 : Int) ≤ 0; omega)

/-! ### what a letter changes -/
theorem learn_turn (X : End) (l : Letter) : (learn X l).1.turn = X.turn := by
  unfold learn
  split <;> rfl
theorem learn_yours (X : End) (l : Letter) : (learn X l).1.yours = if X.yours < l.mine then l.mine else X.yours := by
  unfold learn
  split <;> rfl
theorem word_same (X : End) (l : Letter) (b : Bounds) : (heardWord X l b).1.turn = X.turn ∧ (heardWord X l b).1.yours = X.yours := by
  unfold heardWord heardAsk heardAnswer
  split
  · split
    · exact ⟨rfl, rfl⟩
    · split <;> exact ⟨rfl, rfl⟩
  · exact ⟨rfl, rfl⟩
  · exact ⟨rfl, rfl⟩
  · exact ⟨rfl, rfl⟩
  · split
    · exact ⟨rfl, rfl⟩
    · split <;> exact ⟨rfl, rfl⟩
/-- the two ways of a letter at an end that isn't closed -/
theorem heard_open {X : End} (hc : X.closed = false) (l : Letter) (b : Bounds) : ((l.mine = (learn X l).1.yours ∧ l.yours = X.turn) ∧ heard X l b = ((heardWord (learn X l).1 l b).1, (learn X l).2 ++ (heardWord (learn X l).1 l b).2)) ∨
    (¬ (l.mine = (learn X l).1.yours ∧ l.yours = X.turn) ∧ heard X l b = learn X l) := by
  unfold heard
  rw [if_neg (by rw [hc]; decide)]
  by_cases h : l.mine = (learn X l).1.yours ∧ l.yours = (learn X l).1.turn
  · refine .inl ⟨by rw [learn_turn] at h; exact h, ?_⟩
    show (if l.mine = (learn X l).1.yours ∧ l.yours = (learn X l).1.turn then _ else _) = _
    rw [if_pos h]
  · refine .inr ⟨by rw [learn_turn] at h; exact h, ?_⟩
    show (if l.mine = (learn X l).1.yours ∧ l.yours = (learn X l).1.turn then _ else _) = _
    rw [if_neg h]
theorem heard_closed {X : End} (hc : X.closed = true) (l : Letter) (b : Bounds) : heard X l b = (X, if l.yours = 0 ∨ l.yours ≠ X.turn ∨ l.word = .bye then [] else [backL X.name l]) := by
  unfold heard
  rw [if_pos hc]
theorem heard_turn (X : End) (l : Letter) (b : Bounds) : (heard X l b).1.turn = X.turn := by
  by_cases hc : X.closed = true
  · rw [heard_closed hc]
  · rcases heard_open (by simpa using hc) l b with ⟨_, e⟩ | ⟨_, e⟩
    · rw [e, (word_same _ _ _).1, learn_turn]
    · rw [e, learn_turn]
theorem heard_yours {X : End} (hc : X.closed = false) (l : Letter) (b : Bounds) : (heard X l b).1.yours = if X.yours < l.mine then l.mine else X.yours := by
  rcases heard_open hc l b with ⟨_, e⟩ | ⟨_, e⟩
  · rw [e, (word_same _ _ _).2, learn_yours]
  · rw [e, learn_yours]
theorem heard_was (X : End) (l : Letter) (b : Bounds) (h : (heard X l b).1.closed = false) : X.closed = false := by
  by_cases hc : X.closed = true
  · rw [heard_closed hc] at h
    exact h
  · simpa using hc
/-- what a word does to the ask that stands -/
theorem word_ask (X : End) (l : Letter) (b : Bounds) (h : (heardWord X l b).1.closed = false) : (∃ m ∈ (heardWord X l b).2, m = askL (heardWord X l b).1) ∨ (heardWord X l b).1.given ≠ none ∨
    (askL (heardWord X l b).1 = askL X ∧ (heardWord X l b).1.number = X.number ∧ (heardWord X l b).1.given = X.given ∧ ¬ (isAns l.word ∧ l.number = X.number ∧ X.given = none ∧ behind X.wishes X.plan l.word l.pairs ≠ none)) := by
  have noans : l.word = .ask ∨ l.word = .bye ∨ l.word = .here ∨ l.word = .there → ¬ (isAns l.word ∧ l.number = X.number ∧ X.given = none ∧ behind X.wishes X.plan l.word l.pairs ≠ none) := fun q z => by
    rcases q with q | q | q | q <;> rw [q] at z <;> simp [isAns] at z
  have ans : heardWord X l b = heardAnswer X l → (∃ m ∈ (heardWord X l b).2, m = askL (heardWord X l b).1) ∨ (heardWord X l b).1.given ≠ none ∨
    (askL (heardWord X l b).1 = askL X ∧ (heardWord X l b).1.number = X.number ∧ (heardWord X l b).1.given = X.given ∧ ¬ (isAns l.word ∧ l.number = X.number ∧ X.given = none ∧ behind X.wishes X.plan l.word l.pairs ≠ none)) := fun e => by
    rw [e] at h ⊢
    unfold heardAnswer at h ⊢
    by_cases c : l.number ≠ X.number ∨ X.given.isSome
    · rw [if_pos c]
      refine .inr (.inr ⟨rfl, rfl, rfl, fun z => ?_⟩)
      rcases c with c | c
      · exact c z.2.1
      · rw [z.2.2.1] at c
        cases c
    · rw [if_neg c] at h ⊢
      cases hb : behind X.wishes X.plan l.word l.pairs with
      | none => exact .inr (.inr ⟨rfl, rfl, rfl, fun z => z.2.2.2 rfl⟩)
      | some y =>
        rw [hb] at h
        cases y with
        | failed k => cases h
        | agreed a => exact .inr (.inl (by intro z; cases z))
        | plan p r => exact .inl ⟨_, List.mem_singleton.mpr rfl, rfl⟩
  cases hk : l.word with
  | ask =>
    refine .inr (.inr ?_)
    have e : heardWord X l b = heardAsk X l b := by
      unfold heardWord
      rw [hk]
    rw [e]
    rw [← hk]
    refine ⟨?_, ?_, ?_, noans (.inl hk)⟩
    · unfold heardAsk
      split
      · rfl
      · split <;> rfl
    · unfold heardAsk
      split
      · rfl
      · split <;> rfl
    · unfold heardAsk
      split
      · rfl
      · split <;> rfl
  | bye =>
    have e : heardWord X l b = (shut X (Str.ofString "bye"), []) := by
      unfold heardWord
      rw [hk]
    rw [e] at h
    cases h
  | here =>
    have e : heardWord X l b = (X, [bareL X .there]) := by
      unfold heardWord
      rw [hk]
    rw [e, ← hk]
    exact .inr (.inr ⟨rfl, rfl, rfl, noans (.inr (.inr (.inl hk)))⟩)
  | there =>
    have e : heardWord X l b = ({ X with tries := 3 }, []) := by
      unfold heardWord
      rw [hk]
    rw [e, ← hk]
    exact .inr (.inr ⟨rfl, rfl, rfl, noans (.inr (.inr (.inr hk)))⟩)
  | yes =>
    rw [← hk]
    exact ans (by unfold heardWord; rw [hk])
  | no =>
    rw [← hk]
    exact ans (by unfold heardWord; rw [hk])
  | rather =>
    rw [← hk]
    exact ans (by unfold heardWord; rw [hk])
theorem heard_ask (X : End) (l : Letter) (b : Bounds) (h : (heard X l b).1.closed = false) : (∃ m ∈ (heard X l b).2, m = askL (heard X l b).1) ∨ (heard X l b).1.given ≠ none ∨
    ((heard X l b).1.number = X.number ∧ (heard X l b).1.given = X.given ∧ (heard X l b).1.yours = X.yours ∧ ¬ (isAns l.word ∧ l.mine = X.yours ∧ l.yours = X.turn ∧ l.number = X.number ∧ X.given = none ∧ behind X.wishes X.plan l.word l.pairs ≠ none)) := by
  have hc := heard_was X l b h
  by_cases hm : X.yours < l.mine
  · have el : learn X l = (begun { X with yours := l.mine }, [askL (begun { X with yours := l.mine })]) := by
      unfold learn
      rw [if_pos hm]
    rcases heard_open hc l b with ⟨_, e⟩ | ⟨_, e⟩
    · rw [e] at h ⊢
      have h' : (heardWord (learn X l).1 l b).1.closed = false := h
      rcases word_ask _ l b h' with ⟨m, hm, q⟩ | q | ⟨q0, q1, q2, _⟩
      · exact .inl ⟨m, List.mem_append_right _ hm, q⟩
      · exact .inr (.inl q)
      · refine .inl ⟨askL (learn X l).1, List.mem_append_left _ ?_, q0.symm⟩
        rw [el]
        exact List.mem_singleton.mpr rfl
    · rw [e, el]
      exact .inl ⟨_, List.mem_singleton.mpr rfl, rfl⟩
  · have el : learn X l = (X, []) := by
      unfold learn
      rw [if_neg hm]
    rcases heard_open hc l b with ⟨⟨c1, c2⟩, e⟩ | ⟨c, e⟩
    · rw [e] at h ⊢
      rw [el] at h c1 ⊢
      rcases word_ask X l b h with q | q | ⟨_, q1, q2, q3⟩
      · exact .inl q
      · exact .inr (.inl q)
      · exact .inr (.inr ⟨q1, q2, (word_same X l b).2, fun z => q3 ⟨z.1, z.2.2.2.1, z.2.2.2.2.1, z.2.2.2.2.2⟩⟩)
    · rw [e, el]
      rw [el] at c
      exact .inr (.inr ⟨rfl, rfl, rfl, fun z => c ⟨z.2.1, z.2.2.1⟩⟩)

/-! ### progress -/
def AskIn (s : WS) (i : Bool) : Prop := ∃ l ∈ s.air, l.who = i ∧ l.word = .ask ∧ l.mine = (s.e i).turn ∧ l.yours = (s.e !i).turn ∧ l.number = (s.e i).number
def AnsIn (s : WS) (i : Bool) : Prop := ∃ l ∈ s.air, l.who = (!i) ∧ isAns l.word ∧ l.mine = (s.e !i).turn ∧ l.yours = (s.e i).turn ∧ l.number = (s.e i).number
structure Ob1 (s : WS) (i : Bool) : Prop where
  know : (s.e i).yours = (s.e !i).turn ∨ ∃ l ∈ s.air, l.who = (!i) ∧ l.mine = (s.e !i).turn
  ask : (s.e i).yours = (s.e !i).turn → (s.e i).given = none → AskIn s i ∨ AnsIn s i
def Ob (s : WS) : Prop := ∀ i, (s.e i).closed = false → (s.e !i).closed = false → Ob1 s i

theorem comes_self (bk : Bool → Book) (s : WS) (l : Letter) (r : List Letter) : (comes bk s l r).e (!l.who) = (heard (s.e (!l.who)) l (bk (!l.who)).bounds).1 := put_self ..
theorem comes_other (bk : Bool → Book) (s : WS) (l : Letter) (r : List Letter) : (comes bk s l r).e l.who = s.e l.who := by
  have := put_other s (!l.who) (heard (s.e (!l.who)) l (bk (!l.who)).bounds) r
  rwa [Bool.not_not] at this
theorem comes_air (bk : Bool → Book) (s : WS) (l : Letter) (r : List Letter) : (comes bk s l r).air = r ++ (heard (s.e (!l.who)) l (bk (!l.who)).bounds).2 := rfl
theorem bne (i : Bool) : (!i) ≠ i := by cases i <;> decide
theorem Ob.comes (hb : BkOk bk) (h : Inv bk s) (ob : Ob s) (e : s.air = l :: r) : Ob (comes bk s l r) := by
  intro i c1 c2
  have h' := h.comes hb e
  have ol := h.l l (by rw [e]; exact List.mem_cons_self)
  rcases bool_cases (!l.who) i with hi | hi
  · -- the one that hears
    subst hi
    rw [Bool.not_not] at c2
    rw [comes_other] at c2
    have c0 : (s.e (!l.who)).closed = false := by
      rw [comes_self] at c1
      exact heard_was _ _ _ c1
    have o := ob (!l.who) c0 (by rw [Bool.not_not]; exact c2)
    have ou := (h'.e (!l.who)).u1
    rw [Bool.not_not, comes_other] at ou
    have oy := heard_yours c0 l (bk (!l.who)).bounds
    have oy' : ((Cw.comes bk s l r).e (!l.who)).yours = if (s.e (!l.who)).yours < l.mine then l.mine else (s.e (!l.who)).yours := by
      rw [comes_self]
      exact oy
    have ot : ((Cw.comes bk s l r).e (!l.who)).turn = (s.e (!l.who)).turn := by
      rw [comes_self]
      exact heard_turn _ _ _
    constructor
    · rw [Bool.not_not, comes_other]
      have ok := o.know
      rw [Bool.not_not] at ok
      rcases ok with ok | ⟨m, hm, m1, m2⟩
      · refine .inl ?_
        rw [oy'] at ou ⊢
        split at ou <;> split <;> omega
      · rw [e] at hm
        rcases List.mem_cons.mp hm with rfl | hm
        · refine .inl ?_
          rw [oy'] at ou ⊢
          split at ou <;> split <;> omega
        · exact .inr ⟨m, List.mem_append_left _ hm, m1, m2⟩
    · rw [Bool.not_not, comes_other]
      intro k1 k2
      rw [comes_self] at c1 k2
      rcases heard_ask _ _ _ c1 with ⟨m, hm, q⟩ | q | ⟨q1, q2, q3, q4⟩
      · refine .inl ⟨m, List.mem_append_right _ hm, ?_⟩
        rw [Bool.not_not, comes_other]
        subst q
        have nm := (h'.e (!l.who)).nm
        refine ⟨by rw [← comes_self bk s l r]; exact nm, rfl, ?_, ?_, ?_⟩
        · rw [comes_self] <;> rfl
        · show (heard _ _ _).1.yours = _
          rw [← comes_self bk s l r]
          exact k1
        · rw [comes_self] <;> rfl
      · exact absurd k2 q
      · rw [comes_self, q3] at k1
        have oa := o.ask
        rw [Bool.not_not] at oa
        rcases oa k1 (by rw [← q2]; exact k2) with ⟨m, hm, m1, m2, m3, m4, m5⟩ | ⟨m, hm, m1, m2, m3, m4, m5⟩
        · rw [e] at hm
          rcases List.mem_cons.mp hm with rfl | hm
          · exact absurd m1 (bne _).symm
          · refine .inl ⟨m, List.mem_append_left _ hm, m1, m2, ?_, ?_, ?_⟩
            · rw [ot]; exact m3
            · rw [Bool.not_not, comes_other]; rw [Bool.not_not] at m4; exact m4
            · rw [comes_self, q1]; exact m5
        · rw [Bool.not_not] at m1 m3
          rw [e] at hm
          rcases List.mem_cons.mp hm with rfl | hm
          · exfalso
            have t := h.two (!m.who)
            rw [Bool.not_not] at t
            have gn := genuine t c0 c2 ol m2 (by rw [m3, k1]) m4 k1 m5
            obtain ⟨z, hz⟩ := behind_some (hb.b m.who) (t.x.q c0).fit
            refine q4 ⟨m2, by rw [m3, k1], m4, m5, by rw [← q2]; exact k2, ?_⟩
            rw [gn.2.2.1, gn.2.2.2.1, t.x.wi, hz]
            intro z'
            cases z'
          · refine .inr ⟨m, List.mem_append_left _ hm, by rw [Bool.not_not]; exact m1, m2, ?_, ?_, ?_⟩
            · rw [Bool.not_not, comes_other]; exact m3
            · rw [ot]; exact m4
            · rw [comes_self, q1]; exact m5
  · -- the other one
    rw [Bool.not_not] at hi
    subst hi
    rw [comes_other] at c1
    have c0 : (s.e (!l.who)).closed = false := by
      rw [comes_self] at c2
      exact heard_was _ _ _ c2
    have o := ob l.who c1 c0
    have ot : ((Cw.comes bk s l r).e (!l.who)).turn = (s.e (!l.who)).turn := by
      rw [comes_self]
      exact heard_turn _ _ _
    constructor
    · rw [comes_other, ot]
      rcases o.know with ok | ⟨m, hm, m1, m2⟩
      · exact .inl ok
      · rw [e] at hm
        rcases List.mem_cons.mp hm with rfl | hm
        · exact absurd m1 (bne _).symm
        · exact .inr ⟨m, List.mem_append_left _ hm, m1, m2⟩
    · rw [comes_other, ot]
      intro k1 k2
      rcases o.ask k1 k2 with ⟨m, hm, m1, m2, m3, m4, m5⟩ | ⟨m, hm, m1, m2, m3, m4, m5⟩
      · rw [e] at hm
        rcases List.mem_cons.mp hm with rfl | hm
        · -- the ask comes: its answer is written
          refine .inr ?_
          have t := h.two (!m.who)
          rw [Bool.not_not] at t
          have sl := step_learned (hb.w _) t c0 ol
          have hu := t.x.u1
          have ly : (learn (s.e (!m.who)) m).1.yours = (s.e m.who).turn := by
            rw [learn_yours]
            split <;> omega
          have lt := learn_turn (s.e (!m.who)) m
          have lc := learn_open (l := m) c0
          rcases heard_open c0 m (bk (!m.who)).bounds with ⟨_, q⟩ | ⟨q, _⟩
          · have s2 := (sl.two.y.s c1 lc (by rw [ly]) (by rw [lt]; exact k1)).1
            have hw : heardWord (learn (s.e (!m.who)) m).1 m (bk (!m.who)).bounds = heardAsk (learn (s.e (!m.who)) m).1 m (bk (!m.who)).bounds := by
              unfold heardWord
              rw [m2]
            have n1 := ol.n1 m2
            have nm := sl.two.x.nm
            have fin : ∃ a ∈ (heardAsk (learn (s.e (!m.who)) m).1 m (bk (!m.who)).bounds).2, a.who = (!m.who) ∧ isAns a.word ∧ a.mine = (s.e (!m.who)).turn ∧ a.yours = (s.e m.who).turn ∧ a.number = (s.e m.who).number := by
              unfold heardAsk
              rw [if_neg (by omega)]
              by_cases hl : (learn (s.e (!m.who)) m).1.heard < m.number
              · rw [if_pos hl]
                refine ⟨_, List.mem_singleton.mpr rfl, nm, ?_, lt, ly, m5⟩
                show isAns (answer (bk (!m.who)).bounds m.pairs).1
                rcases answer_cases (bk (!m.who)).bounds m.pairs with ⟨q, _⟩ | ⟨q, _⟩ | ⟨q, _⟩ <;> rw [q] <;> simp [isAns]
              · rw [if_neg hl]
                obtain ⟨w, ps, hw, el⟩ := sl.two.x.l1 (by omega)
                rw [el]
                refine ⟨_, List.mem_singleton.mpr rfl, rfl, hw, lt, ly, ?_⟩
                show (learn (s.e (!m.who)) m).1.heard = _
                omega
            obtain ⟨a, ha, a1, a2, a3, a4, a5⟩ := fin
            refine ⟨a, ?_, a1, a2, ?_, ?_, ?_⟩
            · rw [comes_air, q, hw]
              exact List.mem_append_right _ (List.mem_append_right _ ha)
            · rw [ot]; exact a3
            · rw [comes_other]; exact a4
            · rw [comes_other]; exact a5
          · exact absurd ⟨by rw [ly]; exact m3, m4⟩ q
        · refine .inl ⟨m, List.mem_append_left _ hm, m1, m2, ?_, ?_, ?_⟩
          · rw [comes_other]; exact m3
          · rw [ot]; exact m4
          · rw [comes_other]; exact m5
      · rw [e] at hm
        rcases List.mem_cons.mp hm with rfl | hm
        · exact absurd m1 (bne _).symm
        · refine .inr ⟨m, List.mem_append_left _ hm, m1, m2, ?_, ?_, ?_⟩
          · rw [ot]; exact m3
          · rw [comes_other]; exact m4
          · rw [comes_other]; exact m5
/-- nothing in the air, none closed: it is settled -/
theorem Ob.final (h : Inv bk s) (ob : Ob s) (ha : s.air = []) (h0 : (s.e false).closed = false) (h1 : (s.e true).closed = false) : final s = true := by
  have key : ∀ i, (s.e i).closed = false → (s.e !i).closed = false → (s.e i).yours = (s.e !i).turn ∧ ∃ g, (s.e i).given = some g ∧ (s.e !i).took = some g := fun i c1 c2 => by
    have o := ob i c1 c2
    have k : (s.e i).yours = (s.e !i).turn := by
      rcases o.know with k | ⟨m, hm, _⟩
      · exact k
      · rw [ha] at hm
        cases hm
    refine ⟨k, ?_⟩
    cases hg : (s.e i).given with
    | none =>
      rcases o.ask k hg with ⟨m, hm, _⟩ | ⟨m, hm, _⟩
      · rw [ha] at hm
        cases hm
      · rw [ha] at hm
        cases hm
    | some g => exact ⟨g, rfl, ((h.e i).g c1 c2 k g hg).2.2.2.1⟩
  obtain ⟨y0, g0, a0, b0⟩ := key false h0 h1
  obtain ⟨y1, g1, a1, b1⟩ := key true h1 h0
  have y0' : (s.e false).yours = (s.e true).turn := y0
  have y1' : (s.e true).yours = (s.e false).turn := y1
  have b0' : (s.e true).took = some g0 := b0
  have b1' : (s.e false).took = some g1 := b1
  unfold Cw.final openWith isOpen
  rw [ha, h0, h1, a0, a1, b0', b1', y0', y1']
  simp
end
end Cw

/-! text CwSettle -/
/-! Settling: it ends, after so many letters, and as it must. -/
namespace Cw
open PySem

/-! ### the weight -/
def wt (l : Letter) : Nat := match l.word with
  | .bye => 1
  | .ask | .here => 3
  | _ => 2
def wts : List Letter → Nat
  | [] => 0
  | l :: r => wt l + wts r
theorem wts_append : ∀ a b : List Letter, wts (a ++ b) = wts a + wts b
  | [], b => by simp [wts]
  | l :: a, b => by
    show wt l + wts (a ++ b) = wt l + wts a + wts b
    rw [wts_append a b]
    omega
def full (ws : List Wish) : Nat := many (planOf ws)
/-- an end's weight beside the other one -/
def ph (X Y : End) : Nat := 2 * many X.plan + (Y.turn - X.yours).toNat * (2 * full X.wishes + 3)
def Phi (s : WS) : Nat := wts s.air + (ph (s.e false) (s.e true) + ph (s.e true) (s.e false))
theorem Phi_at (s : WS) (i : Bool) : Phi s = wts s.air + (ph (s.e i) (s.e !i) + ph (s.e !i) (s.e i)) := by
  cases i
  · rfl
  · show wts s.air + (ph (s.e false) (s.e true) + ph (s.e true) (s.e false)) = wts s.air + (ph (s.e true) (s.e false) + ph (s.e false) (s.e true))
    omega
theorem ph_other {X X' Y : End} (h : X'.turn = X.turn) : ph Y X' = ph Y X := by
  unfold ph
  rw [h]
theorem Phi_put (s : WS) (i : Bool) (z : End × List Letter) (air : List Letter) (ht : z.1.turn = (s.e i).turn) : Phi (put s i z air) = wts air + wts z.2 + (ph z.1 (s.e !i) + ph (s.e !i) (s.e i)) := by
  rw [Phi_at _ i, put_self, put_other, ph_other ht]
  show wts (air ++ z.2) + _ = _
  rw [wts_append]

section
variable {i : Bool} {ws wo : List Wish} {b bo : Bounds} {X Y : End} {l : Letter}
theorem ph_shut (X Y : End) (why : Str) : ph (shut X why) Y ≤ ph X Y := by
  unfold ph shut
  simp only [many]
  omega
theorem wt_ans {w : Wd} (h : isAns w) {l : Letter} (e : l.word = w) : wt l = 2 := by
  unfold wt
  rw [e]
  rcases h with rfl | rfl | rfl <;> rfl
theorem ph_learn (h : Two i ws wo b bo X Y) (o : LOk Y X l) : wts (learn X l).2 + ph (learn X l).1 Y ≤ ph X Y := by
  unfold learn
  split
  · rename_i hm
    have m2 := o.m2
    show wt (askL (begun { X with yours := l.mine })) + 0 + (2 * many (planOf X.wishes) + (Y.turn - l.mine).toNat * (2 * full X.wishes + 3)) ≤ 2 * many X.plan + (Y.turn - X.yours).toNat * (2 * full X.wishes + 3)
    have hlt : (Y.turn - l.mine).toNat + 1 ≤ (Y.turn - X.yours).toNat := by omega
    have hmul := Nat.mul_le_mul_right (2 * full X.wishes + 3) hlt
    rw [Nat.succ_mul] at hmul
    have e : wt (askL (begun { X with yours := l.mine })) = 3 := rfl
    have e2 : many (planOf X.wishes) = full X.wishes := rfl
    omega
  · show 0 + ph X Y ≤ ph X Y
    omega
theorem ph_word (h : Two i ws wo b bo X Y) (hc : X.closed = false) : wts (heardWord X l b).2 + ph (heardWord X l b).1 Y + 1 ≤ wt l + ph X Y := by
  have hx := h.x
  have ans : heardWord X l b = heardAnswer X l → wt l = 2 → wts (heardWord X l b).2 + ph (heardWord X l b).1 Y + 1 ≤ wt l + ph X Y := fun e ew => by
    rw [e, ew]
    unfold heardAnswer
    by_cases c : l.number ≠ X.number ∨ X.given.isSome
    · rw [if_pos c]
      show 0 + ph X Y + 1 ≤ _
      omega
    · rw [if_neg c]
      cases hb : behind X.wishes X.plan l.word l.pairs with
      | none =>
        show 0 + ph X Y + 1 ≤ _
        omega
      | some z =>
        cases z with
        | failed k =>
          have := ph_shut X Y (Str.ofString "failed")
          show 1 + 0 + ph (shut X (Str.ofString "failed")) Y + 1 ≤ _
          omega
        | agreed a =>
          show 0 + ph X Y + 1 ≤ _
          omega
        | plan p r =>
          have hm := behind_many (by rw [hx.wi]; exact (hx.q hc).fit) hb
          show 3 + 0 + (2 * many p + (Y.turn - X.yours).toNat * (2 * full X.wishes + 3)) + 1 ≤ 2 + (2 * many X.plan + (Y.turn - X.yours).toNat * (2 * full X.wishes + 3))
          omega
  cases hk : l.word with
  | ask =>
    have ew : wt l = 3 := by unfold wt; rw [hk]
    have e : heardWord X l b = heardAsk X l b := by unfold heardWord; rw [hk]
    rw [e, ew]
    unfold heardAsk
    split
    · show 0 + ph X Y + 1 ≤ _
      omega
    · split
      · have ha : isAns (answer b l.pairs).1 := by
          rcases answer_cases b l.pairs with ⟨q, _⟩ | ⟨q, _⟩ | ⟨q, _⟩ <;> rw [q] <;> simp [isAns]
        have := wt_ans ha (l := ⟨X.name, (answer b l.pairs).1, X.turn, X.yours, l.number, (answer b l.pairs).2⟩) rfl
        show wt ⟨X.name, (answer b l.pairs).1, X.turn, X.yours, l.number, (answer b l.pairs).2⟩ + 0 + ph X Y + 1 ≤ _
        omega
      · show wts X.last.toList + ph X Y + 1 ≤ _
        have hh := hx.h0
        by_cases h1 : 1 ≤ X.heard
        · obtain ⟨w, ps, hw, el⟩ := hx.l1 h1
          rw [el]
          have := wt_ans hw (l := ⟨i, w, X.turn, X.yours, X.heard, ps⟩) rfl
          show wt ⟨i, w, X.turn, X.yours, X.heard, ps⟩ + 0 + ph X Y + 1 ≤ _
          omega
        · rw [(hx.l0 (by omega)).1]
          show 0 + ph X Y + 1 ≤ _
          omega
  | bye =>
    have ew : wt l = 1 := by unfold wt; rw [hk]
    have e : heardWord X l b = (shut X (Str.ofString "bye"), []) := by unfold heardWord; rw [hk]
    rw [e, ew]
    have := ph_shut X Y (Str.ofString "bye")
    show 0 + ph (shut X (Str.ofString "bye")) Y + 1 ≤ _
    omega
  | here =>
    have ew : wt l = 3 := by unfold wt; rw [hk]
    have e : heardWord X l b = (X, [bareL X .there]) := by unfold heardWord; rw [hk]
    rw [e, ew]
    show 2 + 0 + ph X Y + 1 ≤ _
    omega
  | there =>
    have ew : wt l = 2 := by unfold wt; rw [hk]
    have e : heardWord X l b = ({ X with tries := 3 }, []) := by unfold heardWord; rw [hk]
    rw [e, ew]
    show 0 + ph X Y + 1 ≤ _
    omega
  | yes => exact ans (by unfold heardWord; rw [hk]) (by unfold wt; rw [hk])
  | no => exact ans (by unfold heardWord; rw [hk]) (by unfold wt; rw [hk])
  | rather => exact ans (by unfold heardWord; rw [hk]) (by unfold wt; rw [hk])
theorem ph_heard (hw : WOk ws) (h : Two i ws wo b bo X Y) (o : LOk Y X l) : wts (heard X l b).2 + ph (heard X l b).1 Y + 1 ≤ wt l + ph X Y := by
  by_cases hc : X.closed = true
  · rw [heard_closed hc]
    have h1 : 1 ≤ wt l := by
      unfold wt
      split <;> omega
    by_cases hn : l.yours = 0 ∨ l.yours ≠ X.turn ∨ l.word = .bye
    · show wts (if l.yours = 0 ∨ l.yours ≠ X.turn ∨ l.word = .bye then [] else [backL X.name l]) + ph X Y + 1 ≤ _
      rw [if_pos hn]
      show 0 + ph X Y + 1 ≤ _
      omega
    · show wts (if l.yours = 0 ∨ l.yours ≠ X.turn ∨ l.word = .bye then [] else [backL X.name l]) + ph X Y + 1 ≤ _
      rw [if_neg hn]
      have h2 : 2 ≤ wt l := by
        have : l.word ≠ .bye := fun z => hn (.inr (.inr z))
        unfold wt
        split
        · exact absurd ‹_› this
        · omega
        · omega
        · omega
      show 1 + 0 + ph X Y + 1 ≤ _
      omega
  · have hc' : X.closed = false := by simpa using hc
    have p1 := ph_learn h o
    rcases heard_open hc' l b with ⟨_, e⟩ | ⟨_, e⟩
    · have p2 := ph_word (l := l) (step_learned hw h hc' o).two (learn_open hc')
      rw [e]
      show wts ((learn X l).2 ++ (heardWord (learn X l).1 l b).2) + ph (heardWord (learn X l).1 l b).1 Y + 1 ≤ _
      rw [wts_append]
      omega
    · have h1 : 1 ≤ wt l := by
        unfold wt
        split <;> omega
      rw [e]
      omega
theorem ph_ticked (X Y : End) : wts (ticked X).2 + ph (ticked X).1 Y ≤ 3 + ph X Y := by
  unfold ticked
  split
  · show 0 + ph X Y ≤ _
    omega
  · split
    · have := ph_shut X Y (Str.ofString "tries")
      show 1 + 0 + ph (shut X (Str.ofString "tries")) Y ≤ _
      omega
    · show wt (if X.given.isNone then _ else _) + 0 + ph X Y ≤ _
      split
      · show 3 + 0 + ph X Y ≤ _
        omega
      · show 3 + 0 + ph X Y ≤ _
        omega
theorem ticked_turn (X : End) : (ticked X).1.turn = X.turn := by
  unfold ticked
  split
  · rfl
  · split <;> rfl
end

section
variable {bk : Bool → Book} {s : WS} {i : Bool} {l : Letter} {r air : List Letter}
theorem Phi_comes (hb : BkOk bk) (h : Inv bk s) (e : s.air = l :: r) : Phi (comes bk s l r) + 1 ≤ Phi s := by
  have o := h.l l (by rw [e]; exact List.mem_cons_self)
  have t := h.two (!l.who)
  rw [Bool.not_not] at t
  have p := ph_heard (hb.w _) t o
  rw [Phi_at s (!l.who), e, Bool.not_not]
  have q := Phi_put s (!l.who) (heard (s.e (!l.who)) l (bk (!l.who)).bounds) r (heard_turn _ _ _)
  rw [Bool.not_not] at q
  show Phi (put s (!l.who) (heard (s.e (!l.who)) l (bk (!l.who)).bounds) r) + 1 ≤ wt l + wts r + _
  rw [q]
  omega
theorem Phi_ticks (s : WS) (i : Bool) : Phi (ticks s i) ≤ Phi s + 3 := by
  have p := ph_ticked (s.e i) (s.e !i)
  rw [Phi_at s i]
  have q := Phi_put s i (ticked (s.e i)) s.air (ticked_turn _)
  show Phi (put s i (ticked (s.e i)) s.air) ≤ _
  rw [q]
  omega
theorem Phi_round (s : WS) : Phi (round s) ≤ Phi s + 6 := by
  unfold Cw.round
  have h1 : Phi (if (s.e false).closed then s else ticks s false) ≤ Phi s + 3 := by
    split
    · omega
    · exact Phi_ticks s false
  show Phi (if (s.e true).closed then _ else _) ≤ _
  split
  · omega
  · have := Phi_ticks (if (s.e false).closed then s else ticks s false) true
    omega

/-! ### tries -/
def Tries (s : WS) : Prop := ∀ i, (s.e i).closed = false → 0 ≤ (s.e i).tries ∧ (s.e i).tries ≤ 3
def Tries3 (s : WS) : Prop := ∀ i, (s.e i).closed = false → (s.e i).tries = 3
theorem learn_tries (X : End) (l : Letter) : (learn X l).1.tries = X.tries ∨ (learn X l).1.tries = 3 := by
  unfold learn
  split
  · exact .inr rfl
  · exact .inl rfl
theorem word_tries (X : End) (l : Letter) (b : Bounds) : (heardWord X l b).1.closed = true ∨ (heardWord X l b).1.tries = X.tries ∨ (heardWord X l b).1.tries = 3 := by
  unfold heardWord heardAsk heardAnswer
  split
  · split
    · exact .inr (.inl rfl)
    · split
      · exact .inr (.inl rfl)
      · exact .inr (.inl rfl)
  · exact .inl rfl
  · exact .inr (.inl rfl)
  · exact .inr (.inr rfl)
  · split
    · exact .inr (.inl rfl)
    · split
      · exact .inr (.inl rfl)
      · exact .inl rfl
      · exact .inr (.inr rfl)
      · exact .inr (.inr rfl)
theorem heard_tries (X : End) (l : Letter) (b : Bounds) (h : (heard X l b).1.closed = false) : (heard X l b).1.tries = X.tries ∨ (heard X l b).1.tries = 3 := by
  have hc := heard_was X l b h
  have h1 := learn_tries X l
  rcases heard_open hc l b with ⟨_, e⟩ | ⟨_, e⟩
  · rw [e] at h ⊢
    rcases word_tries (learn X l).1 l b with q | q | q
    · have h' : (heardWord (learn X l).1 l b).1.closed = false := h
      rw [q] at h'
      cases h'
    · rcases h1 with h1 | h1
      · exact .inl (q.trans h1)
      · exact .inr (q.trans h1)
    · exact .inr q
  · rw [e]
    exact h1
theorem Tries.comes (h : Tries s) : Tries (comes bk s l r) := by
  intro j hj
  rcases bool_cases (!l.who) j with rfl | e
  · rw [comes_self] at hj ⊢
    have hc := heard_was _ _ _ hj
    have := h _ hc
    rcases heard_tries _ _ _ hj with q | q <;> omega
  · rw [Bool.not_not] at e
    subst e
    rw [comes_other] at hj ⊢
    exact h _ hj
theorem Tries3.comes (h : Tries3 s) : Tries3 (comes bk s l r) := by
  intro j hj
  rcases bool_cases (!l.who) j with rfl | e
  · rw [comes_self] at hj ⊢
    have hc := heard_was _ _ _ hj
    have := h _ hc
    rcases heard_tries _ _ _ hj with q | q <;> omega
  · rw [Bool.not_not] at e
    subst e
    rw [comes_other] at hj ⊢
    exact h _ hj

/-! ### a round behind which all goes on -/
theorem round_open (h0 : (s.e false).closed = false) (h1 : (s.e true).closed = false) : round s = ticks (ticks s false) true := by
  unfold Cw.round
  rw [h0, h1]
  simp
theorem ticked_open {X : End} (hc : X.closed = false) (ht : X.tries ≠ 0) : ticked X = ({ X with tries := X.tries - 1 }, [if X.given.isNone then askL { X with tries := X.tries - 1 } else bareL { X with tries := X.tries - 1 } .here]) := by
  unfold ticked
  rw [if_neg (by rw [hc]; decide), if_neg ht]
theorem round_e (h0 : (s.e false).closed = false) (h1 : (s.e true).closed = false) (j : Bool) : (round s).e j = (ticked (s.e j)).1 := by
  rw [round_open h0 h1]
  cases j
  · show (put (ticks s false) true _ _).e false = _
    rw [show false = !true from rfl, put_other]
    exact put_self s false _ _
  · have : (ticks s false).e true = s.e true := put_other s false (ticked (s.e false)) s.air
    show (put (ticks s false) true _ _).e true = _
    rw [put_self, this]
theorem round_air (h0 : (s.e false).closed = false) (h1 : (s.e true).closed = false) : (round s).air = s.air ++ (ticked (s.e false)).2 ++ (ticked (s.e true)).2 := by
  rw [round_open h0 h1]
  have : (ticks s false).e true = s.e true := put_other s false (ticked (s.e false)) s.air
  show s.air ++ (ticked (s.e false)).2 ++ (ticked ((ticks s false).e true)).2 = _
  rw [this]
theorem round_ob (h : Inv bk s) (h3 : Tries3 s) (h0 : (s.e false).closed = false) (h1 : (s.e true).closed = false) : Ob (round s) ∧ Tries (round s) := by
  have hc : ∀ j, (s.e j).closed = false := fun j => by cases j; exact h0; exact h1
  have ht : ∀ j, (s.e j).tries ≠ 0 := fun j => by rw [h3 j (hc j)]; decide
  have ee : ∀ j, (round s).e j = { s.e j with tries := (s.e j).tries - 1 } := fun j => by rw [round_e h0 h1, ticked_open (hc j) (ht j)]
  have inn : ∀ j, (if (s.e j).given.isNone then askL { s.e j with tries := (s.e j).tries - 1 } else bareL { s.e j with tries := (s.e j).tries - 1 } .here) ∈ (round s).air := fun j => by
    rw [round_air h0 h1]
    cases j
    · rw [ticked_open (hc false) (ht false)]
      exact List.mem_append_left _ (List.mem_append_right _ (List.mem_singleton.mpr rfl))
    · rw [ticked_open (hc true) (ht true)]
      exact List.mem_append_right _ (List.mem_singleton.mpr rfl)
  constructor
  · intro j _ _
    have nm : ∀ j, (s.e j).name = j := fun j => (h.e j).nm
    constructor
    · refine .inr ⟨_, inn (!j), ?_, ?_⟩
      · split <;> exact nm (!j)
      · rw [ee]
        split <;> rfl
    · intro k1 k2
      rw [ee] at k1 k2
      rw [ee] at k1
      have k2' : (s.e j).given = none := k2
      have k1' : (s.e j).yours = (s.e !j).turn := k1
      refine .inl ⟨_, inn j, ?_⟩
      rw [k2']
      refine ⟨nm j, rfl, ?_, ?_, ?_⟩
      · rw [ee] <;> rfl
      · rw [ee]
        exact k1'
      · rw [ee] <;> rfl
  · intro j _
    rw [ee]
    have := h3 j (hc j)
    show 0 ≤ (s.e j).tries - 1 ∧ (s.e j).tries - 1 ≤ 3
    omega

/-! ### one closed: the other one's tries run out -/
theorem final_of_closed (h : ∀ j, (s.e j).closed = true) : final s = true := by
  unfold Cw.final bothClosed
  rw [h false, h true]
  rfl
theorem not_final_half (hx : (s.e i).closed = true) (hy : (s.e !i).closed = false) : final s = false := by
  unfold Cw.final bothClosed openWith isOpen
  cases i
  · have hy' : (s.e true).closed = false := hy
    rw [hx, hy']
    simp
  · have hy' : (s.e false).closed = false := hy
    rw [hx, hy']
    simp
theorem round_half (hx : (s.e i).closed = true) (hy : (s.e !i).closed = false) : round s = ticks s (!i) := by
  unfold Cw.round
  cases i
  · have hy' : (s.e true).closed = false := hy
    rw [hx, hy']
    simp
  · have hy' : (s.e false).closed = false := hy
    have h1 : (ticks s false).e true = s.e true := put_other s false (ticked (s.e false)) s.air
    rw [hx, hy']
    simp
theorem half_settles (hb : BkOk bk) : ∀ (n : Nat) {s : WS} {i : Bool}, Inv bk s → s.air = [] → (s.e i).closed = true → (s.e !i).closed = false → (s.e !i).tries = (n : Int) →
    ∃ k m s', Settles bk k s m s' ∧ m ≤ n + 1 ∧ k ≤ 2 * n + 3
  | n, s, i, h, ha, hx, hy, ht => by
    have hf := not_final_half hx hy
    have er := round_half hx hy
    cases n with
    | zero =>
      refine ⟨1, 0, round s, .tick hf ha (.done (final_of_closed fun j => ?_)), by omega, by omega⟩
      have e : ticked (s.e !i) = (shut (s.e !i) (Str.ofString "tries"), [bareL (s.e !i) .bye]) := by
        unfold ticked
        rw [if_neg (by rw [hy]; decide), if_pos (by rw [ht]; rfl)]
      rw [er]
      rcases bool_cases i j with rfl | rfl
      · have := put_other s (!j) (ticked (s.e !j)) s.air
        rw [Bool.not_not] at this
        show ((put s (!j) (ticked (s.e !j)) s.air).e j).closed = true
        rw [this]
        exact hx
      · show ((put s (!i) (ticked (s.e !i)) s.air).e (!i)).closed = true
        rw [put_self, e]
        rfl
    | succ n =>
      have e := ticked_open hy (by rw [ht]; omega)
      have h1 := h.ticks (!i)
      -- the letter that it writes
      generalize hm : (if (s.e !i).given.isNone then askL { s.e !i with tries := (s.e !i).tries - 1 } else bareL { s.e !i with tries := (s.e !i).tries - 1 } .here) = m at e
      have mw : m.who = (!i) := by
        rw [← hm]
        split <;> exact (h.e (!i)).nm
      have mm : m.mine = (s.e !i).turn := by
        rw [← hm]
        split <;> rfl
      have my : m.yours = (s.e !i).yours := by
        rw [← hm]
        split <;> rfl
      have s1x : (ticks s (!i)).e i = s.e i := by
        have := put_other s (!i) (ticked (s.e !i)) s.air
        rwa [Bool.not_not] at this
      have s1y : (ticks s (!i)).e (!i) = { s.e !i with tries := (s.e !i).tries - 1 } := by
        have := put_self s (!i) (ticked (s.e !i)) s.air
        exact this.trans (by rw [e])
      have s1a : (ticks s (!i)).air = [m] := by
        show s.air ++ (ticked (s.e !i)).2 = [m]
        rw [ha, e]
        rfl
      have hf1 : final (ticks s (!i)) = false := not_final_half (i := i) (by rw [s1x]; exact hx) (by rw [s1y]; exact hy)
      have h2 := h1.comes hb s1a
      have wi : (!m.who) = i := by rw [mw, Bool.not_not]
      have s2x : (comes bk (ticks s (!i)) m []).e i = s.e i := by
        have := comes_self bk (ticks s (!i)) m []
        rw [wi, s1x, heard_closed hx] at this
        exact this
      have s2y : (comes bk (ticks s (!i)) m []).e (!i) = { s.e !i with tries := (s.e !i).tries - 1 } := by
        have := comes_other bk (ticks s (!i)) m []
        rw [mw, s1y] at this
        exact this
      have s2a : (comes bk (ticks s (!i)) m []).air = if m.yours = 0 ∨ m.yours ≠ (s.e i).turn ∨ m.word = .bye then [] else [backL (s.e i).name m] := by
        rw [comes_air, wi, s1x, heard_closed hx]
        rfl
      have hf2 : final (comes bk (ticks s (!i)) m []) = false := not_final_half (i := i) (by rw [s2x]; exact hx) (by rw [s2y]; exact hy)
      by_cases hn : m.yours = 0 ∨ m.yours ≠ (s.e i).turn ∨ m.word = .bye
      · rw [if_pos hn] at s2a
        obtain ⟨k, c, s', q, q1, q2⟩ := half_settles hb n (i := i) h2 s2a (by rw [s2x]; exact hx) (by rw [s2y]; exact hy) (by rw [s2y]; show (s.e !i).tries - 1 = _; omega)
        exact ⟨k + 1 + 1, c + 1, s', .tick hf ha (by rw [er]; exact .come hf1 s1a q), by omega, by omega⟩
      · rw [if_neg hn] at s2a
        have e2 : m.yours = (s.e i).turn := Decidable.byContradiction fun z => hn (.inr (.inl z))
        have bw : (backL (s.e i).name m).who = i := (h.e i).nm
        have h3 := h2.comes hb s2a
        have hfin : final (comes bk (comes bk (ticks s (!i)) m []) (backL (s.e i).name m) []) = true := by
          refine final_of_closed fun j => ?_
          rcases bool_cases i j with rfl | rfl
          · have := comes_other bk (comes bk (ticks s (!j)) m []) (backL (s.e j).name m) []
            rw [bw, s2x] at this
            rw [this]
            exact hx
          · have := comes_self bk (comes bk (ticks s (!i)) m []) (backL (s.e i).name m) []
            rw [bw, s2y] at this
            rw [this]
            have hc' : ({ s.e !i with tries := (s.e !i).tries - 1 } : End).closed = false := hy
            have hl : learn ({ s.e !i with tries := (s.e !i).tries - 1 } : End) (backL (s.e i).name m) = ({ s.e !i with tries := (s.e !i).tries - 1 }, []) := by
              unfold learn
              rw [if_neg (by show ¬ (s.e !i).yours < m.yours; omega)]
            rcases heard_open hc' (backL (s.e i).name m) (bk !i).bounds with ⟨_, q⟩ | ⟨q, _⟩
            · rw [q, hl] <;> rfl
            · rw [hl] at q
              exact absurd ⟨my, mm⟩ q
        have g : Settles bk (1 + 1) (round s) (0 + 1 + 1) (comes bk (comes bk (ticks s (!i)) m []) (backL (s.e i).name m) []) := by
          rw [er]
          exact .come hf1 s1a (.come hf2 s2a (.done hfin))
        exact ⟨1 + 1 + 1, 0 + 1 + 1, _, .tick hf ha g, by omega, by omega⟩

/-! ### till nothing is in the air -/
theorem drain (hb : BkOk bk) (Q : WS → Prop) (B K : Nat) (hQ : ∀ {s l r}, Inv bk s → Q s → s.air = l :: r → Q (comes bk s l r)) (ends : ∀ q, Inv bk q → Q q → final q = false → q.air = [] → ∃ k m s', Settles bk k q m s' ∧ m ≤ B + Phi q ∧ k ≤ K + Phi q) :
    ∀ (n : Nat) {s : WS}, Inv bk s → Q s → Phi s ≤ n → ∃ k m s', Settles bk k s m s' ∧ m ≤ B + Phi s ∧ k ≤ K + Phi s
  | n, s, h, q, hn => by
    by_cases hf : final s = true
    · exact ⟨0, 0, s, .done hf, by omega, by omega⟩
    · have hf' : final s = false := by simpa using hf
      cases ha : s.air with
      | nil => exact ends s h q hf' ha
      | cons l r =>
        have p := Phi_comes hb h ha
        cases n with
        | zero => omega
        | succ n =>
          obtain ⟨k, m, s', g, g1, g2⟩ := drain hb Q B K hQ ends n (h.comes hb ha) (hQ h q ha) (by omega)
          exact ⟨k + 1, m + 1, s', .come hf' ha g, by omega, by omega⟩
theorem half_case (hf : final s = false) : ((s.e false).closed = false ∧ (s.e true).closed = false) ∨ ∃ i, (s.e i).closed = true ∧ (s.e !i).closed = false := by
  cases h0 : (s.e false).closed with
  | false =>
    cases h1 : (s.e true).closed with
    | false => exact .inl ⟨rfl, rfl⟩
    | true => exact .inr ⟨true, h1, h0⟩
  | true =>
    cases h1 : (s.e true).closed with
    | false => exact .inr ⟨false, h0, h1⟩
    | true =>
      exfalso
      rw [final_of_closed (s := s) (fun j => by cases j; exact h0; exact h1)] at hf
      cases hf
theorem half_end (hb : BkOk bk) (h : Inv bk s) (ht : Tries s) (ha : s.air = []) (hx : (s.e i).closed = true) (hy : (s.e !i).closed = false) : ∃ k m s', Settles bk k s m s' ∧ m ≤ 4 + Phi s ∧ k ≤ 9 + Phi s := by
  have t := ht _ hy
  obtain ⟨k, m, s', g, g1, g2⟩ := half_settles hb (s.e !i).tries.toNat h ha hx hy (by omega)
  exact ⟨k, m, s', g, by omega, by omega⟩
theorem settles_ob (hb : BkOk bk) (h : Inv bk s) (ob : Ob s) (ht : Tries s) : ∃ k m s', Settles bk k s m s' ∧ m ≤ 4 + Phi s ∧ k ≤ 9 + Phi s := by
  refine drain hb (fun s => Ob s ∧ Tries s) 4 9 (fun h q e => ⟨q.1.comes hb h e, q.2.comes⟩) (fun q h hq hf ha => ?_) _ h ⟨ob, ht⟩ (Nat.le_refl _)
  rcases half_case hf with ⟨h0, h1⟩ | ⟨i, hx, hy⟩
  · rw [hq.1.final h ha h0 h1] at hf
    cases hf
  · exact half_end hb h hq.2 ha hx hy
/-- IT SETTLES -/
theorem settles (hb : BkOk bk) (h : Inv bk s) (h3 : Tries3 s) : ∃ k m s', Settles bk k s m s' ∧ m ≤ 10 + Phi s ∧ k ≤ 16 + Phi s := by
  refine drain hb Tries3 10 16 (fun _ q _ => q.comes) (fun q h hq hf ha => ?_) _ h h3 (Nat.le_refl _)
  rcases half_case hf with ⟨h0, h1⟩ | ⟨i, hx, hy⟩
  · obtain ⟨o, t⟩ := round_ob h hq h0 h1
    obtain ⟨k, m, s', g, g1, g2⟩ := settles_ob hb h.round o t
    have p := Phi_round q
    exact ⟨k + 1, m, s', .tick hf ha g, by omega, by omega⟩
  · obtain ⟨k, m, s', g, g1, g2⟩ := half_end hb h (fun j hj => by have := hq j hj; omega) ha hx hy
    exact ⟨k, m, s', g, by omega, by omega⟩

/-! ### what stays true to the end -/
theorem Settles.final {k m : Nat} {s' : WS} (g : Settles bk k s m s') : Cw.final s' = true := by
  induction g with
  | done h => exact h
  | come _ _ _ ih => exact ih
  | tick _ _ _ ih => exact ih
theorem Settles.inv (hb : BkOk bk) {k m : Nat} {s' : WS} (g : Settles bk k s m s') (h : Inv bk s) : Inv bk s' := by
  induction g with
  | done _ => exact h
  | come _ e _ ih => exact ih (h.comes hb e)
  | tick _ _ _ ih => exact ih h.round
theorem Settles.det {k m k' m' : Nat} {s1 s2 : WS} (g : Settles bk k s m s1) (g' : Settles bk k' s m' s2) : k = k' ∧ m = m' ∧ s1 = s2 := by
  induction g generalizing k' m' with
  | done h => cases g' with
    | done _ => exact ⟨rfl, rfl, rfl⟩
    | come h' _ _ => rw [h] at h'; cases h'
    | tick h' _ _ => rw [h] at h'; cases h'
  | come h e _ ih => cases g' with
    | done h' => rw [h] at h'; cases h'
    | come _ e' g' =>
      rw [e] at e'
      injection e' with e1 e2
      subst e1 e2
      obtain ⟨a, b, c⟩ := ih g'
      exact ⟨by omega, by omega, c⟩
    | tick _ e' _ => rw [e] at e'; cases e'
  | tick h e _ ih => cases g' with
    | done h' => rw [h] at h'; cases h'
    | come _ e' _ => rw [e] at e'; cases e'
    | tick _ _ g' =>
      obtain ⟨a, b, c⟩ := ih g'
      exact ⟨by omega, b, c⟩

/-! ### where nothing was lost, doubled or closed -/
/-- both courses come to agreed -/
def Both (bk : Bool → Book) : Prop := ∀ i, ∃ a, CTo (bk i).wishes (bk !i).bounds (planOf (bk i).wishes) (.agreed a)
structure Nc (s : WS) : Prop where
  op : ∀ i, (s.e i).closed = false
  tn : ∀ i, (s.e i).turn = 1
  by_ : ∀ l ∈ s.air, l.word ≠ .bye
theorem word_nc {X : End} (hc : X.closed = false) (hl : l.word ≠ .bye) {b : Bounds} (hf : isAns l.word → l.number = X.number → X.given = none → ∀ k, behind X.wishes X.plan l.word l.pairs ≠ some (.failed k)) (hL : ∀ m, X.last = some m → m.word ≠ .bye) :
    (heardWord X l b).1.closed = false ∧ ∀ m ∈ (heardWord X l b).2, m.word ≠ .bye := by
  have ans : heardWord X l b = heardAnswer X l → isAns l.word → (heardWord X l b).1.closed = false ∧ ∀ m ∈ (heardWord X l b).2, m.word ≠ .bye := fun e ha => by
    rw [e]
    unfold heardAnswer
    by_cases c : l.number ≠ X.number ∨ X.given.isSome
    · rw [if_pos c]
      exact ⟨hc, fun _ z => by cases z⟩
    · rw [if_neg c]
      have cn : l.number = X.number := Decidable.byContradiction fun z => c (.inl z)
      have cg : X.given = none := by
        cases q : X.given with
        | none => rfl
        | some g => exact absurd (.inr (by rw [q]; rfl)) c
      cases hb : behind X.wishes X.plan l.word l.pairs with
      | none => exact ⟨hc, fun _ z => by cases z⟩
      | some z =>
        cases z with
        | failed k => exact absurd hb (hf ha cn cg k)
        | agreed a => exact ⟨hc, fun _ z => by cases z⟩
        | plan p r =>
          refine ⟨hc, fun m hm => ?_⟩
          have hm' : m = askL { X with tries := 3, plan := p, refused := joined (X.refused ++ r), number := X.number + 1 } := List.mem_singleton.mp hm
          rw [hm']
          exact fun z => by cases z
  cases hk : l.word with
  | ask =>
    have e : heardWord X l b = heardAsk X l b := by unfold heardWord; rw [hk]
    rw [e]
    unfold heardAsk
    split
    · exact ⟨hc, fun _ z => by cases z⟩
    · split
      · refine ⟨hc, fun m hm => ?_⟩
        have hm' := List.mem_singleton.mp hm
        rw [hm']
        show (answer b l.pairs).1 ≠ .bye
        rcases answer_cases b l.pairs with ⟨q, _⟩ | ⟨q, _⟩ | ⟨q, _⟩ <;> rw [q] <;> exact fun z => by cases z
      · refine ⟨hc, fun m hm => hL m ?_⟩
        have hm' : m ∈ X.last.toList := hm
        cases q : X.last with
        | none => rw [q] at hm'; cases hm'
        | some y =>
          rw [q] at hm'
          have : m = y := by simpa using hm'
          rw [this]
  | bye => exact absurd hk hl
  | here =>
    have e : heardWord X l b = (X, [bareL X .there]) := by unfold heardWord; rw [hk]
    rw [e]
    refine ⟨hc, fun m hm => ?_⟩
    rw [List.mem_singleton.mp hm]
    exact fun z => by cases z
  | there =>
    have e : heardWord X l b = ({ X with tries := 3 }, []) := by unfold heardWord; rw [hk]
    rw [e]
    exact ⟨hc, fun _ z => by cases z⟩
  | yes => exact ans (by unfold heardWord; rw [hk]) (.inl hk)
  | no => exact ans (by unfold heardWord; rw [hk]) (.inr (.inl hk))
  | rather => exact ans (by unfold heardWord; rw [hk]) (.inr (.inr hk))
theorem last_nobye {ws : List Wish} {b : Bounds} {X Y : End} (h : EOk i ws b X Y) {m : Letter} (e : X.last = some m) : m.word ≠ .bye := by
  have h0 := h.h0
  by_cases h1 : 1 ≤ X.heard
  · obtain ⟨w, ps, hw, el⟩ := h.l1 h1
    rw [el] at e
    have e' := Option.some.inj e
    rw [← e']
    rcases hw with rfl | rfl | rfl <;> exact fun z => by cases z
  · rw [(h.l0 (by omega)).1] at e
    cases e
theorem Nc.comes (hb : BkOk bk) (hA : Both bk) (h : Inv bk s) (n : Nc s) (e : s.air = l :: r) : Nc (comes bk s l r) := by
  have hl : l.word ≠ .bye := n.by_ l (by rw [e]; exact List.mem_cons_self)
  have ol := h.l l (by rw [e]; exact List.mem_cons_self)
  have t := h.two (!l.who)
  rw [Bool.not_not] at t
  have c0 := n.op (!l.who)
  have sl := step_learned (hb.w _) t c0 ol
  have key : (heard (s.e (!l.who)) l (bk (!l.who)).bounds).1.closed = false ∧ ∀ m ∈ (heard (s.e (!l.who)) l (bk (!l.who)).bounds).2, m.word ≠ .bye := by
    have lb : ∀ m ∈ (learn (s.e (!l.who)) l).2, m.word ≠ .bye := fun m hm => by
      unfold learn at hm
      split at hm
      · rw [List.mem_singleton.mp hm]
        exact fun z => by cases z
      · cases hm
    rcases heard_open c0 l (bk (!l.who)).bounds with ⟨⟨g1, g2⟩, q⟩ | ⟨_, q⟩
    · have w := word_nc (l := l) (b := (bk (!l.who)).bounds) (learn_open (l := l) c0) hl (fun ha hn hg k hk => ?_) (fun m hm => last_nobye sl.two.x hm)
      · rw [q]
        exact ⟨w.1, fun m hm => (List.mem_append.mp hm).elim (lb m) (w.2 m)⟩
      · have m1 := ol.m1
        have m2 := ol.m2
        rw [n.tn l.who] at m2
        have ky : (learn (s.e (!l.who)) l).1.yours = (s.e l.who).turn := by
          rw [n.tn l.who]
          omega
        have gn := genuine sl.two (learn_open c0) (n.op l.who) (sl.theirs l ol) ha g1 (by rw [learn_turn]; exact g2) ky hn
        have rc := sl.two.x.p (learn_open c0) (n.op l.who) ky
        rw [gn.2.2.1, gn.2.2.2.1, sl.two.x.wi] at hk
        obtain ⟨a, ca⟩ := hA (!l.who)
        rw [Bool.not_not] at ca
        have := (CTo.reach rc ca).det (.failed hk)
        cases this
    · rw [q]
      exact ⟨learn_open c0, lb⟩
  refine ⟨fun j => ?_, fun j => ?_, fun m hm => ?_⟩
  · rcases bool_cases (!l.who) j with rfl | e
    · rw [comes_self]
      exact key.1
    · rw [Bool.not_not] at e
      subst e
      rw [comes_other]
      exact n.op _
  · rcases bool_cases (!l.who) j with rfl | e
    · rw [comes_self, heard_turn]
      exact n.tn _
    · rw [Bool.not_not] at e
      subst e
      rw [comes_other]
      exact n.tn _
  · rw [comes_air] at hm
    rcases List.mem_append.mp hm with hm | hm
    · exact n.by_ m (by rw [e]; exact List.mem_cons_of_mem _ hm)
    · exact key.2 m hm
theorem Settles.nc (hb : BkOk bk) (hA : Both bk) {k m : Nat} {s' : WS} (g : Settles bk k s m s') (h : Inv bk s) (ob : Ob s) (n : Nc s) : Nc s' := by
  induction g with
  | done _ => exact n
  | come _ e _ ih => exact ih (h.comes hb e) (ob.comes hb h e) (n.comes hb hA h e)
  | tick hf ha _ _ =>
    rw [ob.final h ha (n.op false) (n.op true)] at hf
    cases hf

/-! ### as it stands settled -/
theorem openWith_split (h : openWith (s.e false) (s.e true) = true) (i : Bool) : (s.e i).closed = false ∧ (s.e i).yours = (s.e !i).turn ∧ (∃ g, (s.e i).given = some g) ∧ ∃ t, (s.e i).took = some t := by
  unfold openWith isOpen at h
  simp only [Bool.and_eq_true, Bool.not_eq_true', decide_eq_true_eq, Option.isSome_iff_exists] at h
  obtain ⟨⟨⟨⟨⟨a1, a2⟩, a3⟩, ⟨b1, b2⟩, b3⟩, c1⟩, c2⟩ := h
  cases i
  · exact ⟨a1, c1, a2, a3⟩
  · exact ⟨b1, c2, b2, b3⟩
/-- both open for one another: what each was given is what the other took, within wishes and bounds, not refused, and what the course comes to -/
theorem open_right (h : Inv bk s) (o : openWith (s.e false) (s.e true) = true) (i : Bool) : ∃ g, (s.e i).given = some g ∧ (s.e !i).took = some g ∧ g = askOf (s.e i).wishes (s.e i).plan ∧
    (∀ p ∈ g, (∃ w ∈ (bk i).wishes, w.kind = p.1 ∧ p.2 ∈ w.worths) ∧ ∃ l, lk (bk !i).bounds p.1 = some l ∧ p.2 ∈ l) ∧
    (∀ p ∈ askOf (s.e i).wishes (s.e i).plan, p ∉ (s.e i).refused ∧ (p.1, -1) ∉ (s.e i).refused) ∧
    ∀ z, CTo (bk i).wishes (bk !i).bounds (planOf (bk i).wishes) z → z = .agreed g := by
  obtain ⟨c1, c2, ⟨g, c3⟩, _⟩ := openWith_split o i
  obtain ⟨d1, _⟩ := openWith_split o (!i)
  obtain ⟨g1, g2, g3, g4, g5⟩ := (h.e i).g c1 d1 c2 g c3
  have wi := (h.e i).wi
  have po := (h.e i).q c1
  refine ⟨g, c3, g4, g3, fun p hp => ⟨?_, ?_⟩, fun p hp => ?_, fun z hz => ?_⟩
  · rw [g3, wi] at hp
    exact (po.ask hp).2.2
  · exact (answer_yes g5).2 p hp
  · rw [wi] at hp
    have := po.ask hp
    exact ⟨this.1, this.2.1⟩
  · have rc := (h.e i).p c1 d1 c2
    have e := (answer_yes g5).1
    rw [g3, wi] at e
    have b : behind (bk i).wishes (s.e i).plan (answer (bk !i).bounds (askOf (bk i).wishes (s.e i).plan)).1 (answer (bk !i).bounds (askOf (bk i).wishes (s.e i).plan)).2 = some (.agreed (askOf (bk i).wishes (s.e i).plan)) := by
      rw [e]
      exact behind_yes _ _
    have := (CTo.reach rc hz).det (.agreed b)
    rw [this, g3, wi]
end
end Cw

/-! text CwPath -/
/-! The ways by which the law comes to the wire that it settles. -/
namespace Cw
open PySem
section
variable {bk : Bool → Book} {s : WS} {i : Bool} {l : Letter} {r : List Letter}
/-- all worths of both -/
def allW (bk : Bool → Book) : Nat := full (bk false).wishes + full (bk true).wishes
theorem allW_at (bk : Bool → Book) (i : Bool) : full (bk i).wishes + full (bk !i).wishes = allW bk := by
  cases i
  · rfl
  · show full (bk true).wishes + full (bk false).wishes = full (bk false).wishes + full (bk true).wishes
    omega
theorem Phi_opens (h : Inv bk s) (i : Bool) : Phi (opens s i) ≤ Phi s + (6 + 2 * allW bk) := by
  rw [Phi_at s i, Phi_at (opens s i) i]
  have hx := h.e i
  have hy := h.e (!i)
  rw [Bool.not_not] at hy
  have e1 : (opens s i).e i = (opened (s.e i)).1 := put_self ..
  have e2 : (opens s i).e (!i) = s.e (!i) := put_other ..
  rw [e1, e2]
  show wts (s.air ++ [askL (opened (s.e i)).1]) + (2 * many (planOf (s.e i).wishes) + ((s.e !i).turn - (s.e i).yours).toNat * (2 * full (s.e i).wishes + 3) + (2 * many (s.e !i).plan + ((s.e i).turn + 1 - (s.e !i).yours).toNat * (2 * full (s.e !i).wishes + 3))) ≤
    wts s.air + (2 * many (s.e i).plan + ((s.e !i).turn - (s.e i).yours).toNat * (2 * full (s.e i).wishes + 3) + (2 * many (s.e !i).plan + ((s.e i).turn - (s.e !i).yours).toNat * (2 * full (s.e !i).wishes + 3))) + (6 + 2 * allW bk)
  rw [wts_append]
  have u := hy.u1
  have et : ((s.e i).turn + 1 - (s.e !i).yours).toNat = ((s.e i).turn - (s.e !i).yours).toNat + 1 := by omega
  rw [et, Nat.add_one_mul ((s.e i).turn - (s.e !i).yours).toNat, ← allW_at bk i, hx.wi, hy.wi]
  have ew : wts [askL (opened (s.e i)).1] = 3 := rfl
  have em : many (planOf (bk i).wishes) = full (bk i).wishes := rfl
  omega
theorem Phi_closes (s : WS) (i : Bool) : Phi (closes s i) ≤ Phi s + 1 := by
  have p := ph_shut (s.e i) (s.e !i) (Str.ofString "closed")
  rw [Phi_at s i]
  have q := Phi_put s i (closing (s.e i)) s.air rfl
  show Phi (put s i (closing (s.e i)) s.air) ≤ _
  rw [q]
  show wts s.air + (1 + 0) + (ph (shut (s.e i) (Str.ofString "closed")) (s.e !i) + ph (s.e !i) (s.e i)) ≤ _
  omega
theorem wts_erase (k : Nat) : ∀ a : List Letter, wts (a.eraseIdx k) ≤ wts a := by
  induction k with
  | zero =>
    intro a
    cases a with
    | nil => simp
    | cons x a =>
      show wts a ≤ wt x + wts a
      omega
  | succ k ih =>
    intro a
    cases a with
    | nil => simp
    | cons x a =>
      have := ih a
      show wt x + wts (a.eraseIdx k) ≤ wt x + wts a
      omega
theorem wt_le (l : Letter) : wt l ≤ 3 := by
  unfold wt
  split <;> omega
/-- what is known of a wire n deeds behind the two opens -/
structure Way (bk : Bool → Book) (n : Nat) (s : WS) : Prop where
  inv : Inv bk s
  tr : Tries3 s
  phi : Phi s ≤ 12 + 4 * allW bk + n * (7 + 2 * allW bk)
  len : s.air.length ≤ 2 + 2 * n
theorem Tries3.opens (h : Tries3 s) : Tries3 (opens s i) := by
  intro j hj
  rcases bool_cases i j with rfl | rfl
  · rw [show (Cw.opens s j).e j = (opened (s.e j)).1 from put_self ..]
    rfl
  · rw [show (Cw.opens s i).e (!i) = s.e (!i) from put_other ..] at hj ⊢
    exact h _ hj
theorem Tries3.closes (h : Tries3 s) : Tries3 (closes s i) := by
  intro j hj
  rcases bool_cases i j with rfl | rfl
  · rw [show (Cw.closes s j).e j = (closing (s.e j)).1 from put_self ..] at hj
    cases hj
  · rw [show (Cw.closes s i).e (!i) = s.e (!i) from put_other ..] at hj ⊢
    exact h _ hj
theorem learn_len (X : End) (l : Letter) : (learn X l).2.length ≤ 1 := by
  unfold learn
  split <;> simp
theorem word_len (X : End) (l : Letter) (b : Bounds) : (heardWord X l b).2.length ≤ 1 := by
  unfold heardWord heardAsk heardAnswer
  split
  · split
    · simp
    · split
      · simp
      · cases X.last <;> simp
  · simp
  · simp
  · simp
  · split
    · simp
    · split <;> simp
theorem heard_len (X : End) (l : Letter) (b : Bounds) : (heard X l b).2.length ≤ 2 := by
  by_cases hc : X.closed = true
  · rw [Cw.heard_closed hc]
    show (if l.yours = 0 ∨ l.yours ≠ X.turn ∨ l.word = .bye then [] else [backL X.name l]).length ≤ 2
    split <;> simp
  · have h1 := learn_len X l
    have h2 := word_len (learn X l).1 l b
    rcases heard_open (by simpa using hc) l b with ⟨_, e⟩ | ⟨_, e⟩
    · rw [e, List.length_append]
      omega
    · rw [e]
      omega
theorem start_closed (bk : Bool → Book) (i : Bool) : ((start bk).e i).closed = true := rfl
theorem opens_closed (i : Bool) : ((opens s i).e i).closed = false := by
  rw [show (opens s i).e i = (opened (s.e i)).1 from put_self ..]
  rfl
/-- behind the two opens -/
def two (bk : Bool → Book) (i : Bool) : WS := opens (opens (start bk) i) (!i)
theorem two_shut (bk : Bool → Book) (i : Bool) : ((opens (start bk) i).e (!i)).closed = true := by
  rw [show (opens (start bk) i).e (!i) = (start bk).e (!i) from put_other ..]
  rfl
theorem Way.two (hb : BkOk bk) (i : Bool) : Way bk 0 (two bk i) := by
  have h0 := Inv.start bk
  have h1 := h0.opens (i := i) hb (start_closed bk i)
  have h2 := h1.opens (i := !i) hb (two_shut bk i)
  have t0 : Tries3 (start bk) := fun j hj => by cases hj
  refine ⟨h2, t0.opens.opens, ?_, ?_⟩
  · have p1 := Phi_opens h0 i
    have p2 := Phi_opens h1 (!i)
    have p0 : Phi (start bk) = 0 := by
      unfold Phi ph
      show 0 + (2 * 0 + (0 - 0 : Int).toNat * _ + (2 * 0 + (0 - 0 : Int).toNat * _)) = 0
      simp
    show Phi (opens (opens (start bk) i) (!i)) ≤ _
    omega
  · show (([] ++ (opened ((start bk).e i)).2) ++ (opened ((opens (start bk) i).e (!i))).2).length ≤ 2
    exact Nat.le_refl _
theorem Way.comes (hb : BkOk bk) {n : Nat} (w : Way bk n s) (e : s.air = l :: r) : Way bk (n + 1) (comes bk s l r) := by
  refine ⟨w.inv.comes hb e, w.tr.comes, ?_, ?_⟩
  · have := Phi_comes hb w.inv e
    have := w.phi
    rw [Nat.add_one_mul n (7 + 2 * allW bk)]
    omega
  · have h1 := w.len
    rw [e] at h1
    have h2 := heard_len (s.e (!l.who)) l (bk (!l.who)).bounds
    show (r ++ (heard (s.e (!l.who)) l (bk (!l.who)).bounds).2).length ≤ _
    rw [List.length_append]
    simp only [List.length_cons] at h1
    omega
theorem Way.lost {n : Nat} (w : Way bk n s) (k : Nat) : Way bk (n + 1) ⟨s.e, s.air.eraseIdx k⟩ := by
  refine ⟨w.inv.fewer fun m hm => List.mem_of_mem_eraseIdx hm, w.tr, ?_, ?_⟩
  · have h1 := wts_erase k s.air
    have h2 := w.phi
    unfold Phi at h2 ⊢
    rw [Nat.add_one_mul n (7 + 2 * allW bk)]
    show wts (s.air.eraseIdx k) + (ph (s.e false) (s.e true) + ph (s.e true) (s.e false)) ≤ _
    omega
  · have h1 := w.len
    have h2 : (s.air.eraseIdx k).length ≤ s.air.length := List.length_eraseIdx_le ..
    show (s.air.eraseIdx k).length ≤ _
    omega
theorem Way.twice {n : Nat} (w : Way bk n s) (hm : l ∈ s.air) : Way bk (n + 1) ⟨s.e, s.air ++ [l]⟩ := by
  refine ⟨w.inv.fewer fun m hm' => ?_, w.tr, ?_, ?_⟩
  · rcases List.mem_append.mp hm' with h | h
    · exact h
    · rw [List.mem_singleton.mp h]
      exact hm
  · have h1 := wt_le l
    have h2 := w.phi
    unfold Phi at h2 ⊢
    rw [Nat.add_one_mul n (7 + 2 * allW bk)]
    show wts (s.air ++ [l]) + (ph (s.e false) (s.e true) + ph (s.e true) (s.e false)) ≤ _
    rw [wts_append]
    have : wts [l] = wt l := by show wt l + 0 = wt l; omega
    omega
  · have h1 := w.len
    show (s.air ++ [l]).length ≤ _
    rw [List.length_append]
    simp only [List.length_cons, List.length_nil]
    omega
/-- closed, if it isn't, and opened anew -/
def reopens (s : WS) (i : Bool) : WS := opens (if (s.e i).closed then s else closes s i) i
theorem Way.reopens (hb : BkOk bk) {n : Nat} (w : Way bk n s) (i : Bool) : Way bk (n + 1) (reopens s i) := by
  unfold Cw.reopens
  by_cases hc : (s.e i).closed = true
  · rw [if_pos hc]
    refine ⟨w.inv.opens hb hc, w.tr.opens, ?_, ?_⟩
    · have p1 := Phi_opens w.inv i
      have := w.phi
      rw [Nat.add_one_mul n (7 + 2 * allW bk)]
      omega
    · have h1 := w.len
      show (s.air ++ (opened (s.e i)).2).length ≤ _
      rw [List.length_append]
      show _ + 1 ≤ _
      omega
  · rw [if_neg hc]
    have hc' : (s.e i).closed = false := by simpa using hc
    have h1 := w.inv.closes hc'
    have hx : ((Cw.closes s i).e i).closed = true := by
      rw [show (Cw.closes s i).e i = (closing (s.e i)).1 from put_self ..]
      rfl
    refine ⟨h1.opens hb hx, w.tr.closes.opens, ?_, ?_⟩
    · have p1 := Phi_opens h1 i
      have p2 := Phi_closes s i
      have := w.phi
      rw [Nat.add_one_mul n (7 + 2 * allW bk)]
      omega
    · have h1 := w.len
      show ((s.air ++ (closing (s.e i)).2) ++ (opened ((Cw.closes s i).e i)).2).length ≤ _
      rw [List.length_append, List.length_append]
      show _ + 1 + 1 ≤ _
      omega

/-! ### plain ways -/
theorem two_at (i j : Bool) : (two bk i).e j = (opened ((start bk).e j)).1 := by
  rcases bool_cases i j with rfl | rfl
  · have := put_other (opens (start bk) j) (!j) (opened ((opens (start bk) j).e (!j))) (opens (start bk) j).air
    rw [Bool.not_not] at this
    show (put _ _ _ _).e j = _
    rw [this]
    exact put_self ..
  · show (put (opens (start bk) i) (!i) (opened ((opens (start bk) i).e (!i))) (opens (start bk) i).air).e (!i) = _
    rw [put_self]
    rw [show (opens (start bk) i).e (!i) = (start bk).e (!i) from put_other ..]
theorem two_air (i j : Bool) : ∃ m ∈ (two bk i).air, m = askL (opened ((start bk).e j)).1 := by
  rcases bool_cases i j with rfl | rfl
  · exact ⟨_, List.mem_append_left _ (List.mem_append_right _ (List.mem_singleton.mpr rfl)), rfl⟩
  · refine ⟨_, List.mem_append_right _ (List.mem_singleton.mpr rfl), ?_⟩
    rw [show (opens (start bk) i).e (!i) = (start bk).e (!i) from put_other ..]
    rfl
theorem Ob.two (i : Bool) : Ob (two bk i) := by
  intro j _ _
  constructor
  · obtain ⟨m, hm, e⟩ := two_air (bk := bk) i (!j)
    refine .inr ⟨m, hm, ?_, ?_⟩
    · rw [e] <;> rfl
    · rw [e, two_at] <;> rfl
  · intro k
    rw [two_at, two_at] at k
    exact absurd (show (0 : Int) = 1 from k) (by decide)
theorem Nc.two (i : Bool) : Nc (two bk i) := by
  refine ⟨fun j => ?_, fun j => ?_, fun m hm => ?_⟩
  · rw [two_at] <;> rfl
  · rw [two_at] <;> rfl
  · have hm' : m ∈ ([] ++ (opened ((start bk).e i)).2) ++ (opened ((opens (start bk) i).e (!i))).2 := hm
    rcases List.mem_append.mp hm' with hm | hm
    · have : m = askL (opened ((start bk).e i)).1 := by simpa [opened] using hm
      rw [this]
      exact fun z => by cases z
    · have : m = askL (opened ((opens (start bk) i).e (!i))).1 := by simpa [opened] using hm
      rw [this]
      exact fun z => by cases z
/-- what is known besides where only letters came -/
structure Plain (bk : Bool → Book) (s : WS) : Prop where
  ob : Ob s
  nc : Both bk → Nc s
theorem Plain.two (i : Bool) : Plain bk (two bk i) := ⟨Ob.two i, fun _ => Nc.two i⟩
theorem Plain.comes (hb : BkOk bk) (h : Inv bk s) (p : Plain bk s) (e : s.air = l :: r) : Plain bk (comes bk s l r) := ⟨p.ob.comes hb h e, fun hA => (p.nc hA).comes hb hA h e⟩

/-- THE LAW, of the mirror -/
theorem settled (hb : BkOk bk) (w : Way bk 7 s) : ∃ k n s', Settles bk k s n s' ∧ n ≤ 100 * (1 + allW bk) ∧ k ≤ 100 * (1 + allW bk) ∧ Inv bk s' ∧ final s' = true ∧ (Plain bk s → (openWith (s'.e false) (s'.e true) = true ↔ Both bk)) := by
  obtain ⟨k, n, s', g, g1, g2⟩ := settles hb w.inv w.tr
  have p := w.phi
  have hi := g.inv hb w.inv
  refine ⟨k, n, s', g, by omega, by omega, hi, g.final, fun pl => ⟨fun o i => ?_, fun hA => ?_⟩⟩
  · obtain ⟨c, _, _⟩ := (openWith_split o i)
    obtain ⟨z, hz, _⟩ := CTo.ex (ws := (bk i).wishes) (hb.b (!i)) _ (Nat.le_refl _) (p := planOf (bk i).wishes) (PlanOk.first (hb.w i)).fit
    obtain ⟨gv, _, _, _, _, _, hc⟩ := open_right hi o i
    rw [hc z hz] at hz
    exact ⟨gv, hz⟩
  · have nc := g.nc hb hA w.inv pl.ob (pl.nc hA)
    have f := g.final
    unfold Cw.final bothClosed at f
    rw [nc.op false] at f
    simp at f
    exact f.1
theorem Way.mono {n m : Nat} (h : n ≤ m) (w : Way bk n s) : Way bk m s :=
  ⟨w.inv, w.tr, Nat.le_trans w.phi (Nat.add_le_add_left (Nat.mul_le_mul_right _ h) _), by have := w.len; omega⟩
end
end Cw

/-! text Ds0 -/
/-! Code over data: names hold data, objects that change stand by their addresses. -/
namespace Ds
open PySem PySem.Spec PyProof.Rows L2

/-! ### data -/
/-- a tuple with no dict of its own -/
def SqP (K : PySem.W.Frag) (H : Hp) (a : Addr) (xs : List V) : Prop :=
  (∃ o, H a = some (.frz o (.tup xs)) ∧ o.dict = none) ∨ ∃ (o : Obj) (its : Array Value) (n : Nat), K.lookup a = some o ∧ o.cls = .type "tuple" ∧ o.dict = none ∧ o.data = .seq its n ∧ its.size ≤ sizeLine ∧ Vals xs its.toList
theorem SqP.of {K : PySem.W.Frag} {H : Hp} {a : Addr} {xs : List V} {o : Obj} (h : H a = some (.frz o (.tup xs))) (hd : o.dict = none) : SqP K H a xs := .inl ⟨o, h, hd⟩
theorem SqP.sq {K : PySem.W.Frag} {H : Hp} {a : Addr} {xs : List V} (h : SqP K H a xs) : SqT K H a xs := by
  rcases h with ⟨o, h, _⟩ | ⟨o, its, n, h1, h2, _, h3⟩
  · exact .inl (.inr ⟨o, h⟩)
  · exact .inr ⟨o, its, n, h1, h2, h3⟩
mutual
/-- a value is a datum of tuples alone -/
inductive Td (K : PySem.W.Frag) (H : Hp) : V → PyData → Prop
  | non : Td K H .non .none
  | bl (b : Bool) : Td K H (.bl b) (.bool b)
  | int (i : Int) : Td K H (.int i) (.int i)
  | str (x : Str) : Td K H (.str x) (.str x)
  | tup {a : Addr} {xs : List V} {ds : List PyData} : SqP K H a xs → Tds K H xs ds → Td K H (.ref a) (.tuple ds)
inductive Tds (K : PySem.W.Frag) (H : Hp) : List V → List PyData → Prop
  | nil : Tds K H [] []
  | cons {v : V} {vs : List V} {d : PyData} {ds : List PyData} : Td K H v d → Tds K H vs ds → Tds K H (v :: vs) (d :: ds)
end
/-- what a name holds: a datum, a value as it is, a tuple of such -/
inductive Rv where
  | d (x : PyData)
  | r (v : V)
  | t (xs : List Rv)
  | z (xs : List Rv)
mutual
inductive Rk (K : PySem.W.Frag) (H : Hp) : V → Rv → Prop
  | d {v : V} {x : PyData} : Td K H v x → Rk K H v (.d x)
  | r (v : V) : Rk K H v (.r v)
  | t {a : Addr} {vs : List V} {xs : List Rv} : SqP K H a vs → Rks K H vs xs → Rk K H (.ref a) (.t xs)
  | z {a : Addr} {vs : List V} {xs : List Rv} : SqT K H a vs → Rks K H vs xs → Rk K H (.ref a) (.z xs)
inductive Rks (K : PySem.W.Frag) (H : Hp) : List V → List Rv → Prop
  | nil : Rks K H [] []
  | cons {v : V} {vs : List V} {x : Rv} {xs : List Rv} : Rk K H v x → Rks K H vs xs → Rks K H (v :: vs) (x :: xs)
end
/-- what never changes stays -/
def Imm : HO → Prop
  | .tup _ => True
  | .frz _ _ => True
  | _ => False
def TK (H H' : Hp) : Prop := ∀ a o, H a = some o → Imm o → H' a = some o
theorem TK.refl (H : Hp) : TK H H := fun _ _ h _ => h
theorem TK.trans {H H1 H2 : Hp} (a : TK H H1) (b : TK H1 H2) : TK H H2 := fun x o h i => b x o (a x o h i) i
theorem TK.rd {H H' : Hp} (k : TK H H') {a : Addr} {xs : List V} (h : Rd H a (.tup xs)) : Rd H' a (.tup xs) := by
  rcases h with h | ⟨o, h⟩
  · exact .inl (k _ _ h trivial)
  · exact .inr ⟨o, k _ _ h trivial⟩
theorem TK.sq {K : PySem.W.Frag} {H H' : Hp} (k : TK H H') {a : Addr} {xs : List V} (h : SqT K H a xs) : SqT K H' a xs := by
  rcases h with h | h
  · exact .inl (k.rd h)
  · exact .inr h
theorem TK.sqp {K : PySem.W.Frag} {H H' : Hp} (k : TK H H') {a : Addr} {xs : List V} (h : SqP K H a xs) : SqP K H' a xs := by
  rcases h with ⟨o, h, d⟩ | h
  · exact .inl ⟨o, k _ _ h trivial, d⟩
  · exact .inr h
section
variable {K : PySem.W.Frag} {H H' : Hp}
mutual
theorem Td.keep (k : TK H H') : ∀ {v : V} {d : PyData}, Td K H v d → Td K H' v d
  | _, _, .non => .non
  | _, _, .bl b => .bl b
  | _, _, .int i => .int i
  | _, _, .str x => .str x
  | _, _, .tup h t => .tup (k.sqp h) (Tds.keep k t)
theorem Tds.keep (k : TK H H') : ∀ {vs : List V} {ds : List PyData}, Tds K H vs ds → Tds K H' vs ds
  | _, _, .nil => .nil
  | _, _, .cons h t => .cons (Td.keep k h) (Tds.keep k t)
end
mutual
theorem Rk.keep (k : TK H H') : ∀ {v : V} {x : Rv}, Rk K H v x → Rk K H' v x
  | _, _, .d h => .d (h.keep k)
  | _, _, .r v => .r v
  | _, _, .t h t => .t (k.sqp h) (Rks.keep k t)
  | _, _, .z h t => .z (k.sq h) (Rks.keep k t)
theorem Rks.keep (k : TK H H') : ∀ {vs : List V} {xs : List Rv}, Rks K H vs xs → Rks K H' vs xs
  | _, _, .nil => .nil
  | _, _, .cons h t => .cons (Rk.keep k h) (Rks.keep k t)
end
mutual
theorem Td.dp : ∀ {v : V} {d : PyData}, Td K H v d → Dp K H v d
  | _, _, .non => .non
  | _, _, .bl b => .bl b
  | _, _, .int i => .int i
  | _, _, .str x => .str x
  | _, _, .tup h t => .tup h.sq (Tds.dp t)
theorem Tds.dp : ∀ {vs : List V} {ds : List PyData}, Tds K H vs ds → DpAll K H vs ds
  | _, _, .nil => .nil
  | _, _, .cons h t => .cons (Td.dp h) (Tds.dp t)
end
theorem Rks.length : ∀ {vs : List V} {xs : List Rv}, Rks K H vs xs → vs.length = xs.length
  | _, _, .nil => rfl
  | _, _, .cons _ t => congrArg (· + 1) t.length
theorem Tds.length : ∀ {vs : List V} {xs : List PyData}, Tds K H vs xs → vs.length = xs.length
  | _, _, .nil => rfl
  | _, _, .cons _ t => congrArg (· + 1) t.length
theorem Rks.get : ∀ {vs : List V} {xs : List Rv} {i : Nat} {x : Rv}, Rks K H vs xs → xs[i]? = some x → ∃ v, vs[i]? = some v ∧ Rk K H v x
  | _, _, _, _, .nil, e => by simp at e
  | _, _, 0, _, .cons h _, e => by simp at e; subst e; exact ⟨_, rfl, h⟩
  | _, _, i + 1, x, .cons _ t, e => by
    obtain ⟨v, h1, h2⟩ := Rks.get (i := i) (x := x) t (by simpa using e)
    exact ⟨v, by simpa using h1, h2⟩
theorem Rks.get' : ∀ {vs : List V} {xs : List Rv} {i : Nat} {v : V}, Rks K H vs xs → vs[i]? = some v → ∃ x, xs[i]? = some x ∧ Rk K H v x
  | _, _, _, _, .nil, e => by simp at e
  | _, _, 0, _, .cons h _, e => by simp at e; subst e; exact ⟨_, rfl, h⟩
  | _, _, i + 1, v, .cons _ t, e => by
    obtain ⟨x, h1, h2⟩ := Rks.get' (i := i) (v := v) t (by simpa using e)
    exact ⟨x, by simpa using h1, h2⟩
theorem Tds.get : ∀ {vs : List V} {xs : List PyData} {i : Nat} {x : PyData}, Tds K H vs xs → xs[i]? = some x → ∃ v, vs[i]? = some v ∧ Td K H v x
  | _, _, _, _, .nil, e => by simp at e
  | _, _, 0, _, .cons h _, e => by simp at e; subst e; exact ⟨_, rfl, h⟩
  | _, _, i + 1, x, .cons _ t, e => by
    obtain ⟨v, h1, h2⟩ := Tds.get (i := i) (x := x) t (by simpa using e)
    exact ⟨v, by simpa using h1, h2⟩
theorem Tds.get' : ∀ {vs : List V} {xs : List PyData} {i : Nat} {v : V}, Tds K H vs xs → vs[i]? = some v → ∃ x, xs[i]? = some x ∧ Td K H v x
  | _, _, _, _, .nil, e => by simp at e
  | _, _, 0, _, .cons h _, e => by simp at e; subst e; exact ⟨_, rfl, h⟩
  | _, _, i + 1, v, .cons _ t, e => by
    obtain ⟨x, h1, h2⟩ := Tds.get' (i := i) (v := v) t (by simpa using e)
    exact ⟨x, by simpa using h1, h2⟩
theorem Rks.append : ∀ {vs ws : List V} {xs ys : List Rv}, Rks K H vs xs → Rks K H ws ys → Rks K H (vs ++ ws) (xs ++ ys)
  | _, _, _, _, .nil, s => s
  | _, _, _, _, .cons h t, s => .cons h (t.append s)
theorem Tds.append : ∀ {vs ws : List V} {xs ys : List PyData}, Tds K H vs xs → Tds K H ws ys → Tds K H (vs ++ ws) (xs ++ ys)
  | _, _, _, _, .nil, s => s
  | _, _, _, _, .cons h t, s => .cons h (t.append s)
theorem Rks.take : ∀ (n : Nat) {vs : List V} {xs : List Rv}, Rks K H vs xs → Rks K H (vs.take n) (xs.take n)
  | 0, _, _, _ => .nil
  | _ + 1, _, _, .nil => .nil
  | n + 1, _, _, .cons h t => .cons h (Rks.take n t)
theorem Rks.drop : ∀ (n : Nat) {vs : List V} {xs : List Rv}, Rks K H vs xs → Rks K H (vs.drop n) (xs.drop n)
  | 0, _, _, h => h
  | _ + 1, _, _, .nil => .nil
  | n + 1, _, _, .cons _ t => Rks.drop n t
theorem Rks.set {v : V} {x : Rv} (h : Rk K H v x) : ∀ (i : Nat) {vs : List V} {xs : List Rv}, Rks K H vs xs → Rks K H (vs.set i v) (xs.set i x)
  | _, _, _, .nil => .nil
  | 0, _, _, .cons _ t => .cons h t
  | i + 1, _, _, .cons q t => .cons q (Rks.set h i t)
theorem Rks.erase : ∀ (i : Nat) {vs : List V} {xs : List Rv}, Rks K H vs xs → Rks K H (vs.eraseIdx i) (xs.eraseIdx i)
  | _, _, _, .nil => .nil
  | 0, _, _, .cons _ t => t
  | i + 1, _, _, .cons q t => .cons q (Rks.erase i t)
/-- data among what names hold -/
theorem Tds.rks : ∀ {vs : List V} {ds : List PyData}, Tds K H vs ds → Rks K H vs (ds.map Rv.d)
  | _, _, .nil => .nil
  | _, _, .cons h t => .cons (.d h) t.rks
theorem Rks.tds : ∀ {vs : List V} {ds : List PyData}, Rks K H vs (ds.map Rv.d) → Tds K H vs ds
  | _, [], h => by cases h; exact .nil
  | _, d :: ds, h => by
    cases h with
    | cons h t =>
      cases h with
      | d h => exact .cons h t.tds
theorem Rk.tup {v : V} {ds : List PyData} : Rk K H v (.d (.tuple ds)) ↔ Rk K H v (.t (ds.map Rv.d)) := by
  constructor
  · intro h
    cases h with
    | d h => cases h with
      | tup h t => exact .t h t.rks
  · intro h
    cases h with
    | t h t => exact .d (.tup h t.tds)
end

/-! ### objects that change -/
inductive Ob where
  | lst (xs : List Rv)
  | dic (kvs : List (Str × Rv))
  | ins (C : Addr) (fs : List (Str × Rv))
abbrev Mu := List (Addr × Ob)
def ObIs (K : PySem.W.Frag) (H : Hp) (a : Addr) : Ob → Prop
  | .lst xs => ∃ vs, H a = some (.lst vs) ∧ Rks K H vs xs
  | .dic kvs => ∃ kv : List (Key × V), H a = some (.dK kv) ∧ kv.map (·.1) = kvs.map (fun p => Sum.inr p.1) ∧ Rks K H (kv.map (·.2)) (kvs.map (·.2))
  | .ins C fs => ∃ (dx : Addr) (fv : List (Str × V)), H a = some (.ins C dx fv) ∧ fv.map (·.1) = fs.map (·.1) ∧ Rks K H (fv.map (·.2)) (fs.map (·.2))
def Ow (K : PySem.W.Frag) (H : Hp) (μ : Mu) : Prop := ∀ q ∈ μ, ObIs K H q.1 q.2
/-- where a def began: the heap, the objects that it may change -/
structure Fm where
  H0 : Hp
  M : List Addr
structure Fk (F : Fm) (H : Hp) (μ : Mu) : Prop where
  nd : (μ.map (·.1)).Nodup
  kp : ∀ a o, F.H0 a = some o → a ∉ F.M → H a = some o
  nw : ∀ q ∈ μ, q.1 ∈ F.M ∨ F.H0 q.1 = none
/-- what the names hold -/
abbrev De := List (Option Rv)
structure Lo (K : PySem.W.Frag) (H : Hp) (σ : L2.St) (δ : De) : Prop where
  len : σ.length = δ.length
  at_ : ∀ (i : Nat) (r : Rv), δ[i]? = some (some r) → ∃ v, σ[i]? = some (some v) ∧ Rk K H v r

section
variable {K : PySem.W.Frag} {H H' : Hp} {σ : L2.St} {δ : De} {μ : Mu} {F : Fm} {a : Addr}
theorem Lo.keep (h : Lo K H σ δ) (k : TK H H') : Lo K H' σ δ := ⟨h.len, fun i r e => let ⟨v, e1, h1⟩ := h.at_ i r e; ⟨v, e1, h1.keep k⟩⟩
theorem Lo.set (h : Lo K H σ δ) {v : V} {r : Rv} (hr : Rk K H v r) (i : Nat) : Lo K H (σ.set i (some v)) (δ.set i (some r)) := by
  refine ⟨by rw [List.length_set, List.length_set, h.len], fun j r' e => ?_⟩
  by_cases hj : i = j
  · subst hj
    by_cases hl : i < δ.length
    · rw [List.getElem?_set_self hl] at e
      cases e
      exact ⟨v, List.getElem?_set_self (by rw [h.len]; exact hl), hr⟩
    · rw [List.getElem?_eq_none (by simpa using hl)] at e
      cases e
  · rw [List.getElem?_set_ne hj] at e ⊢
    exact h.at_ j r' e
/-- names forgotten -/
theorem Lo.less (h : Lo K H σ δ) {σ' : L2.St} (hl : σ'.length = σ.length) (w : ∀ (i : Nat) (r : Rv), δ[i]? = some (some r) → σ'[i]? = σ[i]?) : Lo K H σ' δ :=
  ⟨hl.trans h.len, fun i r e => by rw [w i r e]; exact h.at_ i r e⟩
theorem ObIs.keep {o : Ob} (h : ObIs K H a o) (k : TK H H') (e : ∀ u, H a = some u → H' a = some u) : ObIs K H' a o := by
  cases o with
  | lst xs => obtain ⟨vs, h1, h2⟩ := h; exact ⟨vs, e _ h1, h2.keep k⟩
  | dic kvs => obtain ⟨kv, h1, h2, h3⟩ := h; exact ⟨kv, e _ h1, h2, h3.keep k⟩
  | ins C fs => obtain ⟨dx, fv, h1, h2, h3⟩ := h; exact ⟨dx, fv, e _ h1, h2, h3.keep k⟩
theorem ObIs.there {o : Ob} (h : ObIs K H a o) : ∃ u, H a = some u ∧ ¬ Imm u := by
  cases o with
  | lst xs => obtain ⟨vs, h1, _⟩ := h; exact ⟨_, h1, fun z => z⟩
  | dic kvs => obtain ⟨kv, h1, _⟩ := h; exact ⟨_, h1, fun z => z⟩
  | ins C fs => obtain ⟨dx, fv, h1, _⟩ := h; exact ⟨_, h1, fun z => z⟩
theorem Fk.start (nd : (μ.map (·.1)).Nodup) : Fk ⟨H, μ.map (·.1)⟩ H μ := ⟨nd, fun _ _ e _ => e, fun q hq => .inl (List.mem_map.mpr ⟨q, hq, rfl⟩)⟩
/-- a new object that doesn't concern us -/
theorem TK.new (h : H a = none) (o : HO) : TK H (upd H a o) := fun b u e _ => by rw [upd_ne (ne_of_none e h)]; exact e
theorem Ow.new (w : Ow K H μ) (h : H a = none) (o : HO) : Ow K (upd H a o) μ := fun q hq =>
  (w q hq).keep (TK.new h o) fun u e => by rw [upd_ne (ne_of_none e h)]; exact e
theorem Fk.new (f : Fk F H μ) (h : H a = none) (o : HO) : Fk F (upd H a o) μ := ⟨f.nd, fun b u e n => by rw [upd_ne (ne_of_none (f.kp b u e n) h)]; exact f.kp b u e n, f.nw⟩
/-- .. that does -/
theorem Ow.more (w : Ow K H μ) {o : Ob} (h : ObIs K H a o) : Ow K H ((a, o) :: μ) := fun q hq => by
  rcases List.mem_cons.mp hq with rfl | hq
  · exact h
  · exact w q hq
theorem Fk.more (f : Fk F H μ) (w : Ow K H μ) (h : H a = none) {o : HO} {ob : Ob} : Fk F (upd H a o) ((a, ob) :: μ) := by
  have hn : a ∉ μ.map (·.1) := fun z => by
    obtain ⟨q, hq, e⟩ := List.mem_map.mp z
    obtain ⟨u, h1, _⟩ := (w q hq).there
    rw [e, h] at h1
    cases h1
  refine ⟨List.nodup_cons.mpr ⟨hn, f.nd⟩, (f.new h o).kp, fun q hq => ?_⟩
  rcases List.mem_cons.mp hq with rfl | hq
  · by_cases hm : a ∈ F.M
    · exact .inl hm
    · refine .inr ?_
      show F.H0 a = none
      cases e : F.H0 a with
      | none => rfl
      | some u =>
        rw [f.kp a u e hm] at h
        cases h
  · exact f.nw q hq
end
end Ds

/-! text Ds1 -/
/-! Code over data: the judgements, names, constants, displays, tests, statements. -/
namespace Ds
open PySem PySem.Spec PyProof.Rows L2

/-! ### the greatest readings -/
def WE (X : Cx) (e : Expr) : TE := fun σ H Q => ∀ (pins : List (Addr × Obj)) (s : Shared), Inv X pins σ H s → wpAny (model X.prog X.w) X.A (eval e X.env) (EP X pins σ Q) X.xe s
def WT (X : Cx) (e : Expr) : TT := fun σ H Q => ∀ (pins : List (Addr × Obj)) (s : Shared), Inv X pins σ H s → wpAny (model X.prog X.w) X.A (isTrue e X.env (eval e X.env)) (TP X pins σ Q) X.xe s
def WW (X : Cx) (e : Expr) : TT := fun σ H Q => ∀ (whole : Sem Value) (pins : List (Addr × Obj)) (s : Shared), Inv X pins σ H s → wpAny (model X.prog X.w) X.A (isTrue e X.env whole) (TP X pins σ Q) X.xe s
def WA (X : Cx) (es : List Expr) : TA := fun σ H Q => ∀ (pos : Pos) (pins : List (Addr × Obj)) (s : Shared), Inv X pins σ H s → wpAny (model X.prog X.w) X.A (spliced (backTo pos (starEach es X.env))) (AP X pins σ Q) X.xe s
def WS (X : Cx) (st : Stmt) : TS := fun D σ H => ∀ (pins : List (Addr × Obj)) (s : Shared), Inv X pins σ H s → wpAny (model X.prog X.w) X.A (exec st X.env) (SP X pins D) X.xe s
def WSs (X : Cx) (st : List Stmt) : TS := fun D σ H => ∀ (pins : List (Addr × Obj)) (s : Shared), Inv X pins σ H s → wpAny (model X.prog X.w) X.A (execs st X.env) (SP X pins D) X.xe s
def WG (X : Cx) (tg : Expr) : TG := fun v σ H Q => ∀ (pins : List (Addr × Obj)) (s : Shared) (u : Value), Inv X pins σ H s → RelV v u → wpAny (model X.prog X.w) X.A (assign tg X.env u) (fun _ s' => ∃ σ' H', Inv X pins σ' H' s' ∧ Q σ' H') X.xe s
section
variable {X : Cx} {e : Expr} {es : List Expr} {st : Stmt} {sts : List Stmt} {σ : L2.St} {H : Hp}
theorem pe_w : PE X e (WE X e) := ⟨fun pins s _ _ _ I h => h pins s I⟩
theorem pt_w : PT X e (WT X e) := ⟨fun pins s _ _ _ I h => h pins s I⟩
theorem pw_w : PW X e (WW X e) := ⟨fun wh pins s _ _ _ I h => h wh pins s I⟩
theorem pa_w : PA X es (WA X es) := ⟨fun pos pins s _ _ _ I h => h pos pins s I⟩
theorem ps_w : PS X st (WS X st) := ⟨fun pins s _ _ _ I h => h pins s I⟩
theorem pss_w : PSs X sts (WSs X sts) := ⟨fun pins s _ _ _ I h => h pins s I⟩
theorem pg_w : PG X e (WG X e) := ⟨fun pins s _ _ _ u _ I r h => h pins s u I r⟩
theorem we_of {t : TE} (h : PE X e t) {Q : VK} (q : t σ H Q) : WE X e σ H Q := fun pins s I => h.run pins s σ H Q I q
theorem wt_of {t : TT} (h : PT X e t) {Q : Bool → Hp → Prop} (q : t σ H Q) : WT X e σ H Q := fun pins s I => h.run pins s σ H Q I q
theorem ww_of {t : TT} (h : PW X e t) {Q : Bool → Hp → Prop} (q : t σ H Q) : WW X e σ H Q := fun wh pins s I => h.run wh pins s σ H Q I q
theorem wa_of {t : TA} (h : PA X es t) {Q : List V → Hp → Prop} (q : t σ H Q) : WA X es σ H Q := fun pos pins s I => h.run pos pins s σ H Q I q
theorem ws_of {t : TS} (h : PS X st t) {D : Ends} (q : t D σ H) : WS X st D σ H := fun pins s I => h.run pins s σ H D I q
theorem wss_of {t : TS} (h : PSs X sts t) {D : Ends} (q : t D σ H) : WSs X sts D σ H := fun pins s I => h.run pins s σ H D I q
theorem wg_of {t : TG} (h : PG X e t) {v : V} {Q : L2.St → Hp → Prop} (q : t v σ H Q) : WG X e v σ H Q := fun pins s u I r => h.run pins s σ H v u Q I r q
theorem we_mono {Q Q' : VK} (h : WE X e σ H Q) (k : ∀ v H', Q v H' → Q' v H') : WE X e σ H Q' := fun pins s I => thn (h pins s I) fun u s' ⟨v, H', I', r, q⟩ => ⟨v, H', I', r, k v H' q⟩
theorem wt_mono {Q Q' : Bool → Hp → Prop} (h : WT X e σ H Q) (k : ∀ v H', Q v H' → Q' v H') : WT X e σ H Q' := fun pins s I => thn (h pins s I) fun b s' ⟨H', I', q⟩ => ⟨H', I', k b H' q⟩
theorem ww_mono {Q Q' : Bool → Hp → Prop} (h : WW X e σ H Q) (k : ∀ v H', Q v H' → Q' v H') : WW X e σ H Q' := fun wh pins s I => thn (h wh pins s I) fun b s' ⟨H', I', q⟩ => ⟨H', I', k b H' q⟩
theorem wa_mono {Q Q' : List V → Hp → Prop} (h : WA X es σ H Q) (k : ∀ v H', Q v H' → Q' v H') : WA X es σ H Q' := fun pos pins s I => thn (h pos pins s I) fun us s' ⟨vs, H', I', r, q⟩ => ⟨vs, H', I', r, k vs H' q⟩
theorem wg_mono {v : V} {Q Q' : L2.St → Hp → Prop} (h : WG X e v σ H Q) (k : ∀ σ' H', Q σ' H' → Q' σ' H') : WG X e v σ H Q' := fun pins s u I r => thn (h pins s u I r) fun _ s' ⟨σ', H', I', q⟩ => ⟨σ', H', I', k σ' H' q⟩
end

/-! ### over data -/
def Pe (K : PySem.W.Frag) (F : Fm) (H : Hp) (Q : Rv → Mu → Prop) : VK := fun v H' => TK H H' ∧ ∃ r μ', Rk K H' v r ∧ Ow K H' μ' ∧ Fk F H' μ' ∧ Q r μ'
def Pt (K : PySem.W.Frag) (F : Fm) (H : Hp) (Q : Bool → Mu → Prop) : Bool → Hp → Prop := fun b H' => TK H H' ∧ ∃ μ', Ow K H' μ' ∧ Fk F H' μ' ∧ Q b μ'
def Pa (K : PySem.W.Frag) (F : Fm) (H : Hp) (Q : List Rv → Mu → Prop) : List V → Hp → Prop := fun vs H' => TK H H' ∧ ∃ rs μ', Rks K H' vs rs ∧ Ow K H' μ' ∧ Fk F H' μ' ∧ Q rs μ'
/-- e in names δ and objects μ: Q of what it gives and the objects behind it -/
def XE (X : Cx) (F : Fm) (δ : De) (μ : Mu) (e : Expr) (Q : Rv → Mu → Prop) : Prop := ∀ σ H, Lo X.K H σ δ → Ow X.K H μ → Fk F H μ → WE X e σ H (Pe X.K F H Q)
def XT (X : Cx) (F : Fm) (δ : De) (μ : Mu) (e : Expr) (Q : Bool → Mu → Prop) : Prop := ∀ σ H, Lo X.K H σ δ → Ow X.K H μ → Fk F H μ → WT X e σ H (Pt X.K F H Q)
def XW (X : Cx) (F : Fm) (δ : De) (μ : Mu) (e : Expr) (Q : Bool → Mu → Prop) : Prop := ∀ σ H, Lo X.K H σ δ → Ow X.K H μ → Fk F H μ → WW X e σ H (Pt X.K F H Q)
def XA (X : Cx) (F : Fm) (δ : De) (μ : Mu) (es : List Expr) (Q : List Rv → Mu → Prop) : Prop := ∀ σ H, Lo X.K H σ δ → Ow X.K H μ → Fk F H μ → WA X es σ H (Pa X.K F H Q)
structure Dn where
  nx : De → Mu → Prop
  rt : Rv → Mu → Prop
  bk : De → Mu → Prop := fun _ _ => False
  ct : De → Mu → Prop := fun _ _ => False
def En (K : PySem.W.Frag) (F : Fm) (H : Hp) (N : De → Mu → Prop) : L2.St → Hp → Prop := fun σ' H' => TK H H' ∧ ∃ δ' μ', Lo K H' σ' δ' ∧ Ow K H' μ' ∧ Fk F H' μ' ∧ N δ' μ'
def Er (K : PySem.W.Frag) (F : Fm) (R : Rv → Mu → Prop) : VK := fun v H' => ∃ r μ', Rk K H' v r ∧ Ow K H' μ' ∧ Fk F H' μ' ∧ R r μ'
def Dn.ends (D : Dn) (K : PySem.W.Frag) (F : Fm) (H : Hp) : Ends := { nx := En K F H D.nx, rt := Er K F D.rt, bk := En K F H D.bk, ct := En K F H D.ct }
theorem sp_mono {X : Cx} {pins : List (Addr × Obj)} {D D' : Ends} {f : Flow} {s' : Shared} (h : SP X pins D f s') (k1 : ∀ σ H, D.nx σ H → D'.nx σ H) (k2 : ∀ v H, D.rt v H → D'.rt v H) (k3 : ∀ σ H, D.bk σ H → D'.bk σ H) (k4 : ∀ σ H, D.ct σ H → D'.ct σ H) : SP X pins D' f s' := by
  cases f with
  | next => obtain ⟨σ', H', I', q⟩ := h; exact ⟨σ', H', I', k1 _ _ q⟩
  | ret u => obtain ⟨v, σ', H', I', r, q⟩ := h; exact ⟨v, σ', H', I', r, k2 _ _ q⟩
  | brk => obtain ⟨σ', H', I', q⟩ := h; exact ⟨σ', H', I', k3 _ _ q⟩
  | cont => obtain ⟨σ', H', I', q⟩ := h; exact ⟨σ', H', I', k4 _ _ q⟩
theorem En.back {K : PySem.W.Frag} {F : Fm} {H H1 : Hp} (t : TK H H1) (N : De → Mu → Prop) : ∀ σ' H', En K F H1 N σ' H' → En K F H N σ' H' := fun _ _ ⟨t2, q⟩ => ⟨t.trans t2, q⟩
theorem ws_back {X : Cx} {F : Fm} {st : Stmt} {σ : L2.St} {H H1 : Hp} {D : Dn} (t : TK H H1) (h : WS X st (D.ends X.K F H1) σ H1) : WS X st (D.ends X.K F H) σ H1 := fun pins s I => thn (h pins s I) fun f s' z => sp_mono z (En.back t _) (fun _ _ q => q) (En.back t _) (En.back t _)
theorem wss_back {X : Cx} {F : Fm} {st : List Stmt} {σ : L2.St} {H H1 : Hp} {D : Dn} (t : TK H H1) (h : WSs X st (D.ends X.K F H1) σ H1) : WSs X st (D.ends X.K F H) σ H1 := fun pins s I => thn (h pins s I) fun f s' z => sp_mono z (En.back t _) (fun _ _ q => q) (En.back t _) (En.back t _)
def XS (X : Cx) (F : Fm) (δ : De) (μ : Mu) (st : Stmt) (D : Dn) : Prop := ∀ σ H, Lo X.K H σ δ → Ow X.K H μ → Fk F H μ → WS X st (D.ends X.K F H) σ H
def XSs (X : Cx) (F : Fm) (δ : De) (μ : Mu) (st : List Stmt) (D : Dn) : Prop := ∀ σ H, Lo X.K H σ δ → Ow X.K H μ → Fk F H μ → WSs X st (D.ends X.K F H) σ H
/-- a target takes r; js: the slots that may change -/
def XG (X : Cx) (F : Fm) (δ : De) (μ : Mu) (tg : Expr) (r : Rv) (js : List Nat) (Q : De → Mu → Prop) : Prop := ∀ σ H v, Lo X.K H σ δ → Ow X.K H μ → Fk F H μ → Rk X.K H v r →
  WG X tg v σ H fun σ' H' => σ'.length = σ.length ∧ (∀ k, k ∉ js → σ'[k]? = σ[k]?) ∧ En X.K F H Q σ' H'

section
variable {X : Cx} {F : Fm} {δ : De} {μ : Mu} {e a b c : Expr} {es : List Expr} {pos : Pos} {Q : Rv → Mu → Prop}
theorem XE.run {Q' : VK} {σ : L2.St} {H : Hp} (h : XE X F δ μ e Q) (lo : Lo X.K H σ δ) (ow : Ow X.K H μ) (fk : Fk F H μ) (k : ∀ v H' r μ', TK H H' → Lo X.K H' σ δ → Rk X.K H' v r → Ow X.K H' μ' → Fk F H' μ' → Q r μ' → Q' v H') : WE X e σ H Q' :=
  we_mono (h σ H lo ow fk) fun v H' ⟨t, r, μ', h1, h2, h3, h4⟩ => k v H' r μ' t (lo.keep t) h1 h2 h3 h4
theorem XT.run {Q : Bool → Mu → Prop} {Q' : Bool → Hp → Prop} {σ : L2.St} {H : Hp} (h : XT X F δ μ e Q) (lo : Lo X.K H σ δ) (ow : Ow X.K H μ) (fk : Fk F H μ) (k : ∀ v H' μ', TK H H' → Lo X.K H' σ δ → Ow X.K H' μ' → Fk F H' μ' → Q v μ' → Q' v H') : WT X e σ H Q' :=
  wt_mono (h σ H lo ow fk) fun v H' ⟨t, μ', h2, h3, h4⟩ => k v H' μ' t (lo.keep t) h2 h3 h4
theorem XW.run {Q : Bool → Mu → Prop} {Q' : Bool → Hp → Prop} {σ : L2.St} {H : Hp} (h : XW X F δ μ e Q) (lo : Lo X.K H σ δ) (ow : Ow X.K H μ) (fk : Fk F H μ) (k : ∀ v H' μ', TK H H' → Lo X.K H' σ δ → Ow X.K H' μ' → Fk F H' μ' → Q v μ' → Q' v H') : WW X e σ H Q' :=
  ww_mono (h σ H lo ow fk) fun v H' ⟨t, μ', h2, h3, h4⟩ => k v H' μ' t (lo.keep t) h2 h3 h4
theorem XA.run {Q : List Rv → Mu → Prop} {Q' : List V → Hp → Prop} {σ : L2.St} {H : Hp} (h : XA X F δ μ es Q) (lo : Lo X.K H σ δ) (ow : Ow X.K H μ) (fk : Fk F H μ) (k : ∀ v H' r μ', TK H H' → Lo X.K H' σ δ → Rks X.K H' v r → Ow X.K H' μ' → Fk F H' μ' → Q r μ' → Q' v H') : WA X es σ H Q' :=
  wa_mono (h σ H lo ow fk) fun v H' ⟨t, r, μ', h1, h2, h3, h4⟩ => k v H' r μ' t (lo.keep t) h1 h2 h3 h4
theorem XE.mono {Q' : Rv → Mu → Prop} (h : XE X F δ μ e Q) (k : ∀ r μ', Q r μ' → Q' r μ') : XE X F δ μ e Q' := fun σ H lo ow fk => h.run lo ow fk fun v H' r μ' t _ h1 h2 h3 h4 => ⟨t, r, μ', h1, h2, h3, k r μ' h4⟩
/-- a tuple of data is a datum -/
theorem XE.data {Q' : Rv → Mu → Prop} (h : XE X F δ μ e fun r μ' => ∃ ds : List PyData, r = .t (ds.map Rv.d) ∧ Q' (.d (.tuple ds)) μ') : XE X F δ μ e Q' := fun σ H lo ow fk => h.run lo ow fk fun v H' r μ' t _ h1 h2 h3 ⟨ds, h4, h5⟩ => by
  subst h4
  exact ⟨t, _, μ', Rk.tup.mpr h1, h2, h3, h5⟩

/-! ### names, constants -/
theorem xe_name {i : Nat} {x : Str} {r : Rv} (hd : δ[i]? = some (some r)) (q : Q r μ) (hN : X.N[i]? = some x := by rfl) (hv : Vis X.env.scope x := by first | exact Or.inl rfl | exact Or.inr (Or.inl rfl) | exact Or.inr (Or.inr rfl))
    (h1 : (x == ("__debug__" : Str)) = false := by decide) (h2 : (x == ("__classdict__" : Str)) = false := by decide) : XE X F δ μ (.Name x pos) Q := fun σ H lo ow fk => by
  obtain ⟨v, e1, r1⟩ := lo.at_ i r hd
  exact we_of (pe_var hN hv h1 h2) ⟨v, e1, TK.refl H, r, μ, r1, ow, fk, q⟩
theorem xe_int {i j} (q : Q (.d (.int i)) μ) : XE X F δ μ (.Constant (.int i) j pos) Q := fun σ H lo ow fk => we_of pe_int ⟨TK.refl H, _, μ, .d (.int i), ow, fk, q⟩
theorem xe_bl {i j} (q : Q (.d (.bool i)) μ) : XE X F δ μ (.Constant (.bool i) j pos) Q := fun σ H lo ow fk => we_of pe_bl ⟨TK.refl H, _, μ, .d (.bl i), ow, fk, q⟩
theorem xe_non {j} (q : Q (.d .none) μ) : XE X F δ μ (.Constant .none j pos) Q := fun σ H lo ow fk => we_of pe_non ⟨TK.refl H, _, μ, .d .non, ow, fk, q⟩
theorem xe_str {i j} (q : Q (.d (.str i)) μ) : XE X F δ μ (.Constant (.str i) j pos) Q := fun σ H lo ow fk => we_of pe_str ⟨TK.refl H, _, μ, .d (.str i), ow, fk, q⟩
/-- a module's constant, by what it stands for -/
theorem xe_glob {x : Str} {v : V} {u : Value} {r : Rv} (hg : Gl X x) (hm : X.mg x = some u) (ru : RelV v u) (hr : ∀ H, Rk X.K H v r) (q : Q r μ) (h1 : (x == ("__debug__" : Str)) = false := by decide) : XE X F δ μ (.Name x pos) Q := fun σ H lo ow fk =>
  we_of (pe_glob hg hm ru h1) ⟨TK.refl H, r, μ, hr H, ow, fk, q⟩

/-! ### arguments, displays -/
theorem xa_nil {Q : List Rv → Mu → Prop} (q : Q [] μ) : XA X F δ μ [] Q := fun σ H lo ow fk => wa_of pa_nil ⟨TK.refl H, [], μ, .nil, ow, fk, q⟩
theorem xa_cons {Q : List Rv → Mu → Prop} (h : XE X F δ μ e fun r μ1 => XA X F δ μ1 es fun rs μ2 => Q (r :: rs) μ2) (hs : starEach (e :: es) X.env = (false, eval e X.env) :: starEach es X.env := by rfl) : XA X F δ μ (e :: es) Q := fun σ H lo ow fk =>
  wa_of (pa_cons pe_w pa_w hs) (h.run lo ow fk fun v H1 r μ1 t1 lo1 r1 ow1 fk1 q1 => q1.run lo1 ow1 fk1 fun vs H2 rs μ2 t2 _ rs2 ow2 fk2 q2 => ⟨t1.trans t2, r :: rs, μ2, .cons (r1.keep t2) rs2, ow2, fk2, q2⟩)
theorem le_len {n m : Nat} (h : Nat.ble n m = true) : n ≤ m := Nat.le_of_ble_eq_true h
theorem sz_of {n : Nat} (h : n ≤ 100000) : n ≤ sizeLine := Nat.le_trans h (by decide)
/-- a display's tuple, known to have no dict -/
theorem pe_tupP {x1} {t : TA} (h : PA X es t) : PE X (.Tuple es x1 pos) (fun σ H Q => t σ H fun xs H1 => xs.length ≤ sizeLine ∧ ∀ p o, H1 p = none → o.dict = none → Q (.ref p) (upd H1 p (.frz o (.tup xs)))) := by
  refine ⟨fun pins s σ H Q I hq => ?_⟩
  refine wpAny_Tuple_spliced (thn (h.run pos pins s σ H _ I hq) fun us s1 ⟨xs, H1, I1, r, z, q⟩ => ⟨by rw [← r.length]; exact z, ?_⟩)
  have hf : H1 s1.heap.objs.size = none := I1.hok.fresh (Nat.le_refl _)
  refine ⟨.ref s1.heap.objs.size, _, I1.laid (t' := s1.toks) (o := .frz { cls := .type "tuple", data := .seq us.toArray } (.tup xs)) (fun b u e => Heap.get?_push_of_some _ e) (Nat.le_refl _) ?_, rfl, q _ _ hf rfl⟩
  exact ⟨Heap.get?_push_size _ rfl, z, us, r, ⟨_, Heap.get?_push_size _ rfl, rfl, _, rfl⟩⟩
theorem xe_tup {x1} (h : XA X F δ μ es fun rs μ1 => rs.length ≤ 100000 ∧ Q (.t rs) μ1) : XE X F δ μ (.Tuple es x1 pos) Q := fun σ H lo ow fk =>
  we_of (pe_tupP pa_w) (h.run lo ow fk fun vs H1 rs μ1 t1 lo1 r1 ow1 fk1 ⟨hl, q1⟩ => ⟨by rw [r1.length]; exact sz_of hl, fun p o hp ho => ⟨t1.trans (TK.new hp _), _, μ1, .t (SqP.of upd_same ho) (r1.keep (TK.new hp _)), ow1.new hp _, fk1.new hp _, q1⟩⟩)
/-- a tuple of data -/
theorem xe_tupD {x1} (h : XA X F δ μ es fun rs μ1 => ∃ ds : List PyData, rs = ds.map Rv.d ∧ ds.length ≤ 100000 ∧ Q (.d (.tuple ds)) μ1) : XE X F δ μ (.Tuple es x1 pos) Q :=
  (xe_tup (Q := fun r μ' => ∃ ds : List PyData, r = .t (ds.map Rv.d) ∧ Q (.d (.tuple ds)) μ') fun σ H lo ow fk => h.run lo ow fk fun vs H1 rs μ1 t1 _ r1 ow1 fk1 ⟨ds, e, hl, q⟩ => ⟨t1, rs, μ1, r1, ow1, fk1, by rw [e, List.length_map]; exact hl, ds, by rw [e], q⟩).data
/-- a new list -/
theorem xe_lst (h : XA X F δ μ es fun rs μ1 => rs.length ≤ 100000 ∧ ∀ p, Q (.r (.ref p)) ((p, .lst rs) :: μ1)) : XE X F δ μ (.List es pos) Q := fun σ H lo ow fk =>
  we_of (pe_lst pa_w) (h.run lo ow fk fun vs H1 rs μ1 t1 lo1 r1 ow1 fk1 ⟨hl, q1⟩ => ⟨by rw [r1.length]; exact sz_of hl, fun p hp => ⟨t1.trans (TK.new hp _), _, _, .r _, (ow1.new hp _).more (o := .lst rs) ⟨vs, upd_same, r1.keep (TK.new hp _)⟩, fk1.more ow1 hp, q1 p⟩⟩)

/-! ### operators by values -/
/-- an operation on what names hold -/
def OpD (K : PySem.W.Frag) (F : Fm) (r2 : R2) (ra rb : Rv) (μ : Mu) (Q : Rv → Mu → Prop) : Prop := ∀ x y H, Rk K H x ra → Rk K H y rb → Ow K H μ → Fk F H μ → r2 x y H (Pe K F H Q)
theorem Pe.back {K : PySem.W.Frag} {H H1 : Hp} (t : TK H H1) : ∀ v H', Pe K F H1 Q v H' → Pe K F H Q v H' := fun _ _ ⟨t2, q⟩ => ⟨t.trans t2, q⟩
theorem xe_op {op : Operator} {r2 : R2} (ho : OpR X (binaryOp op) r2) (mono : ∀ x y H (Q Q' : VK), (∀ v H', Q v H' → Q' v H') → r2 x y H Q → r2 x y H Q') (h : XE X F δ μ a fun ra μ1 => XE X F δ μ1 b fun rb μ2 => OpD X.K F r2 ra rb μ2 Q) : XE X F δ μ (.BinOp a op b pos) Q := fun σ H lo ow fk =>
  we_of (pe_op ho pe_w pe_w) (h.run lo ow fk fun x H1 ra μ1 t1 lo1 r1 ow1 fk1 q1 => q1.run lo1 ow1 fk1 fun y H2 rb μ2 t2 _ r2' ow2 fk2 q2 => mono _ _ _ _ _ (Pe.back (t1.trans t2)) (q2 x y H2 (r1.keep t2) r2' ow2 fk2))
theorem xe_cmp {op : CmpOp} {r2 : R2} (ho : OpR X (compareOp op) r2) (mono : ∀ x y H (Q Q' : VK), (∀ v H', Q v H' → Q' v H') → r2 x y H Q → r2 x y H Q') (hm : behindInMarks op b = false) (h : XE X F δ μ a fun ra μ1 => XE X F δ μ1 b fun rb μ2 => OpD X.K F r2 ra rb μ2 Q) :
    XE X F δ μ (.Compare a [op] [b] pos) Q := fun σ H lo ow fk =>
  we_of (pe_cmpR ho pe_w pe_w hm) (h.run lo ow fk fun x H1 ra μ1 t1 lo1 r1 ow1 fk1 q1 => q1.run lo1 ow1 fk1 fun y H2 rb μ2 t2 _ r2' ow2 fk2 q2 => mono _ _ _ _ _ (Pe.back (t1.trans t2)) (q2 x y H2 (r1.keep t2) r2' ow2 fk2))
/-- a comparison as a test: from it as a value -/
theorem xt_cmp {op : CmpOp} {r2 : R2} {Q : Bool → Mu → Prop} (ho : OpR X (compareOp op) r2) (mono : ∀ x y H (Q Q' : VK), (∀ v H', Q v H' → Q' v H') → r2 x y H Q → r2 x y H Q') (hm : behindInMarks op b = false)
    (h : XE X F δ μ a fun ra μ1 => XE X F δ μ1 b fun rb μ2 => OpD X.K F r2 ra rb μ2 fun r μ3 => ∃ k, r = .d (.bool k) ∧ Q k μ3) : XT X F δ μ (.Compare a [op] [b] pos) Q := fun σ H lo ow fk =>
  wt_of (pt_cmpR ho pe_w pe_w hm) (h.run lo ow fk fun x H1 ra μ1 t1 lo1 r1 ow1 fk1 q1 => q1.run lo1 ow1 fk1 fun y H2 rb μ2 t2 _ r2' ow2 fk2 q2 => mono _ _ _ _ _ (fun v H' ⟨t3, r, μ3, h1, h2, h3, k, e, q⟩ => by
    subst e
    cases h1 with
    | d h1 => cases h1; exact ⟨k, rfl, (t1.trans t2).trans t3, μ3, h2, h3, q⟩) (q2 x y H2 (r1.keep t2) r2' ow2 fk2))
/-- any expression that gives a bool, as a test -/
theorem xt_val {Q : Bool → Mu → Prop} (h : XE X F δ μ e fun r μ1 => ∃ k, r = .d (.bool k) ∧ Q k μ1) (he : ∀ whole, isTrue e X.env whole = (do let v ← whole; standAt e.pos; holding [v] (truthy v)) := by intro _; rfl) : XT X F δ μ e Q := fun σ H lo ow fk =>
  wt_of (pt_val pe_w he) (h.run lo ow fk fun v H' r μ' t _ h1 h2 h3 ⟨k, e, q⟩ => by
    subst e
    cases h1 with
    | d h1 => cases h1; exact ⟨k, rfl, t, μ', h2, h3, q⟩)
theorem xt_w {Q : Bool → Mu → Prop} (h : XW X F δ μ e Q) : XT X F δ μ e Q := fun σ H lo ow fk => wt_of (PW.pt pw_w) (h σ H lo ow fk)
theorem xt_not {Q : Bool → Mu → Prop} (h : XT X F δ μ a fun k μ1 => Q (!k) μ1) : XT X F δ μ (.UnaryOp .Not a pos) Q := fun σ H lo ow fk => wt_of (pt_not pt_w) (h.run lo ow fk fun k H' μ' t _ h2 h3 q => ⟨t, μ', h2, h3, q⟩)
theorem xe_not (h : XE X F δ μ a fun r μ1 => ∃ k, r = .d (.bool k) ∧ Q (.d (.bool (!k))) μ1) : XE X F δ μ (.UnaryOp .Not a pos) Q := fun σ H lo ow fk => we_of (pe_not pe_w) (h.run lo ow fk fun v H' r μ' t _ h1 h2 h3 ⟨k, e, q⟩ => by
    subst e
    cases h1 with
    | d h1 => cases h1; exact ⟨k, rfl, t, _, μ', .d (.bl _), h2, h3, q⟩)
section
variable {rest : List Expr}
theorem xw_and1 {Q : Bool → Mu → Prop} (h : XT X F δ μ a Q) : XW X F δ μ (.BoolOp .And [a] pos) Q := fun σ H lo ow fk => ww_of (pw_and1 pt_w) (h σ H lo ow fk)
theorem xw_or1 {Q : Bool → Mu → Prop} (h : XT X F δ μ a Q) : XW X F δ μ (.BoolOp .Or [a] pos) Q := fun σ H lo ow fk => ww_of (pw_or1 pt_w) (h σ H lo ow fk)
theorem xw_and {Q : Bool → Mu → Prop} (h : XT X F δ μ a fun k μ1 => (k = true → XW X F δ μ1 (.BoolOp .And (b :: rest) pos) Q) ∧ (k = false → Q false μ1)) : XW X F δ μ (.BoolOp .And (a :: b :: rest) pos) Q := fun σ H lo ow fk =>
  ww_of (pw_and pt_w pw_w) (h.run lo ow fk fun k H1 μ1 t1 lo1 ow1 fk1 ⟨q1, q2⟩ => by
    cases k with
    | true =>
      show WW X _ σ H1 _
      exact (q1 rfl).run lo1 ow1 fk1 fun k2 H2 μ2 t2 _ ow2 fk2 q => ⟨t1.trans t2, μ2, ow2, fk2, q⟩
    | false => exact ⟨t1, μ1, ow1, fk1, q2 rfl⟩)
theorem xw_or {Q : Bool → Mu → Prop} (h : XT X F δ μ a fun k μ1 => (k = true → Q true μ1) ∧ (k = false → XW X F δ μ1 (.BoolOp .Or (b :: rest) pos) Q)) : XW X F δ μ (.BoolOp .Or (a :: b :: rest) pos) Q := fun σ H lo ow fk =>
  ww_of (pw_or pt_w pw_w) (h.run lo ow fk fun k H1 μ1 t1 lo1 ow1 fk1 ⟨q1, q2⟩ => by
    cases k with
    | false =>
      show WW X _ σ H1 _
      exact (q2 rfl).run lo1 ow1 fk1 fun k2 H2 μ2 t2 _ ow2 fk2 q => ⟨t1.trans t2, μ2, ow2, fk2, q⟩
    | true => exact ⟨t1, μ1, ow1, fk1, q1 rfl⟩)
/-- and, or as values -/
theorem xe_one {op} (h : XE X F δ μ a Q) : XE X F δ μ (.BoolOp op [a] pos) Q := fun σ H lo ow fk => we_of (pe_one pe_w) (h σ H lo ow fk)
theorem xe_and (h : XE X F δ μ a fun r μ1 => ∃ k, r = .d (.bool k) ∧ (k = true → XE X F δ μ1 (.BoolOp .And (b :: rest) pos) Q) ∧ (k = false → Q (.d (.bool false)) μ1)) : XE X F δ μ (.BoolOp .And (a :: b :: rest) pos) Q := fun σ H lo ow fk =>
  we_of (pe_and pe_w pe_w) (h.run lo ow fk fun v H1 r μ1 t1 lo1 h1 ow1 fk1 ⟨k, e, q1, q2⟩ => by
    subst e
    cases h1 with
    | d h1 =>
      cases h1
      refine ⟨k, rfl, ?_⟩
      cases k with
      | true =>
        show WE X _ σ H1 _
        exact (q1 rfl).run lo1 ow1 fk1 fun v2 H2 r2 μ2 t2 _ h2 ow2 fk2 q => ⟨t1.trans t2, r2, μ2, h2, ow2, fk2, q⟩
      | false => exact ⟨t1, _, μ1, .d (.bl _), ow1, fk1, q2 rfl⟩)
theorem xe_or (h : XE X F δ μ a fun r μ1 => ∃ k, r = .d (.bool k) ∧ (k = true → Q (.d (.bool true)) μ1) ∧ (k = false → XE X F δ μ1 (.BoolOp .Or (b :: rest) pos) Q)) : XE X F δ μ (.BoolOp .Or (a :: b :: rest) pos) Q := fun σ H lo ow fk =>
  we_of (pe_or pe_w pe_w) (h.run lo ow fk fun v H1 r μ1 t1 lo1 h1 ow1 fk1 ⟨k, e, q1, q2⟩ => by
    subst e
    cases h1 with
    | d h1 =>
      cases h1
      refine ⟨k, rfl, ?_⟩
      cases k with
      | false =>
        show WE X _ σ H1 _
        exact (q2 rfl).run lo1 ow1 fk1 fun v2 H2 r2 μ2 t2 _ h2 ow2 fk2 q => ⟨t1.trans t2, r2, μ2, h2, ow2, fk2, q⟩
      | true => exact ⟨t1, _, μ1, .d (.bl _), ow1, fk1, q1 rfl⟩)
theorem xe_if (h : XT X F δ μ c fun k μ1 => (k = true → XE X F δ μ1 a Q) ∧ (k = false → XE X F δ μ1 b Q)) : XE X F δ μ (.IfExp c a b pos) Q := fun σ H lo ow fk =>
  we_of (pe_ifExp pt_w pe_w pe_w) (h.run lo ow fk fun k H1 μ1 t1 lo1 ow1 fk1 ⟨q1, q2⟩ => by
    cases k with
    | true =>
      show WE X _ σ H1 _
      exact (q1 rfl).run lo1 ow1 fk1 fun v2 H2 r2 μ2 t2 _ h2 ow2 fk2 q => ⟨t1.trans t2, r2, μ2, h2, ow2, fk2, q⟩
    | false =>
      show WE X _ σ H1 _
      exact (q2 rfl).run lo1 ow1 fk1 fun v2 H2 r2 μ2 t2 _ h2 ow2 fk2 q => ⟨t1.trans t2, r2, μ2, h2, ow2, fk2, q⟩)
end

/-! ### statements -/
variable {st : Stmt} {sts : List Stmt} {D : Dn}
theorem xs_nil (q : D.nx δ μ) : XSs X F δ μ [] D := fun σ H lo ow fk => wss_of pss_nil ⟨TK.refl H, δ, μ, lo, ow, fk, q⟩
theorem xs_cons (h : XS X F δ μ st { D with nx := fun δ' μ' => XSs X F δ' μ' sts D }) : XSs X F δ μ (st :: sts) D := fun σ H lo ow fk => by
  refine wss_of (pss_cons ps_w pss_w) ?_
  have q := h σ H lo ow fk
  intro pins s I
  refine thn (q pins s I) fun f s' z => ?_
  cases f with
  | next =>
    obtain ⟨σ', H', I', t, δ', μ', lo', ow', fk', q'⟩ := z
    exact ⟨σ', H', I', wss_back t (q' σ' H' lo' ow' fk')⟩
  | ret u => exact z
  | brk => exact z
  | cont => exact z
theorem xs_one (h : XS X F δ μ st D) : XSs X F δ μ [st] D := fun σ H lo ow fk => wss_of (pss_one ps_w) (h σ H lo ow fk)
theorem xs_expr (h : XE X F δ μ e fun _ μ1 => D.nx δ μ1) (hs : swapsWith e none pos.line X.env = pure false := by rfl) : XS X F δ μ (.Expr e pos) D := fun σ H lo ow fk =>
  ws_of (ps_expr pe_w hs) (h.run lo ow fk fun v H' r μ' t lo' h1 h2 h3 q => ⟨t, δ, μ', lo', h2, h3, q⟩)
theorem xs_ret (h : XE X F δ μ e D.rt) : XS X F δ μ (.Return (some e) pos) D := fun σ H lo ow fk =>
  ws_of (ps_ret pe_w) (h.run lo ow fk fun v H' r μ' t lo' h1 h2 h3 q => ⟨r, μ', h1, h2, h3, q⟩)
theorem xs_retN (q : D.rt (.d .none) μ) : XS X F δ μ (.Return none pos) D := fun σ H lo ow fk => ws_of ps_retN ⟨_, μ, .d .non, ow, fk, q⟩
theorem xs_if {A B : List Stmt} (h : XT X F δ μ c fun k μ1 => (k = true → XSs X F δ μ1 A D) ∧ (k = false → XSs X F δ μ1 B D)) : XS X F δ μ (.If c A B pos) D := fun σ H lo ow fk =>
  ws_of (ps_if pt_w pss_w pss_w) (h.run lo ow fk fun k H1 μ1 t1 lo1 ow1 fk1 ⟨q1, q2⟩ => by
    cases k with
    | true => exact wss_back t1 (q1 rfl σ H1 lo1 ow1 fk1)
    | false => exact wss_back t1 (q2 rfl σ H1 lo1 ow1 fk1))
theorem xs_set {i : Nat} {x : Str} {pos' : Pos} (h : XE X F δ μ e fun r μ1 => D.nx (δ.set i (some r)) μ1) (hN : X.N.Nodup) (hi : X.N[i]? = some x := by rfl) (hx : Loc X.env.scope x := by first | exact Or.inl rfl | exact Or.inr rfl)
    (hs : swapsWith e (some (.Name x pos')) pos.line X.env = pure false := by rfl) (hf : X.fn x = true ∨ X.env.scope.names.lookup x = some .local := by first | exact .inl rfl | exact .inr rfl) : XS X F δ μ (.Assign [.Name x pos'] e pos) D := fun σ H lo ow fk =>
  ws_of (ps_set (i := i) hN hi hx pe_w hs hf) (h.run lo ow fk fun v H' r μ' t lo' h1 h2 h3 q => ⟨t, _, μ', lo'.set h1 i, h2, h3, q⟩)
theorem xs_never (h : False) : XS X F δ μ st D := h.elim
theorem xs_brk (q : D.bk δ μ) : XS X F δ μ (.Break pos) D := fun σ H lo ow fk => ws_of ps_break ⟨TK.refl H, δ, μ, lo, ow, fk, q⟩
theorem xs_cont (q : D.ct δ μ) : XS X F δ μ (.Continue pos) D := fun σ H lo ow fk => ws_of ps_continue ⟨TK.refl H, δ, μ, lo, ow, fk, q⟩

/-! ### targets -/
def XGs (X : Cx) (F : Fm) (δ : De) (μ : Mu) (tgs : List Expr) (rs : List Rv) (js : List Nat) (Q : De → Mu → Prop) : Prop := ∀ σ H vs, Lo X.K H σ δ → Ow X.K H μ → Fk F H μ → Rks X.K H vs rs →
  ∀ (pins : List (Addr × Obj)) (s : Shared) (us : List Value), Inv X pins σ H s → Vals vs us → wpAny (model X.prog X.w) X.A (assignInOrder ((assignEach tgs X.env).map (·.2)) us) (fun _ s' => ∃ σ' H', Inv X pins σ' H' s' ∧ σ'.length = σ.length ∧ (∀ k, k ∉ js → σ'[k]? = σ[k]?) ∧ En X.K F H Q σ' H') X.xe s
variable {r : Rv} {js : List Nat} {N : De → Mu → Prop} {tgs : List Expr} {rs : List Rv}
theorem xg_name {i : Nat} {x : Str} (q : N (δ.set i (some r)) μ) (hN : X.N.Nodup) (hi : X.N[i]? = some x := by rfl) (hj : i ∈ js := by decide) (hx : Loc X.env.scope x := by first | exact Or.inl rfl | exact Or.inr rfl)
    (hf : X.fn x = true ∨ X.env.scope.names.lookup x = some .local := by first | exact .inl rfl | exact .inr rfl) : XG X F δ μ (.Name x pos) r js N := fun σ H v lo ow fk hr =>
  wg_of (pg_name (i := i) hN hi hx hf) ⟨by rw [List.length_set], fun k hk => List.getElem?_set_ne (fun z : i = k => hk (by rw [← z]; exact hj)), TK.refl H, _, μ, lo.set hr i, ow, fk, q⟩
theorem xgs_nil (q : N δ μ) : XGs X F δ μ [] [] js N := fun σ H vs lo ow fk hr pins s us I ru => by
  cases hr
  cases ru
  exact assignInOrder_nil ⟨σ, H, I, rfl, fun _ _ => rfl, TK.refl H, δ, μ, lo, ow, fk, q⟩
theorem xgs_cons (h : XG X F δ μ e r js fun δ1 μ1 => XGs X F δ1 μ1 tgs rs js N) (hs : (assignEach (e :: tgs) X.env).map (·.2) = assign e X.env :: (assignEach tgs X.env).map (·.2) := by rfl) : XGs X F δ μ (e :: tgs) (r :: rs) js N := fun σ H vs lo ow fk hr pins s us I ru => by
  cases hr with
  | cons h1 h2 =>
    cases ru with
    | cons u1 u2 =>
      rw [hs]
      refine assignInOrder_cons (thn (h σ H _ lo ow fk h1 pins s _ I u1) fun _ s1 ⟨σ1, H1, I1, l1, k1, t1, δ1, μ1, lo1, ow1, fk1, q1⟩ => ?_)
      refine thn (q1 σ1 H1 _ lo1 ow1 fk1 (h2.keep t1) pins s1 _ I1 u2) fun _ s2 ⟨σ2, H2, I2, l2, k2, q2⟩ => ?_
      exact ⟨σ2, H2, I2, l2.trans l1, fun k hk => (k2 k hk).trans (k1 k hk), En.back t1 _ _ _ q2⟩
theorem xg_tup {k : Nat} (h : XGs X F δ μ tgs rs js N) (hc : X.calm = true := by rfl) (hn : (assignEach tgs X.env).length = rs.length := by rfl) (hst : (assignEach tgs X.env).findIdx? (·.1) = none := by rfl) : XG X F δ μ (.Tuple tgs k pos) (.t rs) js N := fun σ H v lo ow fk hr pins s u I ru => by
  cases hr with
  | t hq hr =>
    cases ru
    obtain ⟨its, rv, ht, hz⟩ := I.tuple hq.sq
    refine assign_Tuple_tuple (I.ok.hd hc) ht (by simp [hn, ← hr.length, rv.length]) hst fun h' hx => ?_
    have I1 : Inv X pins σ H { s with heap := h' } := I.kept (t' := s.toks) fun b o e => hx b o (Nat.ne_of_lt (Heap.lt_size e)) e
    exact h σ H _ lo ow fk hr pins _ _ I1 (by simpa using rv)
theorem xg_z {k : Nat} (h : XGs X F δ μ tgs rs js N) (hc : X.calm = true := by rfl) (hn : (assignEach tgs X.env).length = rs.length := by rfl) (hst : (assignEach tgs X.env).findIdx? (·.1) = none := by rfl) : XG X F δ μ (.Tuple tgs k pos) (.z rs) js N := fun σ H v lo ow fk hr pins s u I ru => by
  cases hr with
  | z hq hr =>
    cases ru
    obtain ⟨its, rv, ht, hz⟩ := I.tuple hq
    refine assign_Tuple_tuple (I.ok.hd hc) ht (by simp [hn, ← hr.length, rv.length]) hst fun h' hx => ?_
    have I1 : Inv X pins σ H { s with heap := h' } := I.kept (t' := s.toks) fun b o e => hx b o (Nat.ne_of_lt (Heap.lt_size e)) e
    exact h σ H _ lo ow fk hr pins _ _ I1 (by simpa using rv)
theorem xg_tupD {k : Nat} {ds : List PyData} (h : XGs X F δ μ tgs (ds.map Rv.d) js N) (hc : X.calm = true := by rfl) (hn : (assignEach tgs X.env).length = (ds.map Rv.d).length := by rfl) (hst : (assignEach tgs X.env).findIdx? (·.1) = none := by rfl) : XG X F δ μ (.Tuple tgs k pos) (.d (.tuple ds)) js N := fun σ H v lo ow fk hr =>
  xg_tup h hc hn hst σ H v lo ow fk (Rk.tup.mp hr)
/-- target = value -/
theorem xs_asg {tg : Expr} (js : List Nat) (h : XE X F δ μ e fun r μ1 => XG X F δ μ1 tg r js D.nx) (hs : swapsWithSole [tg] e pos.line X.env = pure false := by rfl) (hw : swappedStores [tg] e X.env = pure none := by rfl)
    (h1 : (assignEach [tg] X.env).map (·.2) = [assign tg X.env] := by rfl) : XS X F δ μ (.Assign [tg] e pos) D := fun σ H lo ow fk =>
  ws_of (ps_asg pe_w pg_w hs hw h1) (h.run lo ow fk fun v H' r μ' t lo' h1 h2 h3 q => wg_mono (q σ H' v lo' h2 h3 h1) fun σ2 H2 ⟨_, _, z⟩ => En.back t _ _ _ z)
end
end Ds

/-! text Ds2 -/
/-! Code over data: defs and their calls. -/
namespace Ds
open PySem PySem.Spec PyProof.Rows L2

abbrev Sc := List Rv → Mu → (Rv → Mu → Prop) → Prop
/-- a def's promise over data: S args μ Q says where it may be called, Q of what it gives and of its objects behind it -/
def spOf (K : PySem.W.Frag) (S : Sc) : Sp := fun vs H Q _ => ∃ (args : List Rv) (μ : Mu) (Qd : Rv → Mu → Prop), Rks K H vs args ∧ Ow K H μ ∧ (μ.map (·.1)).Nodup ∧ S args μ Qd ∧
  ∀ r μ' v H', Rk K H' v r → Ow K H' μ' → Fk ⟨H, μ.map (·.1)⟩ H' μ' → TK H H' → Qd r μ' → Q v H'
/-- a def that keeps it; gs: how the arguments and the keywords' values come to the parameters -/
structure Df (P : Program) (w : World) (K : PySem.W.Frag) (mg : Str → Option Value) (base : Heap) (k : Nat) (f : Addr) (ps : List Str) (S : Sc) : Prop where
  ex : ∃ fd : FuncData, FnOk P w K mg base CX0 k f fd ps (spOf K S) ∧ Binds K fd ps [] ∧ PySem.W.keepIn K (.ref f) = true
theorem Df.mono {P : Program} {w : World} {K : PySem.W.Frag} {mg : Str → Option Value} {base : Heap} {j k : Nat} {f : Addr} {ps : List Str} {S : Sc} (D : Df P w K mg base j f ps S) (h : j ≤ k) : Df P w K mg base k f ps S :=
  let ⟨fd, F, b, kp⟩ := D.ex; ⟨fd, F.mono h, b, kp⟩
/-- the names at the entry -/
def startD (N : List Str) (args : List Rv) : De := args.map some ++ List.replicate (N.length - args.length) none

section
variable {K : PySem.W.Frag} {H H1 H' : Hp} {F : Fm} {μ μa μb μr : Mu}
theorem Ow.perm (w : Ow K H μ) (p : μ.Perm μa) : Ow K H μa := fun q hq => w q (p.mem_iff.mpr hq)
theorem Fk.perm (f : Fk F H μ) (p : μ.Perm μa) : Fk F H μa := ⟨(p.map _).nodup_iff.mp f.nd, f.kp, fun q hq => f.nw q (p.mem_iff.mpr hq)⟩
theorem TK.of_kp (w : Ow K H μ) (kp : ∀ a o, H a = some o → a ∉ μ.map (·.1) → H' a = some o) : TK H H' := fun a o h i => by
  by_cases ha : a ∈ μ.map (·.1)
  · obtain ⟨q, hq, e⟩ := List.mem_map.mp ha
    obtain ⟨u, h1, h2⟩ := (w q hq).there
    rw [e, h] at h1
    cases h1
    exact absurd i h2
  · exact kp a o h ha
/-- behind a call that had the objects μa -/
theorem Fk.call (f : Fk F H1 (μa ++ μr)) (w : Ow K H1 (μa ++ μr)) (g : Fk ⟨H1, μa.map (·.1)⟩ H' μb) : Fk F H' (μb ++ μr) := by
  have nd := f.nd
  rw [List.map_append, List.nodup_append] at nd
  obtain ⟨n1, n2, n3⟩ := nd
  refine ⟨?_, fun a o e n => ?_, fun q hq => ?_⟩
  · rw [List.map_append, List.nodup_append]
    refine ⟨g.nd, n2, fun x hx y hy e => ?_⟩
    obtain ⟨q, hq, rfl⟩ := List.mem_map.mp hx
    obtain ⟨z, hz, rfl⟩ := List.mem_map.mp hy
    rcases g.nw q hq with h | h
    · exact n3 _ h _ hy e
    · obtain ⟨u, h1, _⟩ := (w z (List.mem_append_right _ hz)).there
      rw [← e] at h1
      have h' : H1 q.1 = none := h
      rw [h'] at h1
      cases h1
  · have e1 := f.kp a o e n
    refine g.kp a o e1 fun z => ?_
    obtain ⟨q, hq, eq⟩ := List.mem_map.mp z
    rcases f.nw q (List.mem_append_left _ hq) with h | h
    · exact n (eq ▸ h)
    · rw [eq, e] at h
      cases h
  · rcases List.mem_append.mp hq with hq | hq
    · rcases g.nw q hq with h | h
      · obtain ⟨z, hz, eq⟩ := List.mem_map.mp h
        have := f.nw z (List.mem_append_left _ hz)
        rw [eq] at this
        exact this
      · by_cases hm : q.1 ∈ F.M
        · exact .inl hm
        · refine .inr ?_
          cases e : F.H0 q.1 with
          | none => rfl
          | some u =>
            have h' : H1 q.1 = none := h
            rw [f.kp _ u e hm] at h'
            cases h'
    · exact f.nw q (List.mem_append_right _ hq)
theorem Ow.call (f : Fk F H1 (μa ++ μr)) (w : Ow K H1 (μa ++ μr)) (g : Fk ⟨H1, μa.map (·.1)⟩ H' μb) (wb : Ow K H' μb) (t : TK H1 H') : Ow K H' (μb ++ μr) := fun q hq => by
  rcases List.mem_append.mp hq with hq | hq
  · exact wb q hq
  · refine (w q (List.mem_append_right _ hq)).keep t fun u e => g.kp _ u e fun z => ?_
    have nd := f.nd
    rw [List.map_append, List.nodup_append] at nd
    exact nd.2.2 _ z _ (List.mem_map.mpr ⟨q, hq, rfl⟩) rfl
/-- what a call promises, of the caller's objects -/
theorem sp_call {S : Sc} {vs : List V} {rs : List Rv} {Q : Rv → Mu → Prop} {E : XK} (w : Ow K H1 μ) (f : Fk F H1 μ) (p : μ.Perm (μa ++ μr)) (r : Rks K H1 vs rs) (h : S rs μa fun r μb => Q r (μb ++ μr)) : spOf K S vs H1 (Pe K F H1 Q) E := by
  have w' := w.perm p
  have f' := f.perm p
  refine ⟨rs, μa, _, r, fun q hq => w' q (List.mem_append_left _ hq), ?_, h, fun rr μb v H' h1 h2 h3 h4 h5 => ⟨h4, rr, μb ++ μr, h1, Ow.call f' w' h3 h2 h4, Fk.call f' w' h3, h5⟩⟩
  have nd := f'.nd
  rw [List.map_append, List.nodup_append] at nd
  exact nd.1
end

/-! ### calls -/
section
variable {X : Cx} {F : Fm} {δ : De} {μ : Mu} {k : Nat} {f : Addr} {ps : List Str} {S : Sc} {x : Str} {p pos : Pos} {e : Expr} {es : List Expr} {Q : Rv → Mu → Prop}
theorem spOf.mono {K : PySem.W.Frag} {vs : List V} {H : Hp} {Q Q' : VK} {E E' : XK} (h : spOf K S vs H Q E) (k : ∀ v H', Q v H' → Q' v H') : spOf K S vs H Q' E' :=
  let ⟨a, m, q, h1, h2, h3, h4, h5⟩ := h; ⟨a, m, q, h1, h2, h3, h4, fun r μ' v H' g1 g2 g3 g4 g5 => k v H' (h5 r μ' v H' g1 g2 g3 g4 g5)⟩
theorem xe_call (D : Df X.prog X.w X.K X.mg X.base k f ps S) (hr : Room k X.A) (hm : X.mg x = some (.ref f))
    (h : XA X F δ μ (e :: es) fun rs μ1 => ∃ μa μr, μ1.Perm (μa ++ μr) ∧ S rs μa fun r μb => Q r (μb ++ μr)) (hg : Gl X x := by rfl) (hdb : (x == ("__debug__" : Str)) = false := by decide)
    (he : starEach (e :: es) X.env = (false, eval e X.env) :: starEach es X.env := by rfl) (hpl : (backTo pos (starEach es X.env)).any (·.1) = false := by rfl) : XE X F δ μ (.Call (.Name x p) (e :: es) [] pos) Q := fun σ H lo ow fk => by
  obtain ⟨fd, G, b, kp⟩ := D.ex
  refine we_of (pe_call G hr hg hm kp b .nil pass0 pa_w hdb he hpl) (h.run lo ow fk fun vs H1 rs μ1 t1 _ r1 ow1 fk1 ⟨μa, μr, pm, q⟩ => ?_)
  show spOf X.K S (vs ++ []) H1 (Pe X.K F H Q) E0
  rw [List.append_nil]
  exact (sp_call (E := E0) ow1 fk1 pm r1 q).mono (Pe.back t1)
end

/-! ### a def by its body -/
section
variable {P : Program} {w : World} {K : PySem.W.Frag} {mg : Str → Option Value} {base : Heap} {x qual : Str} {params : Arguments} {body : List Stmt} {scope : Scope} {dvs : List V} {kws : List (Str × V)} {f : Addr} {fd : FuncData}
/-- the names that a body's frame holds -/
theorem lo_start {H : Hp} {N : List Str} {vs : List V} {args : List Rv} (r : Rks K H vs args) (hl : args.length ≤ N.length) : Lo K H (L2.start N vs) (startD N args) := by
  have hv := r.length
  refine ⟨by unfold L2.start startD; simp [hv], fun i rr e => ?_⟩
  unfold startD at e
  by_cases hi : i < args.length
  · rw [List.getElem?_append_left (by simpa using hi), List.getElem?_map] at e
    cases q : args[i]? with
    | none => rw [q] at e; cases e
    | some z =>
      rw [q] at e
      cases e
      obtain ⟨v, h1, h2⟩ := r.get q
      refine ⟨v, ?_, h2⟩
      unfold L2.start
      rw [List.getElem?_append_left (by simp [hv, hi]), List.getElem?_map, h1]
      rfl
  · rw [List.getElem?_append_right (by simpa using hi)] at e
    rw [List.getElem?_replicate] at e
    split at e <;> cases e
abbrev bodyX (P : Program) (w : World) (K : PySem.W.Frag) (mg : Str → Option Value) (base : Heap) (N : List Str) (qual : Str) (scope : Scope) (f : Addr) (cdv : Value) (A : Around) (outer : List Env) (s : Shared) (H : Hp) (E : XK) : Cx :=
  (cxOf CX0 P w K mg base N qual scope f cdv A outer s H E).nox
theorem df_fn {N ps : List Str} {k : Nat} {S : Sc} (Fn : FunD K x qual params body scope dvs kws f fd) (sc : FnScope N ps scope) (len : ∀ args μ Q, S args μ Q → args.length = ps.length)
    (hb : ∀ (cdv : Value) (A : Around) (outer : List Env) (s : Shared) (H : Hp) (E : XK), Room k (A.deeper (envOfC qual scope s.heap.objs.size f cdv)) → ∀ (F : Fm) (args : List Rv) (μ : Mu) (Q : Rv → Mu → Prop), S args μ Q →
      XSs (bodyX P w K mg base N qual scope f cdv A outer s H E) F (startD N args) μ body ⟨fun _ μ' => Q (.d .none) μ', Q, fun _ _ => False, fun _ _ => False⟩) : FnOk P w K mg base CX0 (k + 1) f fd ps (spOf K S) := by
  refine Fn.ok sc (fun vs H Q E ⟨args, μ, Qd, r, _, _, h, _⟩ => by rw [r.length]; exact len _ _ _ h) fun cdv A outer s H vs Q E hr h => ?_
  obtain ⟨args, μ, Qd, r, ow, nd, hS, hQ⟩ := h
  refine ⟨_, PSs.nox pss_w, ?_⟩
  have hl : args.length ≤ N.length := by
    rw [len _ _ _ hS]
    have := congrArg List.length sc.pre
    rw [List.length_take] at this
    omega
  have z := hb cdv A outer s H E hr ⟨H, μ.map (·.1)⟩ args μ Qd hS (L2.start N vs) H (lo_start r hl) ow (Fk.start nd)
  intro pins s' I
  refine thn (z pins s' I) fun fl s2 y => ?_
  cases fl with
  | next =>
    obtain ⟨σ', H', I', _, δ', μ', _, ow', fk', q⟩ := y
    exact ⟨σ', H', I', hQ _ _ V.non H' (.d .non) ow' fk' (TK.of_kp ow fk'.kp) q⟩
  | ret u =>
    obtain ⟨v, σ', H', I', rv, rr, μ', h1, ow', fk', q⟩ := y
    exact ⟨v, σ', H', I', rv, hQ _ _ v H' h1 ow' fk' (TK.of_kp ow fk'.kp) q⟩
  | brk =>
    obtain ⟨_, _, _, _, _, _, _, _, _, q⟩ := y
    exact q.elim
  | cont =>
    obtain ⟨_, _, _, _, _, _, _, _, _, q⟩ := y
    exact q.elim
/-- .. of parameters alone -/
theorem df_mk {N ps : List Str} {k : Nat} {S : Sc} (Fn : FunD K x qual params body scope [] kws f fd) (sc : FnScope N ps scope)
    (bd : ∀ (kV doc pm : Value) (an : Option Addr) (cdv ct : Value) (us : List Value), us.length = ps.length → bindArgs (PySem.W.fnOf x qual params body scope .none kV doc pm an cdv ct) ⟨us, []⟩ = pure (ps.zip us))
    (len : ∀ args μ Q, S args μ Q → args.length = ps.length)
    (hb : ∀ (cdv : Value) (A : Around) (outer : List Env) (s : Shared) (H : Hp) (E : XK), Room k (A.deeper (envOfC qual scope s.heap.objs.size f cdv)) → ∀ (F : Fm) (args : List Rv) (μ : Mu) (Q : Rv → Mu → Prop), S args μ Q →
      XSs (bodyX P w K mg base N qual scope f cdv A outer s H E) F (startD N args) μ body ⟨fun _ μ' => Q (.d .none) μ', Q, fun _ _ => False, fun _ _ => False⟩) : Df P w K mg base (k + 1) f ps S :=
  ⟨fd, df_fn Fn sc len hb, Fn.bindsN bd, Fn.kp⟩
end
end Ds

/-! text Ds3 -/
/-! Code over data: operators, subscripts, built-ins. -/
namespace Ds
open PySem PySem.Spec PyProof.Rows L2

/-! ### what is walked or counted -/
/-- r is a sequence of these, the objects being μ -/
inductive Sq (μ : Mu) : Rv → List Rv → Prop
  | tup (ds : List PyData) : Sq μ (.d (.tuple ds)) (ds.map Rv.d)
  | t (xs : List Rv) : Sq μ (.t xs) xs
  | z (xs : List Rv) : Sq μ (.z xs) xs
  | lst {p : Addr} {xs : List Rv} (h : (p, Ob.lst xs) ∈ μ) : Sq μ (.r (.ref p)) xs
section
variable {K : PySem.W.Frag} {H : Hp} {μ : Mu} {r : Rv} {xs : List Rv} {v : V}
theorem Sq.at_ (h : Sq μ r xs) (hr : Rk K H v r) (w : Ow K H μ) : ∃ p vs, v = .ref p ∧ (SqL K H p vs ∨ SqT K H p vs) ∧ Rks K H vs xs := by
  cases h with
  | tup ds =>
    cases Rk.tup.mp hr with
    | t h1 h2 => exact ⟨_, _, rfl, .inr h1.sq, h2⟩
  | t _ =>
    cases hr with
    | t h1 h2 => exact ⟨_, _, rfl, .inr h1.sq, h2⟩
  | z _ =>
    cases hr with
    | z h1 h2 => exact ⟨_, _, rfl, .inr h1, h2⟩
  | lst h =>
    cases hr
    obtain ⟨vs, h1, h2⟩ := w _ h
    exact ⟨_, vs, rfl, .inl (SqL.of h1), h2⟩
end
theorem rks_bools {K : PySem.W.Frag} {H : Hp} : ∀ {bs : List Bool} {ws : List V}, Rks K H ws (bs.map fun b => Rv.d (.bool b)) → ws = bs.map V.bl
  | [], _, h => by cases h; rfl
  | b :: bs, _, h => by
    cases h with
    | cons g1 g2 =>
      cases g1 with
      | d g1 =>
        cases g1
        rw [rks_bools g2] <;> rfl
def IsT : Rv → Prop
  | .d (.tuple _) => True
  | .t _ => True
  | _ => False
theorem Sq.tuple {K : PySem.W.Frag} {H : Hp} {μ : Mu} {r : Rv} {xs : List Rv} {v : V} (h : Sq μ r xs) (ht : IsT r) (hr : Rk K H v r) : ∃ p vs, v = .ref p ∧ SqP K H p vs ∧ Rks K H vs xs := by
  cases h with
  | tup ds =>
    cases Rk.tup.mp hr with
    | t h1 h2 => exact ⟨_, _, rfl, h1, h2⟩
  | t _ =>
    cases hr with
    | t h1 h2 => exact ⟨_, _, rfl, h1, h2⟩
  | z _ => exact ht.elim
  | lst _ => exact ht.elim
/-- data as == takes it -/
inductive Dd (μ : Mu) : Rv → PyData → Prop
  | d (x : PyData) : Dd μ (.d x) x
  | lst {p : Addr} {ds : List PyData} (h : (p, Ob.lst (ds.map Rv.d)) ∈ μ) : Dd μ (.r (.ref p)) (.list ds)
theorem Dd.dp {K : PySem.W.Frag} {H : Hp} {μ : Mu} {r : Rv} {x : PyData} {v : V} (h : Dd μ r x) (hr : Rk K H v r) (w : Ow K H μ) : Dp K H v x := by
  cases h with
  | d x => cases hr with
    | d h => exact h.dp
  | lst h =>
    cases hr
    obtain ⟨vs, h1, h2⟩ := w _ h
    exact .lst (SqL.of h1) h2.tds.dp

section
variable {X : Cx} {F : Fm} {δ : De} {μ : Mu} {e a b c : Expr} {es : List Expr} {pos p : Pos} {Q : Rv → Mu → Prop} {K : PySem.W.Frag} {ra rb : Rv}
theorem pe_fin {H : Hp} {v : V} {r : Rv} (hr : Rk K H v r) (w : Ow K H μ) (f : Fk F H μ) (q : Q r μ) : Pe K F H Q v H := ⟨TK.refl H, r, μ, hr, w, f, q⟩
theorem pe_new {H : Hp} {a : Addr} {o : HO} {r : Rv} (hp : H a = none) (hr : Rk K (upd H a o) (.ref a) r) (w : Ow K H μ) (f : Fk F H μ) (q : Q r μ) : Pe K F H Q (.ref a) (upd H a o) := ⟨TK.new hp _, r, μ, hr, w.new hp _, f.new hp _, q⟩
theorem pe_newO {H : Hp} {a : Addr} {o : HO} {ob : Ob} (hp : H a = none) (ho : ObIs K (upd H a o) a ob) (w : Ow K H μ) (f : Fk F H μ) (q : Q (.r (.ref a)) ((a, ob) :: μ)) : Pe K F H Q (.ref a) (upd H a o) := ⟨TK.new hp _, _, _, .r _, (w.new hp _).more ho, f.more w hp, q⟩

/-! ### whole numbers -/
theorem rI_mono {C : Int → Int → Prop} {g : Int → Int → V} : ∀ x y H (Q Q' : VK), (∀ v H', Q v H' → Q' v H') → rI C g x y H Q → rI C g x y H Q' := fun _ _ _ _ _ k ⟨i, j, e1, e2, c, q⟩ => ⟨i, j, e1, e2, c, k _ _ q⟩
theorem rI0_mono {g : Int → Int → V} : ∀ x y H (Q Q' : VK), (∀ v H', Q v H' → Q' v H') → rI0 g x y H Q → rI0 g x y H Q' := fun _ _ _ _ _ k ⟨i, j, e1, e2, q⟩ => ⟨i, j, e1, e2, k _ _ q⟩
theorem opd_I0 {g : Int → Int → Int} {i j : Int} (q : Q (.d (.int (g i j))) μ) : OpD K F (rI0 fun i j => .int (g i j)) (.d (.int i)) (.d (.int j)) μ Q := fun x y H hx hy w f => by
  cases hx with
  | d hx => cases hx; cases hy with
    | d hy => cases hy; exact ⟨i, j, rfl, rfl, pe_fin (.d (.int _)) w f q⟩
theorem opd_I {C : Int → Int → Prop} {g : Int → Int → Int} {i j : Int} (c : C i j) (q : Q (.d (.int (g i j))) μ) : OpD K F (rI C fun i j => .int (g i j)) (.d (.int i)) (.d (.int j)) μ Q := fun x y H hx hy w f => by
  cases hx with
  | d hx => cases hx; cases hy with
    | d hy => cases hy; exact ⟨i, j, rfl, rfl, c, pe_fin (.d (.int _)) w f q⟩
theorem opd_B0 {g : Int → Int → Bool} {i j : Int} (q : Q (.d (.bool (g i j))) μ) : OpD K F (rI0 fun i j => .bl (g i j)) (.d (.int i)) (.d (.int j)) μ Q := fun x y H hx hy w f => by
  cases hx with
  | d hx => cases hx; cases hy with
    | d hy => cases hy; exact ⟨i, j, rfl, rfl, pe_fin (.d (.bl _)) w f q⟩
theorem xe_add (h : XE X F δ μ a fun ra μ1 => XE X F δ μ1 b fun rb μ2 => ∃ i j, ra = .d (.int i) ∧ rb = .d (.int j) ∧ Q (.d (.int (i + j))) μ2) : XE X F δ μ (.BinOp a .Add b pos) Q :=
  xe_op op_add rI0_mono (h.mono fun _ _ h => h.mono fun _ _ ⟨i, j, e1, e2, q⟩ => by subst e1 e2; exact opd_I0 q)
theorem xe_sub (h : XE X F δ μ a fun ra μ1 => XE X F δ μ1 b fun rb μ2 => ∃ i j, ra = .d (.int i) ∧ rb = .d (.int j) ∧ Q (.d (.int (i - j))) μ2) : XE X F δ μ (.BinOp a .Sub b pos) Q :=
  xe_op op_sub rI0_mono (h.mono fun _ _ h => h.mono fun _ _ ⟨i, j, e1, e2, q⟩ => by subst e1 e2; exact opd_I0 q)
theorem xe_mul (h : XE X F δ μ a fun ra μ1 => XE X F δ μ1 b fun rb μ2 => ∃ i j, ra = .d (.int i) ∧ rb = .d (.int j) ∧ CMul i j ∧ Q (.d (.int (i * j))) μ2) : XE X F δ μ (.BinOp a .Mult b pos) Q :=
  xe_op op_mul rI_mono (h.mono fun _ _ h => h.mono fun _ _ ⟨i, j, e1, e2, c, q⟩ => by subst e1 e2; exact opd_I c q)
theorem xe_fdiv (h : XE X F δ μ a fun ra μ1 => XE X F δ μ1 b fun rb μ2 => ∃ i j, ra = .d (.int i) ∧ rb = .d (.int j) ∧ CDiv i j ∧ Q (.d (.int (i / j))) μ2) : XE X F δ μ (.BinOp a .FloorDiv b pos) Q :=
  xe_op op_fdiv rI_mono (h.mono fun _ _ h => h.mono fun _ _ ⟨i, j, e1, e2, c, q⟩ => by subst e1 e2; exact opd_I c q)
theorem xe_mod (h : XE X F δ μ a fun ra μ1 => XE X F δ μ1 b fun rb μ2 => ∃ i j, ra = .d (.int i) ∧ rb = .d (.int j) ∧ 0 < j ∧ Q (.d (.int (i % j))) μ2) : XE X F δ μ (.BinOp a .Mod b pos) Q :=
  xe_op op_mod rI_mono (h.mono fun _ _ h => h.mono fun _ _ ⟨i, j, e1, e2, c, q⟩ => by subst e1 e2; exact opd_I (C := fun _ j => 0 < j) c q)
theorem xe_pow (h : XE X F δ μ a fun ra μ1 => XE X F δ μ1 b fun rb μ2 => ∃ i j, ra = .d (.int i) ∧ rb = .d (.int j) ∧ CPow i j ∧ Q (.d (.int (i ^ j.toNat))) μ2) : XE X F δ μ (.BinOp a .Pow b pos) Q :=
  xe_op op_pow rI_mono (h.mono fun _ _ h => h.mono fun _ _ ⟨i, j, e1, e2, c, q⟩ => by subst e1 e2; exact opd_I c q)
theorem xe_neg (h : XE X F δ μ a fun ra μ1 => ∃ i, ra = .d (.int i) ∧ Q (.d (.int (-i))) μ1) : XE X F δ μ (.UnaryOp .USub a pos) Q := fun σ H lo ow fk =>
  we_of (pe_un un_neg pe_w) (h.run lo ow fk fun v H' r μ' t _ h1 h2 h3 ⟨i, e, q⟩ => by
    subst e
    cases h1 with
    | d h1 => cases h1; exact ⟨i, rfl, t, _, μ', .d (.int _), h2, h3, q⟩)
/-- <, <=, >, >= of whole numbers: R tells which -/
theorem xe_lt (h : XE X F δ μ a fun ra μ1 => XE X F δ μ1 b fun rb μ2 => ∃ i j, ra = .d (.int i) ∧ rb = .d (.int j) ∧ Q (.d (.bool (decide (i < j)))) μ2) : XE X F δ μ (.Compare a [.Lt] [b] pos) Q :=
  xe_cmp op_lt rI0_mono (nomark _) (h.mono fun _ _ h => h.mono fun _ _ ⟨i, j, e1, e2, q⟩ => by subst e1 e2; exact opd_B0 q)
theorem xe_gt (h : XE X F δ μ a fun ra μ1 => XE X F δ μ1 b fun rb μ2 => ∃ i j, ra = .d (.int i) ∧ rb = .d (.int j) ∧ Q (.d (.bool (decide (j < i)))) μ2) : XE X F δ μ (.Compare a [.Gt] [b] pos) Q :=
  xe_cmp op_gt rI0_mono (nomark _) (h.mono fun _ _ h => h.mono fun _ _ ⟨i, j, e1, e2, q⟩ => by subst e1 e2; exact opd_B0 q)
theorem xe_ge (h : XE X F δ μ a fun ra μ1 => XE X F δ μ1 b fun rb μ2 => ∃ i j, ra = .d (.int i) ∧ rb = .d (.int j) ∧ Q (.d (.bool (decide (j ≤ i)))) μ2) : XE X F δ μ (.Compare a [.GtE] [b] pos) Q :=
  xe_cmp op_ge rI0_mono (nomark _) (h.mono fun _ _ h => h.mono fun _ _ ⟨i, j, e1, e2, q⟩ => by subst e1 e2; exact opd_B0 q)
theorem xe_le (h : XE X F δ μ a fun ra μ1 => XE X F δ μ1 b fun rb μ2 => ∃ i j, ra = .d (.int i) ∧ rb = .d (.int j) ∧ Q (.d (.bool (decide (i ≤ j)))) μ2) : XE X F δ μ (.Compare a [.LtE] [b] pos) Q :=
  xe_cmp op_le rI0_mono (nomark _) (h.mono fun _ _ h => h.mono fun _ _ ⟨i, j, e1, e2, q⟩ => by subst e1 e2; exact opd_B0 q)
/-- a <= b <= c -/
theorem xe_le2 (h : XE X F δ μ a fun ra μ1 => XE X F δ μ1 b fun rb μ2 => ∃ i j, ra = .d (.int i) ∧ rb = .d (.int j) ∧ (i ≤ j → XE X F δ μ2 c fun rc μ3 => ∃ k, rc = .d (.int k) ∧ Q (.d (.bool (decide (j ≤ k)))) μ3) ∧ (¬ i ≤ j → Q (.d (.bool false)) μ2))
    (hm : lastMarks [CmpOp.LtE, CmpOp.LtE] [b, c] = false := by with_unfolding_all rfl) : XE X F δ μ (.Compare a [.LtE, .LtE] [b, c] pos) Q := fun σ H lo ow fk =>
  we_of (pe_chain op_le op_le pe_w pe_w pe_w hm) (h.run lo ow fk fun x H1 ra μ1 t1 lo1 r1 ow1 fk1 q1 => q1.run lo1 ow1 fk1 fun y H2 rb μ2 t2 lo2 r2 ow2 fk2 ⟨i, j, e1, e2, q3, q4⟩ => by
    subst e1 e2
    cases r1 with
    | d r1 =>
      cases r1
      cases r2 with
      | d r2 =>
        cases r2
        refine ⟨i, j, rfl, rfl, _, rfl, ?_⟩
        by_cases hc : i ≤ j
        · rw [decide_eq_true hc, if_pos rfl]
          exact (q3 hc).run lo2 ow2 fk2 fun z H3 rc μ3 t3 _ r3 ow3 fk3 ⟨k, e3, q⟩ => by
            subst e3
            cases r3 with
            | d r3 => cases r3; exact ⟨j, k, rfl, rfl, (t1.trans t2).trans t3, _, μ3, .d (.bl _), ow3, fk3, q⟩
        · rw [decide_eq_false hc, if_neg Bool.false_ne_true]
          exact ⟨t1.trans t2, _, μ2, .d (.bl _), ow2, fk2, q4 hc⟩)

/-! ### ==, in -/
theorem eqD_mono {K : PySem.W.Frag} : ∀ x y H (Q Q' : VK), (∀ v H', Q v H' → Q' v H') → rEqD K x y H Q → rEqD K x y H Q' := fun _ _ _ _ _ k ⟨d, e, h1, h2, h3, h4, q⟩ => ⟨d, e, h1, h2, h3, h4, k _ _ q⟩
theorem neD_mono {K : PySem.W.Frag} : ∀ x y H (Q Q' : VK), (∀ v H', Q v H' → Q' v H') → rNeD K x y H Q → rNeD K x y H Q' := fun _ _ _ _ _ k ⟨d, e, h1, h2, h3, h4, q⟩ => ⟨d, e, h1, h2, h3, h4, k _ _ q⟩
theorem xe_eq {k : Nat} (hr : Room k X.A) (h : XE X F δ μ a fun ra μ1 => XE X F δ μ1 b fun rb μ2 => ∃ d e, Dd μ2 ra d ∧ Dd μ2 rb e ∧ SeqAt.shaped d = true ∧ SeqAt.shaped e = true ∧ Q (.d (.bool (PyData.eqv d e))) μ2) : XE X F δ μ (.Compare a [.Eq] [b] pos) Q :=
  xe_cmp (op_eqD hr.units) eqD_mono (nomark _) (h.mono fun _ _ h => h.mono fun _ _ ⟨d, e, h1, h2, h3, h4, q⟩ => fun x y H hx hy w f => ⟨d, e, h1.dp hx w, h2.dp hy w, h3, h4, pe_fin (.d (.bl _)) w f q⟩)
theorem xe_ne {k : Nat} (hr : Room k X.A) (h : XE X F δ μ a fun ra μ1 => XE X F δ μ1 b fun rb μ2 => ∃ d e, Dd μ2 ra d ∧ Dd μ2 rb e ∧ SeqAt.shaped d = true ∧ SeqAt.shaped e = true ∧ Q (.d (.bool (!PyData.eqv d e))) μ2) : XE X F δ μ (.Compare a [.NotEq] [b] pos) Q :=
  xe_cmp (op_neD hr.units) neD_mono (nomark _) (h.mono fun _ _ h => h.mono fun _ _ ⟨d, e, h1, h2, h3, h4, q⟩ => fun x y H hx hy w f => ⟨d, e, h1.dp hx w, h2.dp hy w, h3, h4, pe_fin (.d (.bl _)) w f q⟩)
/-- a == b == c -/
theorem xe_eq2 {k : Nat} (hr : Room k X.A) (h : XE X F δ μ a fun ra μ1 => XE X F δ μ1 b fun rb μ2 => ∃ d e, Dd μ2 ra d ∧ Dd μ2 rb e ∧ SeqAt.shaped d = true ∧ SeqAt.shaped e = true ∧
      (PyData.eqv d e = true → XE X F δ μ2 c fun rc μ3 => ∃ g, Dd μ3 rb e ∧ Dd μ3 rc g ∧ SeqAt.shaped g = true ∧ Q (.d (.bool (PyData.eqv e g))) μ3) ∧ (PyData.eqv d e = false → Q (.d (.bool false)) μ2))
    (hm : lastMarks [CmpOp.Eq, CmpOp.Eq] [b, c] = false := by with_unfolding_all rfl) : XE X F δ μ (.Compare a [.Eq, .Eq] [b, c] pos) Q := fun σ H lo ow fk =>
  we_of (pe_chain (op_eqD hr.units) (op_eqD hr.units) pe_w pe_w pe_w hm) (h.run lo ow fk fun x H1 ra μ1 t1 lo1 r1 ow1 fk1 q1 => q1.run lo1 ow1 fk1 fun y H2 rb μ2 t2 lo2 r2 ow2 fk2 ⟨d, e, h1, h2, h3, h4, q3, q4⟩ => by
    refine ⟨d, e, h1.dp (r1.keep t2) ow2, h2.dp r2 ow2, h3, h4, _, rfl, ?_⟩
    cases hc : PyData.eqv d e with
    | true =>
      rw [if_pos rfl]
      exact (q3 hc).run lo2 ow2 fk2 fun z H3 rc μ3 t3 _ r3 ow3 fk3 ⟨g, g1, g2, g3, q⟩ => ⟨e, g, g1.dp (r2.keep t3) ow3, g2.dp r3 ow3, h4, g3, (t1.trans t2).trans t3, _, μ3, .d (.bl _), ow3, fk3, q⟩
    | false =>
      rw [if_neg Bool.false_ne_true]
      exact ⟨t1.trans t2, _, μ2, .d (.bl _), ow2, fk2, q4 hc⟩)
/-- is None, is not None -/
theorem xe_isN {j pos'} (h : XE X F δ μ a fun ra μ1 => (∃ d, ra = .d d ∧ Q (.d (.bool (match d with | .none => true | _ => false))) μ1) ∨ ∃ p, ra = .r (.ref p) ∧ Q (.d (.bool false)) μ1) : XE X F δ μ (.Compare a [.Is] [.Constant .none j pos'] pos) Q := fun σ H lo ow fk =>
  we_of (pe_cmp (pc_isN pe_w) rfl) (h.run lo ow fk fun v H' r μ' t _ h1 h2 h3 q => by
    rcases q with ⟨d, e, q⟩ | ⟨p, e, q⟩
    · subst e
      cases h1 with
      | d h1 => cases h1 <;> exact ⟨t, _, μ', .d (.bl _), h2, h3, q⟩
    · subst e
      cases h1
      exact ⟨t, _, μ', .d (.bl _), h2, h3, q⟩)
theorem xe_notN {j pos'} (h : XE X F δ μ a fun ra μ1 => (∃ d, ra = .d d ∧ Q (.d (.bool (match d with | .none => false | _ => true))) μ1) ∨ ∃ p, ra = .r (.ref p) ∧ Q (.d (.bool true)) μ1) : XE X F δ μ (.Compare a [.IsNot] [.Constant .none j pos'] pos) Q := fun σ H lo ow fk =>
  we_of (pe_cmp (pc_notN pe_w) rfl) (h.run lo ow fk fun v H' r μ' t _ h1 h2 h3 q => by
    rcases q with ⟨d, e, q⟩ | ⟨p, e, q⟩
    · subst e
      cases h1 with
      | d h1 => cases h1 <;> exact ⟨t, _, μ', .d (.bl _), h2, h3, q⟩
    · subst e
      cases h1
      exact ⟨t, _, μ', .d (.bl _), h2, h3, q⟩)
/-- in a tuple or list of data -/
def rInDT (K : PySem.W.Frag) (neg : Bool) : R2 := fun x y H Q => ∃ d ds, Dp K H x d ∧ (Dp K H y (.tuple ds) ∨ Dp K H y (.list ds)) ∧ SeqAt.shaped d = true ∧ SeqAt.shaped (.tuple ds) = true ∧ Q (.bl (if neg then !(ds.any fun z => PyData.eqv z d) else ds.any fun z => PyData.eqv z d)) H
theorem inDT_mono {K : PySem.W.Frag} {neg : Bool} : ∀ x y H (Q Q' : VK), (∀ v H', Q v H' → Q' v H') → rInDT K neg x y H Q → rInDT K neg x y H Q' := fun _ _ _ _ _ k ⟨d, e, h1, h2, h3, h4, q⟩ => ⟨d, e, h1, h2, h3, h4, k _ _ q⟩
theorem op_inDT (hu : X.A.units + 65 < cLine) : OpR X (compareOp .In) (rInDT X.K false) := by
  intro pins s σ H x y v u Q I rx ry h
  obtain ⟨d, ds, hd, he, sd, se, q⟩ := h
  obtain ⟨as, r1⟩ := Dp.reads I d x v hd rx
  have hc : PyData.canLayAll0 ds = true := SeqAt.canLay_of_shaped se
  rcases he with he | he
  · obtain ⟨bs, r2⟩ := Dp.reads I (.tuple ds) y u he ry
    exact SeqAt.in_tuple_reads r2 r1 hc (SeqAt.canLay_of_shaped sd) (room_in_shaped sd hu) ⟨.bl _, H, I, rfl, q⟩
  · obtain ⟨bs, r2⟩ := Dp.reads I (.list ds) y u he ry
    exact SeqAt.in_list_reads r2 r1 hc (SeqAt.canLay_of_shaped sd) (room_in_shaped sd hu) ⟨.bl _, H, I, rfl, q⟩
theorem op_notInDT (hu : X.A.units + 65 < cLine) : OpR X (compareOp .NotIn) (rInDT X.K true) := by
  intro pins s σ H x y v u Q I rx ry h
  obtain ⟨d, ds, hd, he, sd, se, q⟩ := h
  obtain ⟨as, r1⟩ := Dp.reads I d x v hd rx
  have hc : PyData.canLayAll0 ds = true := SeqAt.canLay_of_shaped se
  rcases he with he | he
  · obtain ⟨bs, r2⟩ := Dp.reads I (.tuple ds) y u he ry
    exact SeqAt.notIn_tuple_reads r2 r1 hc (SeqAt.canLay_of_shaped sd) (room_in_shaped sd hu) ⟨.bl _, H, I, rfl, q⟩
  · obtain ⟨bs, r2⟩ := Dp.reads I (.list ds) y u he ry
    exact SeqAt.notIn_list_reads r2 r1 hc (SeqAt.canLay_of_shaped sd) (room_in_shaped sd hu) ⟨.bl _, H, I, rfl, q⟩
theorem hu65 {k : Nat} (hr : Room k X.A) : X.A.units + 65 < cLine := by have := hr.un; omega
/-- what in takes on the right -/
inductive Dq (μ : Mu) : Rv → List PyData → Prop
  | tup (ds : List PyData) : Dq μ (.d (.tuple ds)) ds
  | lst {p : Addr} {ds : List PyData} (h : (p, Ob.lst (ds.map Rv.d)) ∈ μ) : Dq μ (.r (.ref p)) ds
theorem Dq.dp {K : PySem.W.Frag} {H : Hp} {μ : Mu} {r : Rv} {ds : List PyData} {v : V} (h : Dq μ r ds) (hr : Rk K H v r) (w : Ow K H μ) : Dp K H v (.tuple ds) ∨ Dp K H v (.list ds) := by
  cases h with
  | tup ds => exact .inl ((Dd.d (μ := μ) _).dp hr w)
  | lst h => exact .inr ((Dd.lst h).dp hr w)
theorem xe_in {k : Nat} (hr : Room k X.A) (hm : behindInMarks .In b = false) (h : XE X F δ μ a fun ra μ1 => XE X F δ μ1 b fun rb μ2 => ∃ d ds, Dd μ2 ra d ∧ Dq μ2 rb ds ∧ SeqAt.shaped d = true ∧ SeqAt.shaped (.tuple ds) = true ∧ Q (.d (.bool (ds.any fun z => PyData.eqv z d))) μ2) :
    XE X F δ μ (.Compare a [.In] [b] pos) Q :=
  xe_cmp (op_inDT (hu65 hr)) inDT_mono hm (h.mono fun _ _ h => h.mono fun _ _ ⟨d, ds, h1, h2, h3, h4, q⟩ => fun x y H hx hy w f => ⟨d, ds, h1.dp hx w, h2.dp hy w, h3, h4, pe_fin (.d (.bl _)) w f q⟩)
theorem xe_notin {k : Nat} (hr : Room k X.A) (hm : behindInMarks .NotIn b = false) (h : XE X F δ μ a fun ra μ1 => XE X F δ μ1 b fun rb μ2 => ∃ d ds, Dd μ2 ra d ∧ Dq μ2 rb ds ∧ SeqAt.shaped d = true ∧ SeqAt.shaped (.tuple ds) = true ∧ Q (.d (.bool (!ds.any fun z => PyData.eqv z d))) μ2) :
    XE X F δ μ (.Compare a [.NotIn] [b] pos) Q :=
  xe_cmp (op_notInDT (hu65 hr)) inDT_mono hm (h.mono fun _ _ h => h.mono fun _ _ ⟨d, ds, h1, h2, h3, h4, q⟩ => fun x y H hx hy w f => ⟨d, ds, h1.dp hx w, h2.dp hy w, h3, h4, pe_fin (.d (.bl _)) w f q⟩)
/-- a sign in a text -/
theorem xe_inS (hm : behindInMarks .In b = false) (h : XE X F δ μ a fun ra μ1 => XE X F δ μ1 b fun rb μ2 => ∃ (c : Nat) (z : Str), ra = .d (.str ⟨#[c]⟩) ∧ rb = .d (.str z) ∧ Q (.d (.bool (decide (c ∈ z.cps.toList)))) μ2) : XE X F δ μ (.Compare a [.In] [b] pos) Q :=
  xe_cmp op_in_sign (fun _ _ _ _ _ k ⟨c, z, e1, e2, q⟩ => ⟨c, z, e1, e2, k _ _ q⟩) hm (h.mono fun _ _ h => h.mono fun _ _ ⟨c, z, e1, e2, q⟩ => fun x y H hx hy w f => by
    subst e1 e2
    cases hx with
    | d hx => cases hx; cases hy with
      | d hy => cases hy; exact ⟨c, z, rfl, rfl, pe_fin (.d (.bl _)) w f q⟩)

/-! ### subscripts -/
theorem xe_ix (h : XE X F δ μ a fun ra μ1 => XE X F δ μ1 b fun rb μ2 => ∃ xs n x, Sq μ2 ra xs ∧ rb = .d (.int n) ∧ atI xs n = some x ∧ Q x μ2) (hs : PlainIx b := by exact fun _ _ => rfl) : XE X F δ μ (.Subscript a b pos) Q := fun σ H lo ow fk =>
  we_of (pe_ix (ix_list.or ix_tup) pe_w pe_w hs) (h.run lo ow fk fun x H1 ra μ1 t1 lo1 r1 ow1 fk1 q1 => q1.run lo1 ow1 fk1 fun y H2 rb μ2 t2 _ r2 ow2 fk2 ⟨xs, n, z, h1, e, h2, q⟩ => by
    subst e
    cases r2 with
    | d r2 =>
      cases r2
      obtain ⟨p, vs, rfl, hq, hv⟩ := h1.at_ (r1.keep t2) ow2
      obtain ⟨j, hj⟩ : ∃ j, ixN xs.length n = some j ∧ xs[j]? = some z := by
        unfold atI at h2
        cases e : ixN xs.length n with
        | none => rw [e] at h2; cases h2
        | some j => rw [e] at h2; exact ⟨j, rfl, h2⟩
      obtain ⟨v, hv1, hv2⟩ := hv.get hj.2
      have ha : atI vs n = some v := by
        unfold atI
        rw [hv.length, hj.1]
        exact hv1
      have fin : Pe X.K F H Q v H2 := ⟨t1.trans t2, z, μ2, hv2, ow2, fk2, q⟩
      rcases hq with hq | hq
      · exact .inl ⟨p, vs, n, v, rfl, rfl, hq, ha, fin⟩
      · exact .inr ⟨p, vs, n, v, rfl, rfl, hq, ha, fin⟩)
/-- a text's sign -/
theorem xe_ixS (h : XE X F δ μ a fun ra μ1 => XE X F δ μ1 b fun rb μ2 => ∃ (z : Str) (n : Int) (c : Nat), ra = .d (.str z) ∧ rb = .d (.int n) ∧ z.length ≤ 100000 ∧ atI z.cps.toList n = some c ∧ Q (.d (.str ⟨#[c]⟩)) μ2) (hs : PlainIx b := by exact fun _ _ => rfl) : XE X F δ μ (.Subscript a b pos) Q := fun σ H lo ow fk =>
  we_of (pe_ix ix_str pe_w pe_w hs) (h.run lo ow fk fun x H1 ra μ1 t1 lo1 r1 ow1 fk1 q1 => q1.run lo1 ow1 fk1 fun y H2 rb μ2 t2 _ r2 ow2 fk2 ⟨z, n, c, e1, e2, h1, h2, q⟩ => by
    subst e1 e2
    cases r1 with
    | d r1 => cases r1; cases r2 with
      | d r2 => cases r2; exact ⟨z, n, c, rfl, rfl, sz_of h1, h2, t1.trans t2, _, μ2, .d (.str _), ow2, fk2, q⟩)

/-! ### built-ins -/
def CaD (K : PySem.W.Frag) (F : Fm) (r : List V → Hp → VK → Prop) (rs : List Rv) (μ : Mu) (Q : Rv → Mu → Prop) : Prop := ∀ vs H, Rks K H vs rs → Ow K H μ → Fk F H μ → r vs H (Pe K F H Q)
variable {r1 : List V → Hp → VK → Prop} {nid T : String} {x : Str}
theorem xe_callB (hc : CallR X (.builtin nid) r1) (mono : ∀ vs H (Q Q' : VK), (∀ v H', Q v H' → Q' v H') → r1 vs H Q → r1 vs H Q') (hm : X.mg x = none) (hv : bootBuiltins x = some (.builtin nid)) (h : XA X F δ μ (e :: es) fun rs μ1 => CaD X.K F r1 rs μ1 Q) (hg : Gl X x := by rfl) (hn : x ≠ "__name__" := by decide) (hdb : (x == ("__debug__" : Str)) = false := by decide)
    (he : starEach (e :: es) X.env = (false, eval e X.env) :: starEach es X.env := by rfl) (hpl : (backTo pos (starEach es X.env)).any (·.1) = false := by rfl) : XE X F δ μ (.Call (.Name x p) (e :: es) [] pos) Q := fun σ H lo ow fk =>
  we_of (pe_callB hc hg hm hv pa_w hn hdb he hpl) (h.run lo ow fk fun vs H1 rs μ1 t1 _ r ow1 fk1 q => mono _ _ _ _ (Pe.back t1) (q vs H1 r ow1 fk1))
theorem xe_callTy (hc : CallR X (.type T) r1) (mono : ∀ vs H (Q Q' : VK), (∀ v H', Q v H' → Q' v H') → r1 vs H Q → r1 vs H Q') (hm : X.mg x = none) (hv : bootBuiltins x = some (.type T)) (h : XA X F δ μ (e :: es) fun rs μ1 => CaD X.K F r1 rs μ1 Q) (hg : Gl X x := by rfl) (hn : x ≠ "__name__" := by decide) (hdb : (x == ("__debug__" : Str)) = false := by decide)
    (he : starEach (e :: es) X.env = (false, eval e X.env) :: starEach es X.env := by rfl) (hpl : (backTo pos (starEach es X.env)).any (·.1) = false := by rfl) : XE X F δ μ (.Call (.Name x p) (e :: es) [] pos) Q := fun σ H lo ow fk =>
  we_of (pe_callTy hc hg hm hv pa_w hn hdb he hpl) (h.run lo ow fk fun vs H1 rs μ1 t1 _ r ow1 fk1 q => mono _ _ _ _ (Pe.back t1) (q vs H1 r ow1 fk1))
/-- len -/
theorem xe_len (hm : X.mg "len" = none) (h : XA X F δ μ [e] fun rs μ1 => (∃ ra xs, rs = [ra] ∧ Sq μ1 ra xs ∧ Q (.d (.int xs.length)) μ1) ∨ ∃ z : Str, rs = [.d (.str z)] ∧ z.length ≤ 100000 ∧ Q (.d (.int z.length)) μ1) (hg : Gl X "len" := by rfl) (he : starEach [e] X.env = (false, eval e X.env) :: starEach [] X.env := by rfl) : XE X F δ μ (.Call (.Name "len" p) [e] [] pos) Q :=
  xe_callB (call_len_seq.or call_len_str) (fun _ _ _ _ k q => by
    rcases q with ⟨p, ys, e, h, q⟩ | ⟨z, e, h, q⟩
    · exact .inl ⟨p, ys, e, h, k _ _ q⟩
    · exact .inr ⟨z, e, h, k _ _ q⟩) hm boot_len (fun σ H lo ow fk => h.run lo ow fk fun vs H1 rs μ1 t1 _ r ow1 fk1 q => ⟨t1, rs, μ1, r, ow1, fk1, fun vs' H' r' w f => by
    rcases q with ⟨ra, xs, e, h, q⟩ | ⟨z, e, h, q⟩
    · subst e
      cases r' with
      | cons r1 r2 =>
        cases r2
        obtain ⟨p, ws, rfl, hq, hv⟩ := h.at_ r1 w
        exact .inl ⟨p, ws, rfl, hq, by rw [hv.length]; exact pe_fin (.d (.int _)) w f q⟩
    · subst e
      cases r' with
      | cons r1 r2 =>
        cases r2
        cases r1 with
        | d r1 => cases r1; exact .inr ⟨z, rfl, sz_of h, pe_fin (.d (.int _)) w f q⟩⟩) hg (by decide) (by decide) he rfl
/-- a value's type -/
def tyD : Rv → Option String
  | .d .none => some "NoneType"
  | .d (.bool _) => some "bool"
  | .d (.int _) => some "int"
  | .d (.str _) => some "str"
  | .d (.tuple _) => some "tuple"
  | .t _ => some "tuple"
  | _ => none
theorem tyD_ok {K : PySem.W.Frag} {H : Hp} {v : V} {r : Rv} {t : String} (h : tyD r = some t) (hr : Rk K H v r) : TyX K H v (.type t) := by
  have tup : ∀ {a : Addr} {xs : List V}, SqT K H a xs → TyX K H (.ref a) (.type "tuple") := fun h => by
    rcases h with (h | ⟨o, h⟩) | ⟨o, its, n, h, c, _⟩
    · exact .base (.tup h)
    · exact .fTuple h
    · exact .kTuple h c
  cases hr with
  | d hr => cases hr with
    | non => cases h; exact .base .non
    | bl b => cases h; exact .base (.bl b)
    | int i => cases h; exact .base (.int i)
    | str x => cases h; exact .base (.str x)
    | tup hq _ => cases h; exact tup hq.sq
  | r v => cases h
  | t hq _ => cases h; exact tup hq.sq
  | z hq _ => cases h
theorem xe_isi {n : Str} {p2 : Pos} (hm : X.mg "isinstance" = none) (hm2 : X.mg n = none) (hv2 : bootBuiltins n = some (.type T)) (h : XE X F δ μ e fun ra μ1 => ∃ t bb, tyD ra = some t ∧ kitB t T = some bb ∧ Q (.d (.bool bb)) μ1) (hg : Gl X "isinstance" := by rfl) (hg2 : Gl X n := by rfl)
    (hn2 : n ≠ "__name__" := by decide) (hdb2 : (n == ("__debug__" : Str)) = false := by decide) (he : starEach [e, .Name n p2] X.env = (false, eval e X.env) :: starEach [.Name n p2] X.env := by rfl) (he2 : starEach [.Name n p2] X.env = (false, eval (.Name n p2) X.env) :: starEach [] X.env := by rfl)
    (hpl : (backTo pos (starEach [Expr.Name n p2] X.env)).any (·.1) = false := by rfl) : XE X F δ μ (.Call (.Name "isinstance" p) [e, .Name n p2] [] pos) Q := fun σ H lo ow fk =>
  we_of (pe_callB call_isi hg hm (by decide +kernel) (pa_cons pe_w (pa_cons (pe_bltn (v := .ty T) hg2 hm2 hv2 rfl hn2 hdb2) pa_nil he2) he) (by decide) (by decide) he hpl) (h.run lo ow fk fun v H1 ra μ1 t1 _ r ow1 fk1 ⟨t, bb, h1, h2, q⟩ =>
    ⟨v, .ty T, .type t, .type T, bb, rfl, .ty T, tyD_ok h1 r, kit_ty h2, t1, _, μ1, .d (.bl _), ow1, fk1, q⟩)
theorem xe_all (hm : X.mg "all" = none) (h : XA X F δ μ [e] fun rs μ1 => ∃ (p : Addr) (bs : List Bool), rs = [.r (.ref p)] ∧ (p, Ob.lst (bs.map fun b => Rv.d (.bool b))) ∈ μ1 ∧ Q (.d (.bool (bs.all id))) μ1) (hc : X.calm = true := by rfl) (hg : Gl X "all" := by rfl) (he : starEach [e] X.env = (false, eval e X.env) :: starEach [] X.env := by rfl) : XE X F δ μ (.Call (.Name "all" p) [e] [] pos) Q :=
  xe_callB (cr_all hc) (fun _ _ _ _ k ⟨a, bs, e, h, q⟩ => ⟨a, bs, e, h, k _ _ q⟩) hm (by decide +kernel) (fun σ H lo ow fk => h.run lo ow fk fun vs H1 rs μ1 t1 _ r ow1 fk1 ⟨p, bs, e, hp, q⟩ => ⟨t1, rs, μ1, r, ow1, fk1, fun vs' H' r' w f => by
    subst e
    cases r' with
    | cons r1 r2 =>
      cases r2
      cases r1
      obtain ⟨ws, h1, h2⟩ := w _ hp
      refine ⟨p, bs, rfl, ?_, pe_fin (.d (.bl _)) w f q⟩
      rw [← rks_bools h2]
      exact SqL.of h1⟩) hg (by decide) (by decide) he rfl
theorem xe_any (hm : X.mg "any" = none) (h : XA X F δ μ [e] fun rs μ1 => ∃ (p : Addr) (bs : List Bool), rs = [.r (.ref p)] ∧ (p, Ob.lst (bs.map fun b => Rv.d (.bool b))) ∈ μ1 ∧ Q (.d (.bool (bs.any id))) μ1) (hc : X.calm = true := by rfl) (hg : Gl X "any" := by rfl) (he : starEach [e] X.env = (false, eval e X.env) :: starEach [] X.env := by rfl) : XE X F δ μ (.Call (.Name "any" p) [e] [] pos) Q :=
  xe_callB (cr_any hc) (fun _ _ _ _ k ⟨a, bs, e, h, q⟩ => ⟨a, bs, e, h, k _ _ q⟩) hm (by decide +kernel) (fun σ H lo ow fk => h.run lo ow fk fun vs H1 rs μ1 t1 _ r ow1 fk1 ⟨p, bs, e, hp, q⟩ => ⟨t1, rs, μ1, r, ow1, fk1, fun vs' H' r' w f => by
    subst e
    cases r' with
    | cons r1 r2 =>
      cases r2
      cases r1
      obtain ⟨ws, h1, h2⟩ := w _ hp
      refine ⟨p, bs, rfl, ?_, pe_fin (.d (.bl _)) w f q⟩
      rw [← rks_bools h2]
      exact SqL.of h1⟩) hg (by decide) (by decide) he rfl
theorem call_tupP : CallR X (.type "tuple") (fun xs H Q => ∃ p ys, xs = [.ref p] ∧ SqL X.K H p ys ∧ ∀ l o, H l = none → o.dict = none → Q (.ref l) (upd H l (.frz o (.tup ys)))) := by
  intro pins s σ H xs us Q I r h
  obtain ⟨p, ys, rfl, hq, q⟩ := h
  obtain ⟨u, rfl, rx⟩ := vals1 r
  cases rx
  obtain ⟨its, r', pl, hz⟩ := I.list hq
  have hlen := r'.length
  refine call_tuple_list pl.isList (fun h' kp => ?_) (by simp only [List.size_toArray] <;> omega)
  have I1 : Inv X pins σ H { s with heap := h' } := I.kept (t' := s.toks) kp
  have I2 := I1.laid (a := h'.objs.size) (o := .frz { cls := .type "tuple", data := .seq its.toArray } (.tup ys)) (h' := h'.push { cls := .type "tuple", data := .seq its.toArray }) (t' := s.toks) (fun b o e => Heap.get?_push_of_some _ e) (Nat.le_refl _)
    ⟨Heap.get?_push_size _ rfl, hz, its, r', IsTup.new _ _⟩
  exact ⟨.ref h'.objs.size, _, I2, rfl, q _ _ (I1.hok.fresh (Nat.le_refl _)) rfl⟩
/-- tuple(a list) -/
theorem xe_tupleL (hm : X.mg "tuple" = none) (h : XA X F δ μ [e] fun rs μ1 => ∃ p xs, rs = [.r (.ref p)] ∧ (p, Ob.lst xs) ∈ μ1 ∧ Q (.t xs) μ1) (hg : Gl X "tuple" := by rfl) (he : starEach [e] X.env = (false, eval e X.env) :: starEach [] X.env := by rfl) : XE X F δ μ (.Call (.Name "tuple" p) [e] [] pos) Q :=
  xe_callTy call_tupP (fun _ _ _ _ k ⟨p, ys, e, h, q⟩ => ⟨p, ys, e, h, fun l o hl ho => k _ _ (q l o hl ho)⟩) hm (by decide +kernel) (fun σ H lo ow fk => h.run lo ow fk fun vs H1 rs μ1 t1 _ r ow1 fk1 ⟨p, xs, e, hp, q⟩ => ⟨t1, rs, μ1, r, ow1, fk1, fun vs' H' r' w f => by
    subst e
    cases r' with
    | cons r1 r2 =>
      cases r2
      cases r1
      obtain ⟨ws, h1, h2⟩ := w _ hp
      exact ⟨p, ws, rfl, SqL.of h1, fun l o hl ho => pe_new hl (.t (SqP.of upd_same ho) (h2.keep (TK.new hl _))) w f q⟩⟩) hg (by decide) (by decide) he rfl
theorem xe_tupleD (hm : X.mg "tuple" = none) (h : XA X F δ μ [e] fun rs μ1 => ∃ (p : Addr) (ds : List PyData), rs = [.r (.ref p)] ∧ (p, Ob.lst (ds.map Rv.d)) ∈ μ1 ∧ Q (.d (.tuple ds)) μ1) (hg : Gl X "tuple" := by rfl) (he : starEach [e] X.env = (false, eval e X.env) :: starEach [] X.env := by rfl) : XE X F δ μ (.Call (.Name "tuple" p) [e] [] pos) Q :=
  (xe_tupleL (Q := fun r μ' => ∃ ds : List PyData, r = .t (ds.map Rv.d) ∧ Q (.d (.tuple ds)) μ') hm (fun σ H lo ow fk => h.run lo ow fk fun vs H1 rs μ1 t1 _ r ow1 fk1 ⟨p, ds, e, hp, q⟩ => ⟨t1, rs, μ1, r, ow1, fk1, p, _, e, hp, ds, rfl, q⟩) hg he).data
/-- list(a list or tuple) -/
theorem xe_listOf (hm : X.mg "list" = none) (h : XA X F δ μ [e] fun rs μ1 => ∃ ra xs, rs = [ra] ∧ Sq μ1 ra xs ∧ ∀ p, Q (.r (.ref p)) ((p, .lst xs) :: μ1)) (hg : Gl X "list" := by rfl) (he : starEach [e] X.env = (false, eval e X.env) :: starEach [] X.env := by rfl) : XE X F δ μ (.Call (.Name "list" p) [e] [] pos) Q :=
  xe_callTy call_list_of (fun _ _ _ _ k ⟨p, ys, e, h, q⟩ => ⟨p, ys, e, h, fun l hl => k _ _ (q l hl)⟩) hm (by decide +kernel) (fun σ H lo ow fk => h.run lo ow fk fun vs H1 rs μ1 t1 _ r ow1 fk1 ⟨ra, xs, e, hs, q⟩ => ⟨t1, rs, μ1, r, ow1, fk1, fun vs' H' r' w f => by
    subst e
    cases r' with
    | cons r1 r2 =>
      cases r2
      obtain ⟨p, ws, rfl, hq, hv⟩ := hs.at_ r1 w
      exact ⟨p, ws, rfl, hq, fun l hl => pe_newO (ob := .lst xs) hl ⟨ws, upd_same, hv.keep (TK.new hl _)⟩ w f (q l)⟩⟩) hg (by decide) (by decide) he rfl
end
end Ds

/-! text Ds4 -/
/-! Code over data: what is walked, comprehensions, loops. -/
namespace Ds
open PySem PySem.Spec PyProof.Rows L2

def WI (X : Cx) (tg iter : Expr) : TI := fun σ H R => ∀ (pins : List (Addr × Obj)) (s : Shared), Inv X pins σ H s → wpAny (model X.prog X.w) X.A (eval iter X.env) (fun v s1 => wpAny (model X.prog X.w) X.A (pyIter v) (PIE X pins σ tg R) X.xe s1) X.xe s
theorem pi_w {X : Cx} {tg iter : Expr} : PI X tg iter (WI X tg iter) := ⟨fun pins s _ _ _ I h => h pins s I⟩
theorem wi_of {X : Cx} {tg iter : Expr} {wi : TI} {σ : L2.St} {H : Hp} {R : It → Hp → Prop} (h : PI X tg iter wi) (q : wi σ H R) : WI X tg iter σ H R := fun pins s I => h.run pins s σ H R I q
/-- J yields these, as long as P holds of the heap; the heap only grows -/
structure Yd (K : PySem.W.Frag) (J : It) (P : Hp → Prop) (items : List Rv) : Prop where
  item : ∀ i H x, P H → items[i]? = some x → J.go i H ∧ ∀ v H', J.yld i H v H' → (∀ a o, H a = some o → H' a = some o) ∧ Rk K H' v x
  done : ∀ H, P H → J.stop items.length H
/-- iter yields items, as long as S holds of the objects -/
def XI (X : Cx) (F : Fm) (δ : De) (μ : Mu) (tg iter : Expr) (R : List Rv → (Mu → Prop) → Mu → Prop) : Prop := ∀ σ H, Lo X.K H σ δ → Ow X.K H μ → Fk F H μ →
  WI X tg iter σ H fun J H' => TK H H' ∧ ∃ items S μ', Ow X.K H' μ' ∧ Fk F H' μ' ∧ Yd X.K J (fun Hc => TK H' Hc ∧ ∃ μc, Ow X.K Hc μc ∧ S μc) items ∧ R items S μ'

section
variable {X : Cx} {F : Fm} {δ : De} {μ : Mu} {tg iter e a b : Expr} {p pos : Pos} {R : List Rv → (Mu → Prop) → Mu → Prop}
theorem Rks.items {K : PySem.W.Frag} {H : Hp} {vs : List V} {xs : List Rv} (h : Rks K H vs xs) {i : Nat} {x : Rv} (e : xs[i]? = some x) : ∃ v, vs[i]? = some v ∧ Rk K H v x := h.get e
theorem yd_tup {K : PySem.W.Frag} {H : Hp} {a : Addr} {vs : List V} {xs : List Rv} {S : Mu → Prop} (hq : SqT K H a vs) (hv : Rks K H vs xs) : Yd K (Itt K a) (fun Hc => TK H Hc ∧ ∃ μc, Ow K Hc μc ∧ S μc) xs where
  item := fun i Hc x ⟨t, _⟩ e => by
    obtain ⟨v, h1, h2⟩ := hv.get e
    exact ⟨⟨vs, v, t.sq hq, h1⟩, fun v' H' ⟨e1, e2⟩ => by
      subst e1
      have := e2 vs (t.sq hq)
      rw [h1] at this
      cases this
      exact ⟨fun _ _ h => h, h2.keep t⟩⟩
  done := fun Hc ⟨t, _⟩ => ⟨vs, t.sq hq, Nat.le_of_eq hv.length⟩
theorem yd_lst {K : PySem.W.Frag} {H : Hp} {a : Addr} {xs : List Rv} : Yd K (Itl K a) (fun Hc => TK H Hc ∧ ∃ μc, Ow K Hc μc ∧ (a, Ob.lst xs) ∈ μc) xs where
  item := fun i Hc x ⟨t, μc, w, hm⟩ e => by
    obtain ⟨vs, h1, hv⟩ := w _ hm
    obtain ⟨v, h3, h4⟩ := hv.get e
    exact ⟨⟨vs, v, SqL.of h1, h3⟩, fun v' H' ⟨e1, e2⟩ => by
      subst e1
      have := e2 vs (SqL.of h1)
      rw [h3] at this
      cases this
      exact ⟨fun _ _ h => h, h4⟩⟩
  done := fun Hc ⟨t, μc, w, hm⟩ => by
    obtain ⟨vs, h1, hv⟩ := w _ hm
    exact ⟨vs, SqL.of h1, Nat.le_of_eq hv.length⟩
def rngItems (lo : Int) (n : Nat) : List Rv := (List.range n).map fun (i : Nat) => Rv.d (.int (lo + i))
theorem rng_get {lo : Int} {n i : Nat} {x : Rv} (e : (rngItems lo n)[i]? = some x) : i < n ∧ x = .d (.int (lo + i)) := by
  unfold rngItems at e
  rw [List.getElem?_map] at e
  by_cases h : i < n
  · rw [List.getElem?_range h] at e
    exact ⟨h, by cases e; rfl⟩
  · rw [List.getElem?_eq_none (by simpa using h)] at e
    cases e
theorem yd_rng {K : PySem.W.Frag} {P : Hp → Prop} (lo : Int) (n : Nat) : Yd K (Itr lo n) P (rngItems lo n) where
  item := fun i Hc x _ e => by
    obtain ⟨h, rfl⟩ := rng_get e
    exact ⟨h, fun v H' ⟨e1, e2⟩ => by subst e1 e2; exact ⟨fun _ _ h => h, .d (.int _)⟩⟩
  done := fun Hc _ => by show n ≤ (rngItems lo n).length; simp [rngItems]
theorem yd_str {K : PySem.W.Frag} {P : Hp → Prop} (x : Str) : Yd K (Its x) P (x.cps.toList.map fun c => Rv.d (.str ⟨#[c]⟩)) where
  item := fun i Hc z _ e => by
    rw [List.getElem?_map, Array.getElem?_toList] at e
    cases q : x.cps[i]? with
    | none => rw [q] at e; cases e
    | some c =>
      rw [q] at e
      cases e
      have hi : i < x.cps.size := (Array.getElem?_eq_some_iff.mp q).1
      exact ⟨hi, fun v H' ⟨e1, c', e2, e3⟩ => by
        subst e1 e3
        rw [q] at e2
        cases e2
        exact ⟨fun _ _ h => h, .d (.str _)⟩⟩
  done := fun Hc _ => by show x.cps.size ≤ _; simp
/-- over a tuple -/
theorem xi_tup (h : XE X F δ μ iter fun r μ1 => IsT r ∧ ∃ xs, Sq μ1 r xs ∧ R xs (fun _ => True) μ1) : XI X F δ μ tg iter R := fun σ H lo ow fk =>
  wi_of (pi_tup pe_w) (h.run lo ow fk fun v H' r μ' t _ h1 h2 h3 ⟨ht, xs, hs, q⟩ => by
    obtain ⟨a, vs, rfl, hq, hv⟩ := hs.tuple ht h1
    exact ⟨a, rfl, ⟨vs, hq.sq⟩, t, xs, _, μ', h2, h3, yd_tup hq.sq hv, q⟩)
/-- over a list -/
theorem xi_lst (h : XE X F δ μ iter fun r μ1 => ∃ p xs, r = .r (.ref p) ∧ (p, Ob.lst xs) ∈ μ1 ∧ R xs (fun μc => (p, Ob.lst xs) ∈ μc) μ1) : XI X F δ μ tg iter R := fun σ H lo ow fk =>
  wi_of (pi_list pe_w) (h.run lo ow fk fun v H' r μ' t _ h1 h2 h3 ⟨p, xs, e, hm, q⟩ => by
    subst e
    cases h1
    obtain ⟨vs, g1, g2⟩ := h2 _ hm
    exact ⟨p, rfl, ⟨vs, SqL.of g1⟩, t, xs, _, μ', h2, h3, yd_lst, q⟩)
/-- over a text's signs -/
theorem xi_str (h : XE X F δ μ iter fun r μ1 => ∃ x : Str, r = .d (.str x) ∧ R (x.cps.toList.map fun c => Rv.d (.str ⟨#[c]⟩)) (fun _ => True) μ1) : XI X F δ μ tg iter R := fun σ H lo ow fk =>
  wi_of (pi_str pe_w) (h.run lo ow fk fun v H' r μ' t _ h1 h2 h3 ⟨x, e, q⟩ => by
    subst e
    cases h1 with
    | d h1 =>
      cases h1
      exact ⟨x, rfl, t, _, _, μ', h2, h3, yd_str x, q⟩)
theorem xi_rng (hm : X.mg "range" = none) (h : XA X F δ μ [e] fun rs μ1 => ∃ n : Int, rs = [.d (.int n)] ∧ -(2 ^ 62) ≤ n ∧ n < 2 ^ 62 ∧ R (rngItems 0 n.toNat) (fun _ => True) μ1) (hg : Gl X "range" := by rfl) (hs : starEach [e] X.env = [(false, eval e X.env)] := by rfl) :
    XI X F δ μ tg (.Call (.Name "range" p) [e] [] pos) R := fun σ H lo ow fk =>
  wi_of (pi_range1 hg hm pa_w hs) (h.run lo ow fk fun v H' r μ' t _ h1 h2 h3 ⟨n, e, n1, n2, q⟩ => by
    subst e
    cases h1 with
    | cons h1 h4 =>
      cases h4
      cases h1 with
      | d h1 =>
        cases h1
        exact ⟨n, rfl, n1, n2, t, _, _, μ', h2, h3, yd_rng 0 n.toNat, q⟩)
end

/-! ### for -/
section
variable {X : Cx} {F : Fm} {δ : De} {μ : Mu} {tg iter e c : Expr} {body : List Stmt} {p pos : Pos} {D : Dn}
theorem Ow.grow {K : PySem.W.Frag} {H H' : Hp} {μ : Mu} (w : Ow K H μ) (k : ∀ a o, H a = some o → H' a = some o) : Ow K H' μ := fun q hq => (w q hq).keep (fun a o h _ => k a o h) fun u => k _ u
theorem Fk.grow {F : Fm} {H H' : Hp} {μ : Mu} (f : Fk F H μ) (k : ∀ a o, H a = some o → H' a = some o) : Fk F H' μ := ⟨f.nd, fun a o e n => k a o (f.kp a o e n), f.nw⟩
/-- a for: I by the turn -/
theorem xs_for (js : List Nat) (h : XI X F δ μ tg iter fun items S μ1 => ∃ I : Nat → De → Mu → Prop, I 0 δ μ1 ∧ (∀ i δ' μ', I i δ' μ' → S μ') ∧
      (∀ i x δ' μ', items[i]? = some x → I i δ' μ' → XG X F δ' μ' tg x js fun δ2 μ2 => XSs X F δ2 μ2 body { D with nx := I (i + 1), ct := I (i + 1), bk := D.nx }) ∧ ∀ δ' μ', I items.length δ' μ' → D.nx δ' μ')
    (hp : PassesOwn (model X.prog X.w) X.A X.env X.xe := by exact PassesOwn.never) (hc : X.calm = true := by rfl) (hs : ∀ x, foldedSetIterable iter X.env x = pure x := by intro _; rfl) : XS X F δ μ (.For tg iter body [] pos) D := fun σ H lo ow fk => by
  refine ws_of (ps_for hp hc pi_w pg_w pss_w hs) ?_
  show WI X tg iter σ H _
  intro pins s Inv0
  refine thn (h σ H lo ow fk pins s Inv0) fun v s1 h1 => thn h1 fun itv s2 h2 => ?_
  obtain ⟨it, fp, tn, J, H2, e, I2, T, st2, f2, t2, items, S, μ1, ow1, fk1, yd, I, i0, iS, turn, fin⟩ := h2
  refine ⟨it, fp, tn, J, H2, e, I2, T, st2, f2, ?_⟩
  refine ⟨fun i m σ' H' => m = items.length - i ∧ i ≤ items.length ∧ TK H2 H' ∧ ∃ δ' μ', Lo X.K H' σ' δ' ∧ Ow X.K H' μ' ∧ Fk F H' μ' ∧ I i δ' μ', ⟨items.length, by simp, Nat.zero_le _, TK.refl _, δ, μ1, lo.keep t2, ow1, fk1, i0⟩, ?_⟩
  rintro i m σ' H' ⟨rfl, hi, tk, δ', μ', lo', ow', fk', hI⟩
  have P : TK H2 H' ∧ ∃ μc, Ow X.K H' μc ∧ S μc := ⟨tk, μ', ow', iS _ _ _ hI⟩
  by_cases hlt : i < items.length
  · have hx : items[i]? = some items[i] := List.getElem?_eq_getElem hlt
    obtain ⟨go, yl⟩ := yd.item i H' _ P hx
    refine .inr ⟨go, fun σ2 H2' => TK H2 H2' ∧ ∃ δ2 μ2, Lo X.K H2' σ2 δ2 ∧ Ow X.K H2' μ2 ∧ Fk F H2' μ2 ∧ I (i + 1) δ2 μ2, fun σ2 H2' ⟨tk2, q⟩ => ⟨items.length - (i + 1), by omega, rfl, hlt, tk2, q⟩, fun x H3 y => ?_⟩
    obtain ⟨gr, rk⟩ := yl x H3 y
    have tg3 : TK H' H3 := fun a o h _ => gr a o h
    have z := turn i _ δ' μ' hx hI σ' H3 x (lo'.keep tg3) (ow'.grow gr) (fk'.grow gr) rk
    refine wg_mono z fun σ4 H4 ⟨_, _, t4, δ4, μ4, lo4, ow4, fk4, q4⟩ => ?_
    have base : TK H2 H4 := (tk.trans tg3).trans t4
    intro pins' s' I'
    refine thn (q4 σ4 H4 lo4 ow4 fk4 pins' s' I') fun f s5 y5 => ?_
    cases f with
    | next =>
      obtain ⟨σ5, H5, I5, t5, δ5, μ5, q5⟩ := y5
      exact ⟨σ5, H5, I5, base.trans t5, δ5, μ5, q5⟩
    | cont =>
      obtain ⟨σ5, H5, I5, t5, δ5, μ5, q5⟩ := y5
      exact ⟨σ5, H5, I5, base.trans t5, δ5, μ5, q5⟩
    | brk =>
      obtain ⟨σ5, H5, I5, t5, δ5, μ5, q5⟩ := y5
      exact ⟨σ5, H5, I5, (t2.trans base).trans t5, δ5, μ5, q5⟩
    | ret u => exact y5
  · have e : i = items.length := by omega
    subst e
    exact .inl ⟨yd.done H' P, t2.trans tk, δ', μ', lo', ow', fk', fin _ _ hI⟩
end
end Ds

/-! text Ds5 -/
/-! Code over data: list comprehensions, while. -/
namespace Ds
open PySem PySem.Spec PyProof.Rows L2

section
variable {K : PySem.W.Frag} {H H' : Hp} {F : Fm} {μ : Mu} {a : Addr}
theorem TK.upd {o u : HO} (h : H a = some u) (n : ¬ Imm u) : TK H (upd H a o) := fun b z e i => by
  by_cases hb : b = a
  · subst hb
    rw [h] at e
    cases e
    exact absurd i n
  · rw [upd_ne hb]
    exact e
theorem Ow.upd {o u : HO} (w : Ow K H μ) (h : H a = some u) (n : ¬ Imm u) (hn : a ∉ μ.map (·.1)) : Ow K (upd H a o) μ := fun q hq => (w q hq).keep (TK.upd h n) fun v e => by
  rw [upd_ne (fun z => hn (List.mem_map.mpr ⟨q, hq, z⟩))]
  exact e
theorem Fk.upd {o : HO} (f : Fk F H μ) (h : a ∈ F.M ∨ F.H0 a = none) : Fk F (upd H a o) μ := ⟨f.nd, fun b u e n => by
  have hb : b ≠ a := by
    rintro rfl
    rcases h with h | h
    · exact n h
    · rw [h] at e; cases e
  rw [upd_ne hb]
  exact f.kp b u e n, f.nw⟩
theorem Fk.new_or (f : Fk F H μ) (h : H a = none) : a ∈ F.M ∨ F.H0 a = none := by
  by_cases hm : a ∈ F.M
  · exact .inl hm
  · refine .inr ?_
    cases e : F.H0 a with
    | none => rfl
    | some u => rw [f.kp a u e hm] at h; cases h
theorem Fk.then {μ' : Mu} (f : Fk F H μ) (w : Ow K H μ) (g : Fk ⟨H, μ.map (·.1)⟩ H' μ') : Fk F H' μ' := by
  have f' : Fk F H (μ ++ []) := by rw [List.append_nil]; exact f
  have w' : Ow K H (μ ++ []) := by rw [List.append_nil]; exact w
  have z := Fk.call (μr := []) f' w' g
  rwa [List.append_nil] at z
end
theorem wipe_at {vs : List Nat} {σ : L2.St} {k : Nat} (h : k ∈ vs) : (wipe σ vs)[k]? = some none ∨ σ.length ≤ k := by
  induction vs with
  | nil => cases h
  | cons v vs ih =>
    unfold wipe
    by_cases hk : v = k
    · subst hk
      by_cases hl : v < σ.length
      · exact .inl (List.getElem?_set_self (by rw [wipe_length]; exact hl))
      · exact .inr (by omega)
    · rw [List.getElem?_set_ne hk]
      rcases List.mem_cons.mp h with h | h
      · exact absurd h.symm hk
      · exact ih h
theorem wipe_eq {vs : List Nat} {σ σ' : L2.St} (hl : σ'.length = σ.length) (h : ∀ k, k ∉ vs → σ'[k]? = σ[k]?) : wipe σ' vs = wipe σ vs := by
  apply List.ext_getElem?
  intro k
  by_cases hk : k ∈ vs
  · rcases wipe_at (σ := σ') hk with e | e
    · rcases wipe_at (σ := σ) hk with e2 | e2
      · rw [e, e2]
      · have : k < (wipe σ' vs).length := (List.getElem?_eq_some_iff.mp e).1
        rw [wipe_length] at this
        omega
    · rw [List.getElem?_eq_none (by rw [wipe_length]; exact e), List.getElem?_eq_none (by rw [wipe_length]; omega)]
  · rw [wipe_out hk, wipe_out hk, h k hk]
theorem wipe_wipe (vs : List Nat) (σ : L2.St) : wipe (wipe σ vs) vs = wipe σ vs := wipe_eq (wipe_length σ vs) fun k hk => wipe_out hk

section
variable {X : Cx} {F : Fm} {δ : De} {μ : Mu} {tg iter elt : Expr} {vs : List Nat}
/-- the reading of a comprehension, from what its parts do -/
theorem lc_ok {g : TG} {tt : TT} {te : TE} (PG' : Fm → De → Mu → Rv → (De → Mu → Prop) → Prop) (PT' : Fm → De → Mu → (Bool → Mu → Prop) → Prop) (PE' : Fm → De → Mu → (Rv → Mu → Prop) → Prop)
    (hG : ∀ F' σ H v δ μ r Q, Lo X.K H σ δ → Ow X.K H μ → Fk F' H μ → Rk X.K H v r → PG' F' δ μ r Q → g v σ H fun σ' H' => σ'.length = σ.length ∧ (∀ k, k ∉ vs → σ'[k]? = σ[k]?) ∧ En X.K F' H Q σ' H')
    (hT : ∀ F' σ H δ μ Q (Q' : Bool → Hp → Prop), Lo X.K H σ δ → Ow X.K H μ → Fk F' H μ → PT' F' δ μ Q → (∀ b H' μ', TK H H' → Lo X.K H' σ δ → Ow X.K H' μ' → Fk F' H' μ' → Q b μ' → Q' b H') → tt σ H Q')
    (hE : ∀ F' σ H δ μ Q (Q' : VK), Lo X.K H σ δ → Ow X.K H μ → Fk F' H μ → PE' F' δ μ Q → (∀ v H' r μ', TK H H' → Rk X.K H' v r → Ow X.K H' μ' → Fk F' H' μ' → Q r μ' → Q' v H') → te σ H Q')
    (gm : ∀ v σ H Q Q', (∀ σ' H', Q σ' H' → Q' σ' H') → g v σ H Q → g v σ H Q')
    (hown : (vs.all fun j => match δ[j]? with | some (some _) => false | _ => true) = true)
    {σ : L2.St} {H : Hp} {Q : VK} (lo : Lo X.K H σ δ) {Qd : Rv → Mu → Prop} (hQ : ∀ v H', Pe X.K F H Qd v H' → Q v H')
    (h : WI X tg iter σ H fun J H' => TK H H' ∧ ∃ (items : List Rv) (S : Mu → Prop) (μ' : Mu), Ow X.K H' μ' ∧ Fk F H' μ' ∧ Yd X.K J (fun Hc => TK H' Hc ∧ ∃ μc, Ow X.K Hc μc ∧ S μc) items ∧
      items.length ≤ 100000 ∧ ∃ I : Nat → List Rv → Mu → Prop, I 0 [] μ' ∧ (∀ i acc μ', I i acc μ' → S μ') ∧
        (∀ i x acc μ', items[i]? = some x → I i acc μ' → ∀ F', PG' F' δ μ' x fun δ2 μ2 => PT' F' δ2 μ2 fun b μ3 => (b = true → PE' F' δ2 μ3 fun y μ4 => I (i + 1) (acc ++ [y]) μ4) ∧ (b = false → I (i + 1) acc μ3)) ∧
        ∀ acc μ', I items.length acc μ' → ∀ p, Qd (.r (.ref p)) ((p, .lst acc) :: μ')) :
    tLc (WI X tg iter) g tt te vs σ H Q := by
  intro pins s Inv0
  refine thn (h pins s Inv0) fun v s1 h1 => thn h1 fun itv s2 h2 => ?_
  obtain ⟨it, fp, tn, J, H2, e, I2, T, st2, f2, t2, items, S, μ1, ow1, fk1, yd, hlen, I, i0, iS, turn, fin⟩ := h2
  refine ⟨it, fp, tn, J, H2, e, I2, T, st2, f2, fun D hD => ?_⟩
  have hDM := fk1.new_or hD
  have hown' : ∀ (j : Nat) (r : Rv), δ[j]? = some (some r) → j ∉ vs := fun j r e hj => by
    have := List.all_eq_true.mp hown j hj
    rw [e] at this
    cases this
  refine ⟨fun i m Hc => m = items.length - i ∧ i ≤ items.length ∧ TK H2 Hc ∧ ∃ acc va μ', Hc D = some (.lst va) ∧ Rks X.K Hc va acc ∧ va.length ≤ i ∧ D ∉ μ'.map (·.1) ∧ Ow X.K Hc μ' ∧ Fk F Hc μ' ∧ I i acc μ',
    ⟨items.length, by simp, Nat.zero_le _, TK.new hD _, [], [], μ1, upd_same, .nil, Nat.le_refl _, fun z => ?_, ow1.new hD _, fk1.new hD _, i0⟩, ?_⟩
  · obtain ⟨q, hq, eq⟩ := List.mem_map.mp z
    obtain ⟨u, g1, _⟩ := (ow1 q hq).there
    rw [eq, hD] at g1
    cases g1
  rintro i m Hc ⟨rfl, hi, tk, acc, va, μ', hDc, ra, hla, hDn, ow', fk', hI⟩
  have P : TK H2 Hc ∧ ∃ μc, Ow X.K Hc μc ∧ S μc := ⟨tk, μ', ow', iS _ _ _ hI⟩
  by_cases hlt : i < items.length
  · have hx : items[i]? = some items[i] := List.getElem?_eq_getElem hlt
    obtain ⟨go, yl⟩ := yd.item i Hc _ P hx
    refine .inr ⟨go, fun Hn => TK H2 Hn ∧ ∃ acc va μ', Hn D = some (.lst va) ∧ Rks X.K Hn va acc ∧ va.length ≤ i + 1 ∧ D ∉ μ'.map (·.1) ∧ Ow X.K Hn μ' ∧ Fk F Hn μ' ∧ I (i + 1) acc μ', fun Hn ⟨q1, q2⟩ => ⟨items.length - (i + 1), by omega, rfl, hlt, q1, q2⟩, fun x H3 y => ?_⟩
    obtain ⟨gr, rk⟩ := yl x H3 y
    have t3 : TK Hc H3 := fun a o h _ => gr a o h
    have ow3 := ow'.grow gr
    have fk3 := fk'.grow gr
    have lo3 : Lo X.K H3 (wipe σ vs) δ := (lo.keep ((t2.trans tk).trans t3)).less (wipe_length σ vs) fun j r e => wipe_out (hown' j r e)
    have z := turn i _ acc μ' hx hI ⟨H3, μ'.map (·.1)⟩
    refine gm _ _ _ _ _ (fun σ4 H4 q4 => ?_) (hG _ (wipe σ vs) H3 x δ μ' _ _ lo3 ow3 (Fk.start fk3.nd) rk z)
    obtain ⟨l4, k4, t4, δ4, μ4, lo4, ow4, fk4, q4⟩ := q4
    refine ⟨(wipe_eq l4 k4).trans (wipe_wipe vs σ), ?_⟩
    have keepD : ∀ {H5 : Hp} {μ5 : Mu}, Fk ⟨H3, μ'.map (·.1)⟩ H5 μ5 → H5 D = some (.lst va) ∧ D ∉ μ5.map (·.1) := fun {H5 μ5} f5 => by
      have h3 := gr D _ hDc
      refine ⟨f5.kp D _ h3 hDn, fun zz => ?_⟩
      obtain ⟨q, hq, eq⟩ := List.mem_map.mp zz
      rcases f5.nw q hq with g | g
      · rw [eq] at g; exact hDn g
      · rw [eq] at g
        have g' : H3 D = none := g
        rw [h3] at g'
        cases g'
    refine hT _ σ4 H4 δ4 μ4 _ _ lo4 ow4 fk4 q4 fun b H5 μ5 t5 lo5 ow5 fk5 ⟨q5, q6⟩ => ?_
    cases b with
    | false =>
      obtain ⟨d1, d2⟩ := keepD fk5
      exact ⟨((tk.trans t3).trans t4).trans t5, acc, va, μ5, d1, ((ra.keep t3).keep t4).keep t5, Nat.le_succ_of_le hla, d2, ow5, Fk.then fk3 ow3 fk5, q6 rfl⟩
    | true =>
      show te σ4 H5 _
      refine hE _ σ4 H5 δ4 μ5 _ _ lo5 ow5 fk5 (q5 rfl) fun v6 H6 r6 μ6 t6 h6 ow6 fk6 q7 => ?_
      obtain ⟨d1, d2⟩ := keepD fk6
      have t7 : TK H6 (upd H6 D (.lst (va ++ [v6]))) := TK.upd d1 fun z => z
      refine ⟨va, d1, Nat.lt_of_le_of_lt hla (Nat.lt_of_lt_of_le hlt (sz_of hlen)), (((tk.trans t3).trans t4).trans t5).trans (t6.trans t7), acc ++ [r6], va ++ [v6], μ6, upd_same, ?_, ?_, d2, ow6.upd d1 (fun z => z) d2, (Fk.then fk3 ow3 fk6).upd hDM, q7⟩
      · exact ((((((ra.keep t3).keep t4).keep t5).keep t6).keep t7)).append (.cons (h6.keep t7) .nil)
      · rw [List.length_append]
        show va.length + 1 ≤ i + 1
        omega
  · have e : i = items.length := by omega
    subst e
    refine .inl ⟨yd.done Hc P, hQ _ _ ⟨t2.trans tk, _, _, .r _, ow'.more (a := D) (o := .lst acc) ⟨va, hDc, ra⟩, ⟨List.nodup_cons.mpr ⟨hDn, fk'.nd⟩, fk'.kp, fun q hq => ?_⟩, fin acc μ' hI D⟩⟩
    rcases List.mem_cons.mp hq with rfl | hq
    · exact hDM
    · exact fk'.nw q hq

/-- a comprehension's parts in its block -/
abbrev Blk (X : Cx) (scope : Scope) (P : Cx → Prop) : Prop := ∀ (s : Shared) (H : Hp) (C : Addr) (cl : List (Str × Addr)) (fp : List Addr), P (X.blk s H scope (compEnvC scope cl C X.env) fp)
/-- what a comprehension asks: without a test, with one -/
def Lc0 (X : Cx) (F : Fm) (δ : De) (μ : Mu) (tg iter elt : Expr) (scope : Scope) (vs : List Nat) (Q : Rv → Mu → Prop) : Prop :=
  XI X F δ μ tg iter fun items S μ1 => items.length ≤ 100000 ∧ ∃ I : Nat → List Rv → Mu → Prop, I 0 [] μ1 ∧ (∀ i acc μ', I i acc μ' → S μ') ∧
    (∀ i x acc μ', items[i]? = some x → I i acc μ' → ∀ F', Blk X scope fun Y => XG Y F' δ μ' tg x vs fun δ2 μ2 => Blk X scope fun Y => XE Y F' δ2 μ2 elt fun y μ4 => I (i + 1) (acc ++ [y]) μ4) ∧ ∀ acc μ', I items.length acc μ' → ∀ p, Q (.r (.ref p)) ((p, .lst acc) :: μ')
def Lc1 (X : Cx) (F : Fm) (δ : De) (μ : Mu) (tg iter elt c : Expr) (scope : Scope) (vs : List Nat) (Q : Rv → Mu → Prop) : Prop :=
  XI X F δ μ tg iter fun items S μ1 => items.length ≤ 100000 ∧ ∃ I : Nat → List Rv → Mu → Prop, I 0 [] μ1 ∧ (∀ i acc μ', I i acc μ' → S μ') ∧
    (∀ i x acc μ', items[i]? = some x → I i acc μ' → ∀ F', Blk X scope fun Y => XG Y F' δ μ' tg x vs fun δ2 μ2 => Blk X scope fun Y => XT Y F' δ2 μ2 c fun b μ3 => (b = true → Blk X scope fun Y => XE Y F' δ2 μ3 elt fun y μ4 => I (i + 1) (acc ++ [y]) μ4) ∧ (b = false → I (i + 1) acc μ3)) ∧
      ∀ acc μ', I items.length acc μ' → ∀ p, Q (.r (.ref p)) ((p, .lst acc) :: μ')
variable {scope : Scope} {pos : Pos} {Q : Rv → Mu → Prop} {c : Expr}
def gC (X : Cx) (scope : Scope) (tg : Expr) : TG := fun v σ H Q => Blk X scope fun Y => WG Y tg v σ H Q
def eC (X : Cx) (scope : Scope) (e : Expr) : TE := fun σ H Q => Blk X scope fun Y => WE Y e σ H Q
def tstC (X : Cx) (scope : Scope) (e : Expr) : TT := fun σ H Q => Blk X scope fun Y => WT Y e σ H Q
theorem pg_c (s : Shared) (H : Hp) (C : Addr) (cl : List (Str × Addr)) (fp : List Addr) : PG (X.blk s H scope (compEnvC scope cl C X.env) fp) tg (gC X scope tg) := ⟨fun pins s' _ _ _ u _ I r h => h s H C cl fp pins s' u I r⟩
theorem pe_c (s : Shared) (H : Hp) (C : Addr) (cl : List (Str × Addr)) (fp : List Addr) : PE (X.blk s H scope (compEnvC scope cl C X.env) fp) elt (eC X scope elt) := ⟨fun pins s' _ _ _ I h => h s H C cl fp pins s' I⟩
theorem pt_c (s : Shared) (H : Hp) (C : Addr) (cl : List (Str × Addr)) (fp : List Addr) : PT (X.blk s H scope (compEnvC scope cl C X.env) fp) c (tstC X scope c) := ⟨fun pins s' _ _ _ I h => h s H C cl fp pins s' I⟩
theorem lc0_ok {σ : L2.St} {H : Hp} {Q' : VK} (hown : (vs.all fun j => match δ[j]? with | some (some _) => false | _ => true) = true) (lo : Lo X.K H σ δ) (ow : Ow X.K H μ) (fk : Fk F H μ) (hQ : ∀ v H', Pe X.K F H Q v H' → Q' v H') (h : Lc0 X F δ μ tg iter elt scope vs Q) :
    tLc (WI X tg iter) (gC X scope tg) tYes (eC X scope elt) vs σ H Q' :=
  lc_ok (fun F' δ' μ' r N => Blk X scope fun Y => XG Y F' δ' μ' tg r vs N) (fun _ _ μ' N => N true μ') (fun F' δ' μ' N => Blk X scope fun Y => XE Y F' δ' μ' elt N)
    (fun F' σ H v δ μ r Q lo ow fk hr q s H' C cl fp => q s H' C cl fp σ H v lo ow fk hr) (fun F' σ H δ μ Q Q' lo ow fk q k => k true H μ (TK.refl H) lo ow fk q)
    (fun F' σ H δ μ Q Q' lo ow fk q k s H' C cl fp => (q s H' C cl fp).run lo ow fk fun v H2 r μ' t _ h1 h2 h3 q => k v H2 r μ' t h1 h2 h3 q)
    (fun v σ H Q Q' k q s H' C cl fp => wg_mono (q s H' C cl fp) k) hown lo hQ (fun pins s I => thn (h σ H lo ow fk pins s I) fun v s1 h1 => thn h1 fun itv s2 ⟨it, fp, tn, J, H', z1, z2, z3, z4, z5, t, items, S, μ1, w1, f1, y1, hl, I, i0, iS, turn, fin⟩ =>
      ⟨it, fp, tn, J, H', z1, z2, z3, z4, z5, t, items, S, μ1, w1, f1, y1, hl, I, i0, iS, fun i x acc μ' e hI F' s0 H0 C cl fp => by
        have z := turn i x acc μ' e hI F' s0 H0 C cl fp
        intro σ1 H1 v1 lo1 ow1 fk1 r1
        refine wg_mono (z σ1 H1 v1 lo1 ow1 fk1 r1) fun σ2 H2 ⟨a1, a2, t2, δ2, μ2, a3, a4, a5, a6⟩ => ⟨a1, a2, t2, δ2, μ2, a3, a4, a5, fun _ => a6, fun z => by cases z⟩, fin⟩)
theorem lc1_ok {σ : L2.St} {H : Hp} {Q' : VK} (hown : (vs.all fun j => match δ[j]? with | some (some _) => false | _ => true) = true) (lo : Lo X.K H σ δ) (ow : Ow X.K H μ) (fk : Fk F H μ) (hQ : ∀ v H', Pe X.K F H Q v H' → Q' v H') (h : Lc1 X F δ μ tg iter elt c scope vs Q) :
    tLc (WI X tg iter) (gC X scope tg) (tstC X scope c) (eC X scope elt) vs σ H Q' :=
  lc_ok (fun F' δ' μ' r N => Blk X scope fun Y => XG Y F' δ' μ' tg r vs N) (fun F' δ' μ' N => Blk X scope fun Y => XT Y F' δ' μ' c N) (fun F' δ' μ' N => Blk X scope fun Y => XE Y F' δ' μ' elt N)
    (fun F' σ H v δ μ r Q lo ow fk hr q s H' C cl fp => q s H' C cl fp σ H v lo ow fk hr) (fun F' σ H δ μ Q Q' lo ow fk q k s H' C cl fp => (q s H' C cl fp).run lo ow fk fun b H2 μ' t lo2 h2 h3 q => k b H2 μ' t lo2 h2 h3 q)
    (fun F' σ H δ μ Q Q' lo ow fk q k s H' C cl fp => (q s H' C cl fp).run lo ow fk fun v H2 r μ' t _ h1 h2 h3 q => k v H2 r μ' t h1 h2 h3 q)
    (fun v σ H Q Q' k q s H' C cl fp => wg_mono (q s H' C cl fp) k) hown lo hQ (fun pins s I => h σ H lo ow fk pins s I)
/-- [elt for tg in iter] -/
theorem xe_lc {own : List (Str × Nat)} (h : Lc0 X F δ μ tg iter elt scope (own.map (·.2)) Q) (hN : X.N.Nodup) (ok : BlkOk X.N X.env.scope scope own) (hown : ((own.map (·.2)).all fun j => match δ[j]? with | some (some _) => false | _ => true) = true := by rfl) (hc : X.calm = true := by rfl)
    (hs : ∀ x, foldedSetIterable iter X.env x = pure x := by intro _; rfl) : XE X F δ μ (.ListComp elt [⟨tg, iter, [], 0⟩] scope pos) Q := fun σ H lo ow fk =>
  we_of (pe_lc hc hN pi_w ok pg_c (fun _ _ _ _ _ => pts_nil) pe_c hs) (lc0_ok hown lo ow fk (fun _ _ q => q) h)
theorem xe_lc1 {own : List (Str × Nat)} (h : Lc1 X F δ μ tg iter elt c scope (own.map (·.2)) Q) (hN : X.N.Nodup) (ok : BlkOk X.N X.env.scope scope own) (hown : ((own.map (·.2)).all fun j => match δ[j]? with | some (some _) => false | _ => true) = true := by rfl) (hc : X.calm = true := by rfl)
    (hs : ∀ x, foldedSetIterable iter X.env x = pure x := by intro _; rfl) : XE X F δ μ (.ListComp elt [⟨tg, iter, [c], 0⟩] scope pos) Q := fun σ H lo ow fk =>
  we_of (pe_lc hc hN pi_w ok pg_c (fun s H C cl fp => pts_one (pt_c s H C cl fp)) pe_c hs) (lc1_ok hown lo ow fk (fun _ _ q => q) h)
/-- y = [elt for tg in iter] -/
theorem xs_setLc {own : List (Str × Nat)} {i : Nat} {y : Str} {py spos : Pos} {D : Dn} (h : Lc0 X F δ μ tg iter elt scope (own.map (·.2)) fun r μ1 => D.nx (δ.set i (some r)) μ1) (hN : X.N.Nodup) (ok : BlkOk X.N X.env.scope scope own)
    (hsw : swapsWith (.ListComp elt [⟨tg, iter, [], 0⟩] scope pos) (some (.Name y py)) spos.line X.env = pure true) (hy : X.N[i]? = some y := by rfl) (hyl : X.env.scope.names.lookup y = some .local := by rfl)
    (hown : ((own.map (·.2)).all fun j => match δ[j]? with | some (some _) => false | _ => true) = true := by rfl) (hc : X.calm = true := by rfl)
    (hs : ∀ x, foldedSetIterable iter X.env x = pure x := by intro _; rfl) : XS X F δ μ (.Assign [.Name y py] (.ListComp elt [⟨tg, iter, [], 0⟩] scope pos) spos) D := fun σ H lo ow fk =>
  ws_of (ps_setLc (i := i) hc hN hy hyl hsw pi_w ok pg_c (fun _ _ _ _ _ => pts_nil) pe_c hs) (lc0_ok hown lo ow fk (fun v H' ⟨t, r, μ', h1, h2, h3, q⟩ => ⟨t, _, μ', (lo.keep t).set h1 i, h2, h3, q⟩) h)
theorem xs_setLc1 {own : List (Str × Nat)} {i : Nat} {y : Str} {py spos : Pos} {D : Dn} (h : Lc1 X F δ μ tg iter elt c scope (own.map (·.2)) fun r μ1 => D.nx (δ.set i (some r)) μ1) (hN : X.N.Nodup) (ok : BlkOk X.N X.env.scope scope own)
    (hsw : swapsWith (.ListComp elt [⟨tg, iter, [c], 0⟩] scope pos) (some (.Name y py)) spos.line X.env = pure true) (hy : X.N[i]? = some y := by rfl) (hyl : X.env.scope.names.lookup y = some .local := by rfl)
    (hown : ((own.map (·.2)).all fun j => match δ[j]? with | some (some _) => false | _ => true) = true := by rfl) (hc : X.calm = true := by rfl)
    (hs : ∀ x, foldedSetIterable iter X.env x = pure x := by intro _; rfl) : XS X F δ μ (.Assign [.Name y py] (.ListComp elt [⟨tg, iter, [c], 0⟩] scope pos) spos) D := fun σ H lo ow fk =>
  ws_of (ps_setLc (i := i) hc hN hy hyl hsw pi_w ok pg_c (fun s H C cl fp => pts_one (pt_c s H C cl fp)) pe_c hs) (lc1_ok hown lo ow fk (fun v H' ⟨t, r, μ', h1, h2, h3, q⟩ => ⟨t, _, μ', (lo.keep t).set h1 i, h2, h3, q⟩) h)

/-! ### while -/
/-- while c: body, W by a measure -/
theorem xs_while {body : List Stmt} {D : Dn} (W : Nat → De → Mu → Prop) (m0 : Nat) (h0 : W m0 δ μ) (h : ∀ m δ' μ', W m δ' μ' → XT X F δ' μ' c fun b μ1 => (b = true → XSs X F δ' μ1 body { D with nx := fun δ2 μ2 => ∃ m', m' < m ∧ W m' δ2 μ2, ct := fun δ2 μ2 => ∃ m', m' < m ∧ W m' δ2 μ2, bk := D.nx }) ∧ (b = false → D.nx δ' μ1))
    (hp : PassesOwn (model X.prog X.w) X.A X.env X.xe := by exact PassesOwn.never) : XS X F δ μ (.While c body [] pos) D := fun σ H lo ow fk => by
  refine ws_of (ps_while hp pt_w pss_w) ?_
  refine ⟨fun m σ' H' => TK H H' ∧ ∃ δ' μ', Lo X.K H' σ' δ' ∧ Ow X.K H' μ' ∧ Fk F H' μ' ∧ W m δ' μ', ⟨m0, TK.refl H, δ, μ, lo, ow, fk, h0⟩, ?_⟩
  rintro m σ1 H1 ⟨t1, δ1, μ1, lo1, ow1, fk1, w1⟩
  refine (h m δ1 μ1 w1).run lo1 ow1 fk1 fun b H2 μ2 t2 lo2 ow2 fk2 ⟨q1, q2⟩ => ?_
  cases b with
  | false => exact ⟨t1.trans t2, δ1, μ2, lo2, ow2, fk2, q2 rfl⟩
  | true =>
    rw [if_pos rfl]
    refine ⟨fun σ' H' => TK H H' ∧ ∃ m', m' < m ∧ ∃ δ' μ', Lo X.K H' σ' δ' ∧ Ow X.K H' μ' ∧ Fk F H' μ' ∧ W m' δ' μ', fun σ' H' ⟨t, m', l, q⟩ => ⟨m', l, t, q⟩, ?_⟩
    intro pins s I
    refine thn (q1 rfl σ1 H2 lo2 ow2 fk2 pins s I) fun f s5 y5 => ?_
    have base : TK H H2 := t1.trans t2
    cases f with
    | next =>
      obtain ⟨σ5, H5, I5, t5, δ5, μ5, lo5, ow5, fk5, m', l, w⟩ := y5
      exact ⟨σ5, H5, I5, base.trans t5, m', l, δ5, μ5, lo5, ow5, fk5, w⟩
    | cont =>
      obtain ⟨σ5, H5, I5, t5, δ5, μ5, lo5, ow5, fk5, m', l, w⟩ := y5
      exact ⟨σ5, H5, I5, base.trans t5, m', l, δ5, μ5, lo5, ow5, fk5, w⟩
    | brk =>
      obtain ⟨σ5, H5, I5, t5, δ5, μ5, q5⟩ := y5
      exact ⟨σ5, H5, I5, base.trans t5, δ5, μ5, q5⟩
    | ret u => exact y5
end
end Ds

/-! text Ds6 -/
/-! Code over data: dicts of texts. -/
namespace Ds
open PySem PySem.Spec PyProof.Rows L2

/-! ### an object changes in its place -/
inductive Sw (q q' : Addr × Ob) : Mu → Mu → Prop
  | here {μ : Mu} : Sw q q' (q :: μ) (q' :: μ)
  | there {x : Addr × Ob} {μ μ' : Mu} : Sw q q' μ μ' → Sw q q' (x :: μ) (x :: μ')
theorem Sw.mem {q q' : Addr × Ob} {μ μ' : Mu} (s : Sw q q' μ μ') : q ∈ μ := by
  induction s with
  | here => exact List.mem_cons_self
  | there _ ih => exact List.mem_cons_of_mem _ ih
theorem Sw.map {a : Addr} {o o' : Ob} {μ μ' : Mu} (s : Sw (a, o) (a, o') μ μ') : μ'.map (·.1) = μ.map (·.1) := by
  induction s with
  | here => rfl
  | there _ ih => rw [List.map_cons, List.map_cons, ih]
theorem Sw.sub {a : Addr} {o o' : Ob} {μ μ' : Mu} (s : Sw (a, o) (a, o') μ μ') (nd : (μ.map (·.1)).Nodup) : ∀ q ∈ μ', q = (a, o') ∨ (q ∈ μ ∧ q.1 ≠ a) := by
  induction s with
  | here =>
    intro q hq
    rw [List.map_cons, List.nodup_cons] at nd
    rcases List.mem_cons.mp hq with h | h
    · exact .inl h
    · exact .inr ⟨List.mem_cons_of_mem _ h, fun e => nd.1 (List.mem_map.mpr ⟨q, h, e⟩)⟩
  | there s ih =>
    intro q hq
    rw [List.map_cons, List.nodup_cons] at nd
    rcases List.mem_cons.mp hq with h | h
    · refine .inr ⟨by rw [h]; exact List.mem_cons_self, fun e => nd.1 ?_⟩
      rw [← h, e]
      exact List.mem_map.mpr ⟨_, s.mem, rfl⟩
    · rcases ih nd.2 q h with g | ⟨g1, g2⟩
      · exact .inl g
      · exact .inr ⟨List.mem_cons_of_mem _ g1, g2⟩
section
variable {K : PySem.W.Frag} {H : Hp} {F : Fm} {μ μ' : Mu} {a : Addr} {o o' : Ob} {u : HO}
theorem Sw.tk (s : Sw (a, o) (a, o') μ μ') (w : Ow K H μ) : TK H (upd H a u) := by
  obtain ⟨z, h1, h2⟩ := (w _ s.mem).there
  exact TK.upd h1 h2
theorem Sw.ow (s : Sw (a, o) (a, o') μ μ') (w : Ow K H μ) (nd : (μ.map (·.1)).Nodup) (h : ObIs K (upd H a u) a o') : Ow K (upd H a u) μ' := fun q hq => by
  rcases s.sub nd q hq with e | ⟨g1, g2⟩
  · subst e; exact h
  · exact (w q g1).keep (s.tk w) fun v e => by rw [upd_ne g2]; exact e
theorem Sw.fk (s : Sw (a, o) (a, o') μ μ') (f : Fk F H μ) : Fk F (upd H a u) μ' := by
  have hm := f.nw _ s.mem
  have z := f.upd (o := u) hm
  refine ⟨by rw [s.map]; exact f.nd, z.kp, fun q hq => ?_⟩
  rcases s.sub f.nd q hq with e | ⟨g1, _⟩
  · subst e; exact hm
  · exact f.nw q g1
theorem Sw.pe {Q : Rv → Mu → Prop} {v : V} {r : Rv} (s : Sw (a, o) (a, o') μ μ') (w : Ow K H μ) (f : Fk F H μ) (h : ObIs K (upd H a u) a o') (hr : Rk K H v r) (q : Q r μ') : Pe K F H Q v (upd H a u) :=
  ⟨s.tk w, r, μ', hr.keep (s.tk w), s.ow w f.nd h, s.fk f, q⟩
end
/-! ### fewer objects are spoken of -/
section
variable {K : PySem.W.Frag} {H : Hp} {F : Fm} {μ μ' : Mu} {X : Cx} {δ : De} {e : Expr} {es : List Expr} {st : Stmt} {sts : List Stmt}
theorem Ow.sub (w : Ow K H μ) (s : μ'.Sublist μ) : Ow K H μ' := fun q hq => w q (s.subset hq)
theorem Fk.sub (f : Fk F H μ) (s : μ'.Sublist μ) : Fk F H μ' := ⟨(s.map _).nodup f.nd, f.kp, fun q hq => f.nw q (s.subset hq)⟩
theorem XE.sub {Q : Rv → Mu → Prop} (h : XE X F δ μ e fun r μ1 => ∃ μ2 : Mu, μ2.Sublist μ1 ∧ Q r μ2) : XE X F δ μ e Q := fun σ H lo ow fk =>
  h.run lo ow fk fun v H' r μ1 t _ h1 h2 h3 ⟨μ2, s, q⟩ => ⟨t, r, μ2, h1, h2.sub s, h3.sub s, q⟩
theorem XT.sub {Q : Bool → Mu → Prop} (h : XT X F δ μ e fun r μ1 => ∃ μ2 : Mu, μ2.Sublist μ1 ∧ Q r μ2) : XT X F δ μ e Q := fun σ H lo ow fk =>
  h.run lo ow fk fun v H' μ1 t _ h2 h3 ⟨μ2, s, q⟩ => ⟨t, μ2, h2.sub s, h3.sub s, q⟩
theorem XE.at_ {Q : Rv → Mu → Prop} (s : μ'.Sublist μ) (h : XE X F δ μ' e Q) : XE X F δ μ e Q := fun σ H lo ow fk => h σ H lo (ow.sub s) (fk.sub s)
theorem XS.at_ {D : Dn} (s : μ'.Sublist μ) (h : XS X F δ μ' st D) : XS X F δ μ st D := fun σ H lo ow fk => h σ H lo (ow.sub s) (fk.sub s)
theorem XSs.at_ {D : Dn} (s : μ'.Sublist μ) (h : XSs X F δ μ' sts D) : XSs X F δ μ sts D := fun σ H lo ow fk => h σ H lo (ow.sub s) (fk.sub s)
theorem XA.sub {Q : List Rv → Mu → Prop} (h : XA X F δ μ es fun r μ1 => ∃ μ2 : Mu, μ2.Sublist μ1 ∧ Q r μ2) : XA X F δ μ es Q := fun σ H lo ow fk =>
  h.run lo ow fk fun v H' r μ1 t _ h1 h2 h3 ⟨μ2, s, q⟩ => ⟨t, r, μ2, h1, h2.sub s, h3.sub s, q⟩
/-- names forgotten -/
theorem XSs.names {D : Dn} {δ' : De} (hl : δ'.length = δ.length) (k : ∀ (i : Nat) (r : Rv), δ'[i]? = some (some r) → δ[i]? = some (some r)) (h : XSs X F δ' μ sts D) : XSs X F δ μ sts D := fun σ H lo ow fk => h σ H ⟨lo.len.trans hl.symm, fun i r e => lo.at_ i r (k i r e)⟩ ow fk
end

/-! ### tables -/
def dk (kvs : List (Str × Rv)) (x : Str) : Option Rv := (kvs.find? fun p => decide (p.1 = x)).map (·.2)
def dput (kvs : List (Str × Rv)) (x : Str) (r : Rv) : List (Str × Rv) :=
  if (kvs.any fun p => decide (p.1 = x)) = true then kvs.map (fun p => if p.1 = x then (p.1, r) else p) else kvs ++ [(x, r)]
def dmerge (kvs more : List (Str × Rv)) : List (Str × Rv) := more.foldl (fun acc p => dput acc p.1 p.2) kvs
def DR (K : PySem.W.Frag) (H : Hp) (kv : List (Key × V)) (kvs : List (Str × Rv)) : Prop := kv.map (·.1) = kvs.map (fun p => Sum.inr p.1) ∧ Rks K H (kv.map (·.2)) (kvs.map (·.2))
section
variable {K : PySem.W.Frag} {H : Hp}
theorem DR.nil : DR K H [] [] := ⟨rfl, .nil⟩
theorem DR.cons {x : Str} {v : V} {r : Rv} {kv : List (Key × V)} {kvs : List (Str × Rv)} (h : Rk K H v r) (t : DR K H kv kvs) : DR K H ((.inr x, v) :: kv) ((x, r) :: kvs) := ⟨by rw [List.map_cons, List.map_cons, t.1], .cons h t.2⟩
theorem DR.uncons {p : Str × Rv} {kv : List (Key × V)} {kvs : List (Str × Rv)} (h : DR K H kv (p :: kvs)) : ∃ v kv', kv = (.inr p.1, v) :: kv' ∧ Rk K H v p.2 ∧ DR K H kv' kvs := by
  obtain ⟨h1, h2⟩ := h
  cases kv with
  | nil => simp at h1
  | cons q kv' =>
    obtain ⟨k, v⟩ := q
    rw [List.map_cons, List.map_cons] at h1 h2
    injection h1 with e1 e2
    cases h2 with
    | cons h3 h4 => exact ⟨v, kv', by rw [show k = Sum.inr p.1 from e1], h3, e2, h4⟩
theorem DR.unnil {kv : List (Key × V)} (h : DR K H kv []) : kv = [] := by
  obtain ⟨h1, _⟩ := h
  cases kv with
  | nil => rfl
  | cons _ _ => simp at h1
theorem DR.val (x : Str) : ∀ {kvs : List (Str × Rv)} {kv : List (Key × V)}, DR K H kv kvs → (dk kvs x = none ∧ valV kv (.inr x) = none) ∨ ∃ r v, dk kvs x = some r ∧ valV kv (.inr x) = some v ∧ Rk K H v r
  | [], kv, h => by
    rw [h.unnil]
    exact .inl ⟨rfl, rfl⟩
  | p :: kvs, kv, h => by
    obtain ⟨v, kv', rfl, h1, h2⟩ := h.uncons
    by_cases e : p.1 = x
    · refine .inr ⟨p.2, v, ?_, ?_, h1⟩
      · unfold dk
        rw [List.find?_cons, decide_eq_true e]
        rfl
      · exact valV_pos (p := (Sum.inr p.1, v)) (congrArg Sum.inr e)
    · have a : dk (p :: kvs) x = dk kvs x := by
        unfold dk
        rw [List.find?_cons, decide_eq_false e]
      have b : valV ((Sum.inr p.1, v) :: kv' : List (Key × V)) (.inr x) = valV kv' (.inr x) := valV_neg (p := (Sum.inr p.1, v)) fun z => e (Sum.inr.inj z)
      rw [a, b]
      exact DR.val x h2
theorem DR.any (x : Str) : ∀ {kvs : List (Str × Rv)} {kv : List (Key × V)}, DR K H kv kvs → (kv.any fun q => decide (q.1 = .inr x)) = kvs.any fun p => decide (p.1 = x)
  | [], kv, h => by rw [h.unnil]; rfl
  | p :: kvs, kv, h => by
    obtain ⟨v, kv', rfl, h1, h2⟩ := h.uncons
    rw [List.any_cons, List.any_cons, DR.any x h2]
    congr 1
    by_cases e : p.1 = x
    · rw [decide_eq_true e, decide_eq_true (congrArg Sum.inr e)]
    · rw [decide_eq_false e, decide_eq_false fun z => e (Sum.inr.inj z)]
theorem DR.repl {v : V} {r : Rv} (x : Str) (hr : Rk K H v r) : ∀ {kvs : List (Str × Rv)} {kv : List (Key × V)}, DR K H kv kvs → DR K H (kv.map fun q => if q.1 = .inr x then (q.1, v) else q) (kvs.map fun p => if p.1 = x then (p.1, r) else p)
  | [], kv, h => by rw [h.unnil]; exact .nil
  | p :: kvs, kv, h => by
    obtain ⟨w, kv', rfl, h1, h2⟩ := h.uncons
    rw [List.map_cons, List.map_cons]
    by_cases e : p.1 = x
    · rw [if_pos e, if_pos (congrArg Sum.inr e)]
      exact .cons hr (DR.repl x hr h2)
    · rw [if_neg e, if_neg fun z => e (Sum.inr.inj z)]
      exact .cons h1 (DR.repl x hr h2)
theorem DR.snoc {v : V} {r : Rv} {x : Str} (hr : Rk K H v r) {kvs : List (Str × Rv)} {kv : List (Key × V)} (h : DR K H kv kvs) : DR K H (kv ++ [(.inr x, v)]) (kvs ++ [(x, r)]) := by
  refine ⟨by rw [List.map_append, List.map_append, h.1] <;> rfl, ?_⟩
  rw [List.map_append, List.map_append]
  exact h.2.append (.cons hr .nil)
theorem DR.put {v : V} {r : Rv} {x : Str} (hr : Rk K H v r) {kvs : List (Str × Rv)} {kv : List (Key × V)} (h : DR K H kv kvs) : DR K H (putK kv (.inr x) v) (dput kvs x r) := by
  unfold putK dput
  rw [DR.any x h]
  split
  · exact DR.repl x hr h
  · exact h.snoc hr
theorem DR.merge : ∀ {more : List (Str × Rv)} {mv : List (Key × V)} {kvs : List (Str × Rv)} {kv : List (Key × V)}, DR K H mv more → DR K H kv kvs → DR K H (mergeK kv mv) (dmerge kvs more)
  | [], mv, kvs, kv, h, g => by rw [h.unnil]; exact g
  | p :: more, mv, kvs, kv, h, g => by
    obtain ⟨v, mv', e, h1, h2⟩ := h.uncons
    subst e
    have z := DR.merge h2 (g.put (x := p.1) h1)
    exact z
theorem DR.length {kvs : List (Str × Rv)} {kv : List (Key × V)} (h : DR K H kv kvs) : kv.length = kvs.length := by
  have := congrArg List.length h.1
  simpa using this
end

/-! ### reads, stores -/
section
variable {X : Cx} {F : Fm} {δ : De} {μ : Mu} {o i e a b : Expr} {es : List Expr} {pos p tpos pos' apos cpos : Pos} {Q : Rv → Mu → Prop} {D : Dn} {k : Nat}
theorem noSl_of (hs : ∀ ov iv, subscripted i false ov iv = operate [ov, iv] (getItem ov iv) := by exact fun _ _ => rfl) : NoSl i := hs
theorem hu1 (hr : Room k X.A) : X.A.units + 1 < cLine := by have := hr.un; omega
theorem dic_get {K : PySem.W.Frag} {H : Hp} {kvs : List (Str × Rv)} {a : Addr} {x : Str} (w : ObIs K H a (.dic kvs)) : ∃ ov, DGet H a (.str x) ov ∧ ((dk kvs x = none ∧ ov = none) ∨ ∃ r v, dk kvs x = some r ∧ ov = some v ∧ Rk K H v r) := by
  obtain ⟨kv, h1, h2⟩ := w
  exact ⟨_, DGet.k (k := .inr x) h1, DR.val x h2⟩
/-- d['x'] -/
theorem xe_dget (hr : Room k X.A) (h : XE X F δ μ o fun r μ1 => XE X F δ μ1 i fun y μ2 => ∃ p kvs x z, r = .r (.ref p) ∧ (p, Ob.dic kvs) ∈ μ2 ∧ y = .d (.str x) ∧ dk kvs x = some z ∧ Q z μ2) (hs : NoSl i := by exact fun _ _ => rfl) : XE X F δ μ (.Subscript o i pos) Q := fun σ H lo ow fk =>
  we_of (pe_dget (hu1 hr) pe_w pe_w hs) (h.run lo ow fk fun v H1 r μ1 t1 lo1 r1 ow1 fk1 q1 => q1.run lo1 ow1 fk1 fun y H2 ry μ2 t2 _ r2 ow2 fk2 ⟨p, kvs, x, z, e1, hm, e2, l, q⟩ => by
    subst e1 e2
    cases r1
    cases r2 with
    | d r2 =>
      cases r2
      obtain ⟨ov, g, c⟩ := dic_get (x := x) (ow2 _ hm)
      rcases c with ⟨c, _⟩ | ⟨r, v, c1, c2, c3⟩
      · rw [c] at l; cases l
      · subst c2
        rw [c1] at l
        cases l
        exact ⟨p, v, rfl, g, t1.trans t2, _, μ2, c3, ow2, fk2, q⟩)
/-- in, not in -/
theorem xe_din (hr : Room k X.A) (hm : behindInMarks .In o = false) (h : XE X F δ μ i fun y μ1 => XE X F δ μ1 o fun r μ2 => ∃ p kvs x, r = .r (.ref p) ∧ (p, Ob.dic kvs) ∈ μ2 ∧ y = .d (.str x) ∧ Q (.d (.bool (dk kvs x).isSome)) μ2) : XE X F δ μ (.Compare i [.In] [o] pos) Q := fun σ H lo ow fk =>
  we_of (pe_cmp (pc_din (hu1 hr) pe_w pe_w) hm) (h.run lo ow fk fun y H1 r μ1 t1 lo1 r1 ow1 fk1 q1 => q1.run lo1 ow1 fk1 fun v H2 ry μ2 t2 _ r2 ow2 fk2 ⟨p, kvs, x, e1, hm, e2, q⟩ => by
    subst e1 e2
    cases r2
    cases r1 with
    | d r1 =>
      cases r1
      obtain ⟨ov, g, c⟩ := dic_get (x := x) (ow2 _ hm)
      refine ⟨p, ov, rfl, g, t1.trans t2, _, μ2, .d (.bl _), ow2, fk2, ?_⟩
      have : ov.isSome = (dk kvs x).isSome := by
        rcases c with ⟨c, c2⟩ | ⟨r, v, c1, c2, c3⟩
        · rw [c, c2] <;> rfl
        · rw [c1, c2] <;> rfl
      rw [this]
      exact q)
theorem xe_dnotin (hr : Room k X.A) (hm : behindInMarks .NotIn o = false) (h : XE X F δ μ i fun y μ1 => XE X F δ μ1 o fun r μ2 => ∃ p kvs x, r = .r (.ref p) ∧ (p, Ob.dic kvs) ∈ μ2 ∧ y = .d (.str x) ∧ Q (.d (.bool (dk kvs x).isNone)) μ2) : XE X F δ μ (.Compare i [.NotIn] [o] pos) Q := fun σ H lo ow fk =>
  we_of (pe_cmp (pc_dnotin (hu1 hr) pe_w pe_w) hm) (h.run lo ow fk fun y H1 r μ1 t1 lo1 r1 ow1 fk1 q1 => q1.run lo1 ow1 fk1 fun v H2 ry μ2 t2 _ r2 ow2 fk2 ⟨p, kvs, x, e1, hm, e2, q⟩ => by
    subst e1 e2
    cases r2
    cases r1 with
    | d r1 =>
      cases r1
      obtain ⟨ov, g, c⟩ := dic_get (x := x) (ow2 _ hm)
      refine ⟨p, ov, rfl, g, t1.trans t2, _, μ2, .d (.bl _), ow2, fk2, ?_⟩
      have : (!ov.isSome) = (dk kvs x).isNone := by
        rcases c with ⟨c, c2⟩ | ⟨r, v, c1, c2, c3⟩
        · rw [c, c2] <;> rfl
        · rw [c1, c2] <;> rfl
      rw [this]
      exact q)
/-- d['x'] = v -/
theorem xs_dput (hr : Room k X.A) (h : XE X F δ μ e fun rv μ1 => XE X F δ μ1 o fun r μ2 => XE X F δ μ2 i fun y μ3 => ∃ p kvs x μ4, r = .r (.ref p) ∧ y = .d (.str x) ∧ kvs.length < 100000 ∧ Sw (p, .dic kvs) (p, .dic (dput kvs x rv)) μ3 μ4 ∧ D.nx δ μ4)
    (hs : swapsWith e (some (.Subscript o i pos')) pos.line X.env = pure false := by rfl) : XS X F δ μ (.Assign [.Subscript o i pos'] e pos) D := fun σ H lo ow fk =>
  ws_of (ps_dput (hu1 hr) pe_w pe_w pe_w hs) (h.run lo ow fk fun vv H1 rv μ1 t1 lo1 r1 ow1 fk1 q1 => q1.run lo1 ow1 fk1 fun v H2 r μ2 t2 lo2 r2 ow2 fk2 q2 => q2.run lo2 ow2 fk2 fun y H3 ry μ3 t3 lo3 r3 ow3 fk3 ⟨p, kvs, x, μ4, e1, e2, hl, s, q⟩ => by
    subst e1 e2
    cases r2
    cases r3 with
    | d r3 =>
      cases r3
      obtain ⟨kv, h1, h2⟩ := ow3 _ s.mem
      have hz : kv.length < sizeLine := by
        rw [DR.length h2]
        exact Nat.lt_of_lt_of_le hl (by decide)
      refine ⟨p, _, rfl, DPut.k (k := .inr x) h1 hz, ?_⟩
      have tk : TK H3 (upd H3 p (.dK (putK kv (.inr x) vv))) := s.tk ow3
      refine ⟨((t1.trans t2).trans t3).trans tk, δ, μ4, lo3.keep tk, s.ow ow3 fk3.nd ⟨_, upd_same, ?_⟩, s.fk fk3, q⟩
      have z : DR X.K (upd H3 p (.dK (putK kv (.inr x) vv))) kv kvs := ⟨h2.1, h2.2.keep tk⟩
      exact z.put (((r1.keep t2).keep t3).keep tk))
/-- d['x'] op= e, ints -/
theorem xs_daug {op : Operator} {g : Int → Int → Int} (hr : Room k X.A) (hop : InOp X op (fun x y H Q => ∃ i j, x = .int i ∧ y = .int j ∧ Q (.int (g i j)) H)) (ha : ∀ ov iv new, augStore i ov iv new = (do holding [new, ov, iv] (setItem ov iv new); release [new, ov, iv] []; pure .next))
    (h : XE X F δ μ o fun r μ1 => XE X F δ μ1 i fun y μ2 => ∃ p kvs x n, r = .r (.ref p) ∧ y = .d (.str x) ∧ (p, Ob.dic kvs) ∈ μ2 ∧ dk kvs x = some (.d (.int n)) ∧ kvs.length < 100000 ∧ XE X F δ μ2 e fun rv μ3 => ∃ m μ4, rv = .d (.int m) ∧ Sw (p, .dic kvs) (p, .dic (dput kvs x (.d (.int (g n m))))) μ3 μ4 ∧ D.nx δ μ4) :
    XS X F δ μ (.AugAssign (.Subscript o i tpos) op e pos) D := fun σ H lo ow fk =>
  ws_of (ps_daug (hu1 hr) pe_w pe_w pe_w hop ha) (h.run lo ow fk fun v H1 r μ1 t1 lo1 r1 ow1 fk1 q1 => q1.run lo1 ow1 fk1 fun y H2 ry μ2 t2 lo2 r2 ow2 fk2 ⟨p, kvs, x, n, e1, e2, hm, l, hl, q2⟩ => by
    subst e1 e2
    cases r1
    cases r2 with
    | d r2 =>
      cases r2
      obtain ⟨ov, gg, c⟩ := dic_get (x := x) (ow2 _ hm)
      rcases c with ⟨c, _⟩ | ⟨r, v, c1, c2, c3⟩
      · rw [c] at l; cases l
      · subst c2
        rw [c1] at l
        cases l
        cases c3 with
        | d c3 =>
          cases c3
          refine ⟨p, _, rfl, gg, q2.run lo2 ow2 fk2 fun y2 H3 rv μ3 t3 lo3 r3 ow3 fk3 ⟨m, μ4, e3, s, q⟩ => ?_⟩
          subst e3
          cases r3 with
          | d r3 =>
            cases r3
            obtain ⟨kv, h1, h2⟩ := ow3 _ s.mem
            have hz : kv.length < sizeLine := by
              rw [DR.length h2]
              exact Nat.lt_of_lt_of_le hl (by decide)
            refine ⟨n, m, rfl, rfl, _, DPut.k (k := .inr x) h1 hz, ?_⟩
            have tk : TK H3 (upd H3 p (.dK (putK kv (.inr x) (.int (g n m))))) := s.tk ow3
            refine ⟨((t1.trans t2).trans t3).trans tk, δ, μ4, lo3.keep tk, s.ow ow3 fk3.nd ⟨_, upd_same, ?_⟩, s.fk fk3, q⟩
            have z : DR X.K (upd H3 p (.dK (putK kv (.inr x) (.int (g n m))))) kv kvs := ⟨h2.1, h2.2.keep tk⟩
            exact z.put (.d (.int _)))
/-- d.get(k, e) -/
theorem xe_dgetD (hr : Room k X.A) (m : M2 X o "get" apos a b cpos) (h : XE X F δ μ o fun r μ1 => ∃ p kvs, r = .r (.ref p) ∧ (p, Ob.dic kvs) ∈ μ1 ∧ XE X F δ μ1 a fun y μ2 => XE X F δ μ2 b fun z μ3 => ∃ x, y = .d (.str x) ∧ (p, Ob.dic kvs) ∈ μ3 ∧ Q ((dk kvs x).getD z) μ3) :
    XE X F δ μ (.Call (.Attribute o "get" apos) [a, b] [] cpos) Q := fun σ H lo ow fk =>
  we_of (pe_dget2 (hu1 hr) pe_w pe_w pe_w m) (h.run lo ow fk fun v H1 r μ1 t1 lo1 r1 ow1 fk1 ⟨p, kvs, e1, hm, q1⟩ => by
    subst e1
    cases r1
    have hd := ow1 _ hm
    obtain ⟨kv, g1, g2⟩ := hd
    refine ⟨p, rfl, .inl ⟨kv, .inl g1⟩, q1.run lo1 ow1 fk1 fun y H2 ry μ2 t2 lo2 r2 ow2 fk2 q2 => q2.run lo2 ow2 fk2 fun z H3 rz μ3 t3 lo3 r3 ow3 fk3 ⟨x, e2, hm3, q⟩ => ?_⟩
    subst e2
    cases r2 with
    | d r2 =>
      cases r2
      obtain ⟨ov, g, c⟩ := dic_get (x := x) (ow3 _ hm3)
      refine ⟨ov, g, (t1.trans t2).trans t3, _, μ3, ?_, ow3, fk3, q⟩
      rcases c with ⟨c, c2⟩ | ⟨r, v, c1, c2, c3⟩
      · rw [c, c2]; exact r3
      · rw [c1, c2]; exact c3)

/-! ### displays -/
def XPs (X : Cx) (F : Fm) (δ : De) (μ : Mu) : List (Option Expr) → List Expr → (List (Str × Rv) → Mu → Prop) → Prop
  | [], [], Q => Q [] μ
  | some k :: ks, v :: vs, Q => XE X F δ μ k fun y μ1 => ∃ x, y = .d (.str x) ∧ XE X F δ μ1 v fun r μ2 => XPs X F δ μ2 ks vs fun ps μ3 => Q ((x, r) :: ps) μ3
  | _, _, _ => False
def trsW (X : Cx) : List (Option Expr) → List Expr → List (TE × TE)
  | some k :: ks, v :: vs => (WE X k, WE X v) :: trsW X ks vs
  | _, _ => []
theorem pps_w : ∀ {ks : List (Option Expr)} {vs : List Expr}, (ks.all (·.isSome) && ks.length == vs.length) = true → PPs X pos ks vs (trsW X ks vs)
  | [], [], _ => pps_nil
  | some k :: ks, v :: vs, hl => by
    rw [List.all_cons, List.length_cons, List.length_cons] at hl
    have h' : (ks.all (·.isSome) && ks.length == vs.length) = true := by simpa using hl
    exact pps_cons pe_w pe_w (pps_w h')
  | [], _ :: _, hl => by simp at hl
  | some _ :: _, [], hl => by simp at hl
  | none :: _, _, hl => by simp at hl
theorem xps_run : ∀ {ks : List (Option Expr)} {vs : List Expr} {Q : List (Str × Rv) → Mu → Prop} {μ : Mu} {σ : L2.St} {H : Hp} {R : List (V × V) → Hp → Prop}, XPs X F δ μ ks vs Q → Lo X.K H σ δ → Ow X.K H μ → Fk F H μ →
    (∀ ps H' rs μ', TK H H' → rs.length = ks.length → ps.map (·.1) = rs.map (fun q => V.str q.1) → Rks X.K H' (ps.map (·.2)) (rs.map (·.2)) → Ow X.K H' μ' → Fk F H' μ' → Q rs μ' → R ps H') → tPairs (trsW X ks vs) σ H R
  | [], [], Q, μ, σ, H, R, h, lo, ow, fk, k => k [] H [] μ (TK.refl H) rfl rfl .nil ow fk h
  | some kk :: ks, v :: vs, Q, μ, σ, H, R, h, lo, ow, fk, k => by
    have h' : XE X F δ μ kk fun y μ1 => ∃ x, y = .d (.str x) ∧ XE X F δ μ1 v fun r μ2 => XPs X F δ μ2 ks vs fun ps μ3 => Q ((x, r) :: ps) μ3 := h
    show WE X kk σ H _
    refine h'.run lo ow fk fun y H1 ry μ1 t1 lo1 r1 ow1 fk1 ⟨x, e, q1⟩ => ?_
    subst e
    cases r1 with
    | d r1 =>
      cases r1
      refine q1.run lo1 ow1 fk1 fun u H2 ru μ2 t2 lo2 r2 ow2 fk2 q2 => ?_
      refine xps_run q2 lo2 ow2 fk2 fun ps H3 rs μ3 t3 e0 e1 r3 ow3 fk3 q3 => ?_
      exact k _ H3 ((x, ru) :: rs) μ3 ((t1.trans t2).trans t3) (by rw [List.length_cons, List.length_cons, e0]) (by rw [List.map_cons, List.map_cons, e1]) (.cons (r2.keep t3) r3) ow3 fk3 q3
  | [], _ :: _, _, _, _, _, _, h, _, _, _, _ => h.elim
  | some _ :: _, [], _, _, _, _, _, h, _, _, _, _ => h.elim
  | none :: _, _, _, _, _, _, _, h, _, _, _, _ => by cases h
theorem pairs_back : ∀ {ps : List (V × V)} {rs : List (Str × Rv)}, ps.map (·.1) = rs.map (fun q => V.str q.1) → ∃ kv : List (Key × V), ps = kv.map (fun z => (kV z.1, z.2)) ∧ kv.map (·.1) = rs.map (fun q => Sum.inr q.1) ∧ kv.map (·.2) = ps.map (·.2)
  | [], [], _ => ⟨[], rfl, rfl, rfl⟩
  | [], _ :: _, h => by simp at h
  | _ :: _, [], h => by simp at h
  | p :: ps, q :: rs, h => by
    rw [List.map_cons, List.map_cons] at h
    injection h with h1 h2
    obtain ⟨kv, e1, e2, e3⟩ := pairs_back h2
    refine ⟨(.inr q.1, p.2) :: kv, ?_, ?_, ?_⟩
    · rw [List.map_cons, ← e1]
      congr 1
      show p = (V.str q.1, p.2)
      rw [← h1]
    · rw [List.map_cons, List.map_cons, e2]
    · rw [List.map_cons, List.map_cons, e3]
/-- {'a': .., ..} -/
theorem xe_disp {keys : List (Option Expr)} {values : List Expr} (h : ∀ F', XPs X F' δ μ keys values fun rs μ1 => ∀ p, Q (.r (.ref p)) ((p, .dic (dmerge [] rs)) :: μ1)) (hall : keys.all (·.isSome) = true := by rfl) (hl : keys.length = values.length := by rfl) (h0 : keys ≠ [] := by exact List.cons_ne_nil _ _) (h15 : keys.length ≤ 15 := by decide) :
    XE X F δ μ (.Dict keys values pos) Q := fun σ H lo ow fk =>
  we_of (pe_disp (pps_w (by rw [hall, hl]; simp)) hall hl h0 h15) fun p hp => by
    have tn : TK H (upd H p (.dK [])) := TK.new hp _
    have hn : p ∉ μ.map (·.1) := fun z => by
      obtain ⟨q, hq, e⟩ := List.mem_map.mp z
      obtain ⟨u, h1, _⟩ := (ow q hq).there
      rw [e, hp] at h1
      cases h1
    have ow0 := ow.new hp (.dK [])
    have fk0 := fk.new hp (.dK [])
    refine xps_run (h ⟨upd H p (.dK []), μ.map (·.1)⟩) (lo.keep tn) ow0 (Fk.start fk.nd) fun ps H2 rs μ2 t2 e0 e1 r2 ow2 fk2 q => ?_
    have hp2 : H2 p = some (.dK []) := fk2.kp p _ upd_same hn
    refine ⟨hp2, ?_⟩
    obtain ⟨kv, k1, k2, k3⟩ := pairs_back e1
    have hl2 : kv.length = rs.length := by have := congrArg List.length k2; simpa using this
    have t3 : TK H2 (upd H2 p (.dK (mergeK [] kv))) := TK.upd hp2 fun z => z
    have hn2 : p ∉ μ2.map (·.1) := fun z => by
      obtain ⟨q, hq, e⟩ := List.mem_map.mp z
      rcases fk2.nw q hq with g | g
      · rw [e] at g; exact hn g
      · have g' : upd H p (.dK []) q.1 = none := g
        rw [e, upd_same] at g'
        cases g'
    refine ⟨kv, k1, by rw [hl2, e0]; exact h15, (tn.trans t2).trans t3, _, _, .r _, (ow2.upd hp2 (fun z => z) hn2).more (a := p) (o := .dic (dmerge [] rs)) ⟨_, upd_same, ?_⟩, ?_, q p⟩
    · have z : DR X.K (upd H2 p (.dK (mergeK [] kv))) kv rs := ⟨k2, by rw [k3]; exact r2.keep t3⟩
      exact z.merge .nil
    · have f := (Fk.then fk0 ow0 fk2).upd (o := .dK (mergeK [] kv)) (fk.new_or hp)
      refine ⟨List.nodup_cons.mpr ⟨hn2, f.nd⟩, f.kp, fun q hq => ?_⟩
      rcases List.mem_cons.mp hq with rfl | hq
      · exact fk.new_or hp
      · exact f.nw q hq

/-! ### dict(..) -/
/-- dict(d) of a dict in μ -/
theorem xe_dcopy (hm : X.mg "dict" = none) (h : XA X F δ μ [e] fun rs μ1 => ∃ p kvs, rs = [.r (.ref p)] ∧ (p, Ob.dic kvs) ∈ μ1 ∧ ∀ p, Q (.r (.ref p)) ((p, .dic kvs) :: μ1)) (hg : Gl X "dict" := by rfl) (he : starEach [e] X.env = (false, eval e X.env) :: starEach [] X.env := by rfl) : XE X F δ μ (.Call (.Name "dict" p) [e] [] pos) Q :=
  xe_callTy call_dictD (fun _ _ _ _ k ⟨p, ys, e, h, q⟩ => ⟨p, ys, e, h, fun l hl => k _ _ (q l hl)⟩) hm (by decide +kernel) (fun σ H lo ow fk => h.run lo ow fk fun vs H1 rs μ1 t1 _ r ow1 fk1 ⟨p, kvs, e, hs, q⟩ => ⟨t1, rs, μ1, r, ow1, fk1, fun vs' H' r' w f => by
    subst e
    cases r' with
    | cons r1 r2 =>
      cases r2
      cases r1
      obtain ⟨kv, h1, h2⟩ := w _ hs
      exact ⟨p, kv, rfl, .inl h1, fun l hl => pe_newO (ob := .dic kvs) hl ⟨kv, upd_same, h2.1, h2.2.keep (TK.new hl _)⟩ w f (q l)⟩⟩) hg (by decide) (by decide) he rfl
/-- dict(D) of a module's dict that stays -/
theorem xe_dcopyG {x : Str} {a : Addr} {kv : List (Key × V)} {kvs : List (Str × Rv)} (hm : X.mg "dict" = none) (hgx : Gl X x) (hmx : X.mg x = some (.ref a)) (hd : ∀ H, ∃ u : Unit, DR X.K H kv kvs) (q : ∀ p, Q (.r (.ref p)) ((p, .dic kvs) :: μ))
    (hrd : CallR X (.type "dict") (fun xs H Q => xs = [V.ref a] ∧ ∀ p, H p = none → Q (.ref p) (upd H p (.dK kv)))) (hdb : (x == ("__debug__" : Str)) = false := by decide) (hg : Gl X "dict" := by rfl) (he : starEach [.Name x pos'] X.env = (false, eval (.Name x pos') X.env) :: starEach [] X.env := by rfl) : XE X F δ μ (.Call (.Name "dict" p) [.Name x pos'] [] pos) Q :=
  xe_callTy hrd (fun _ _ _ _ k ⟨e, q⟩ => ⟨e, fun l hl => k _ _ (q l hl)⟩) hm (by decide +kernel) (xa_cons (xe_glob (v := .ref a) hgx hmx rfl (fun _ => .r (.ref a)) (xa_nil fun vs' H' r' w f => by
    cases r' with
    | cons r1 r2 =>
      cases r2
      cases r1
      refine ⟨rfl, fun l hl => ?_⟩
      obtain ⟨_, z1, z2⟩ := hd (upd H' l (.dK kv))
      exact pe_newO (ob := .dic kvs) hl ⟨kv, upd_same, z1, z2⟩ w f (q l)) hdb) he) hg (by decide) (by decide) he rfl
end
end Ds

/-! text Ds7 -/
/-! Code over data: dicts of pairs, update; tuples joined and cut; lists that change. -/
namespace Ds
open PySem PySem.Spec PyProof.Rows L2

/-! ### dict(pairs) -/
section
variable {X : Cx}
theorem SqP.plain {pins : List (Addr × Obj)} {σ : L2.St} {H : Hp} {s : Shared} {a : Addr} {xs : List V} (I : Inv X pins σ H s) (h : SqP X.K H a xs) : ∃ its : List Value, Vals xs its ∧ PlainSeq "tuple" s.heap a its.toArray ∧ xs.length ≤ sizeLine := by
  rcases h with ⟨o, h, hd⟩ | ⟨o, its, n, hk, hc, hd, hs, hz, r⟩
  · obtain ⟨e, z, its, r, o', h1, h2, n, h3⟩ := (show ObjOk X.prog X.w H s.heap a (.frz o (.tup xs)) from I.hok a _ h)
    rw [e] at h1
    cases h1
    exact ⟨its, r, ⟨o, n, e, h2, hd, h3⟩, z⟩
  · refine ⟨its.toList, r, ⟨o, n, I.kIn a o hk, hc, hd, by simpa using hs⟩, ?_⟩
    have e := r.length
    simp only [Array.length_toList] at e
    omega
/-- dict(t) of a tuple of pairs -/
theorem call_dictPT (hcalm : X.calm = true) : CallR X (.type "dict") (fun xs H Q => ∃ (a : Addr) (ps : List Addr) (kvs : List (Key × V)), xs = [.ref a] ∧ SqP X.K H a (ps.map V.ref) ∧ Paired (fun p kv => SqT X.K H p [kV kv.1, kv.2]) ps kvs ∧
    ∀ p, H p = none → Q (.ref p) (upd H p (.dK (mergeK [] kvs)))) := by
  intro pins s σ H xs us Q I r q
  obtain ⟨a, ps, kvs, ex, hq, hp, q⟩ := q
  subst ex
  obtain ⟨u, eu, rx⟩ := vals1 r
  subst eu
  cases rx
  obtain ⟨its, rv, pl, hz⟩ := hq.plain I
  have ei := refs_at rv
  subst ei
  rw [List.length_map] at hz
  obtain ⟨prs, rel, hl, hpr⟩ := pairs_of I hp
  have keys : ∀ (j : Nat), j < ps.length → ∃ (q : Key × Value) (b : Addr) (u : Value), prs[j]? = some q ∧ ps[j]? = some b ∧ IsTup s.heap b #[u, q.2] ∧ keyIs q.1 u = true := fun j hj => by
    have hj' : j < prs.length := by rw [hl]; exact hj
    have e := List.getElem?_eq_getElem hj'
    obtain ⟨b, u, e1, e2, e3⟩ := hpr j _ e
    exact ⟨_, b, u, e, e1, e2, e3⟩
  have build : ∀ (l : List Addr) (m : List (Key × Value)), (m.length = l.length ∧ ∀ (j : Nat) (q : Key × Value), m[j]? = some q → ∃ (b : Addr) (u : Value), l[j]? = some b ∧ IsTup s.heap b #[u, q.2] ∧ keyIs q.1 u = true) →
      ∃ us : List Value, us.length = m.length ∧ ∀ (j : Nat) (q : Key × Value), m[j]? = some q → ∃ (b : Addr) (u : Value), us[j]? = some u ∧ l[j]? = some b ∧ IsTup s.heap b #[u, q.2] ∧ keyIs q.1 u = true := by
    intro l m
    induction m generalizing l with
    | nil => exact fun _ => ⟨[], rfl, fun j q e => by simp at e⟩
    | cons p m ih =>
      rintro ⟨h1, h2⟩
      cases l with
      | nil => cases h1
      | cons b l =>
        obtain ⟨b0, u0, e0, f0, g0⟩ := h2 0 p rfl
        obtain ⟨us, l1, l2⟩ := ih l ⟨by simpa using h1, fun j q e => by
          obtain ⟨b, u, z⟩ := h2 (j + 1) q (by simpa using e)
          exact ⟨b, u, by simpa using z⟩⟩
        refine ⟨u0 :: us, by simp [l1], fun j q e => ?_⟩
        cases j with
        | zero =>
          have e' : p = q := Option.some.inj e
          subst e'
          exact ⟨b0, u0, rfl, e0, f0, g0⟩
        | succ j =>
          obtain ⟨b', u', z⟩ := l2 j q (by simpa using e)
          exact ⟨b', u', by simpa using z⟩
  obtain ⟨us, hul, hus⟩ := build ps prs ⟨hl, hpr⟩
  let zs : List (Value × Value) := us.zip (prs.map (·.2))
  have zl : zs.length = ps.length := by simp [zs, hul, hl]
  have zat : ∀ (j : Nat) (k v : Value), zs[j]? = some (k, v) → ∃ (q : Key × Value) (b : Addr), prs[j]? = some q ∧ v = q.2 ∧ ps[j]? = some b ∧ IsTup s.heap b #[k, v] ∧ keyIs q.1 k = true := fun j k v e => by
    have hj : j < zs.length := (List.getElem?_eq_some_iff.mp e).1
    have hj' : j < prs.length := by rw [hl, ← zl]; exact hj
    have e1 := List.getElem?_eq_getElem hj'
    obtain ⟨b, u, f1, f2, f3, f4⟩ := hus j _ e1
    have e2 : zs[j]? = some (u, prs[j].2) := by
      show (us.zip (prs.map (·.2)))[j]? = _
      rw [List.getElem?_zip_eq_some]
      exact ⟨f1, by rw [List.getElem?_map, e1]; rfl⟩
    rw [e2] at e
    cases e
    exact ⟨_, b, e1, rfl, f2, f3, f4⟩
  have P := PySem.PairArg.tuple (prog := X.prog) (w := X.w) a (ps.map Value.ref).toArray (fun j => ps.getD j 0) zs
  refine PySem.call_dict_pairs (knd := mixKind X.prog X.w) (kvs := prs) P (I.ok.hd hcalm) ⟨pl, by simp [zl], fun j k v e => ?_⟩ ⟨by rw [zl, hl], fun j k v e => ?_⟩ (by rw [zl]; exact hz) fun h' tk hd' k => ?_
  · obtain ⟨q, b, e1, e2, e3, e4, e5⟩ := zat j k v e
    have eb : ps.getD j 0 = b := by rw [List.getD_eq_getElem?_getD, e3]; rfl
    exact ⟨by simp [e3], .inl (by show s.heap.IsTuple (ps.getD j 0) #[k, v]; rw [eb]; exact e4)⟩
  · obtain ⟨q, b, e1, e2, e3, e4, e5⟩ := zat j k v e
    exact ⟨q.1, by rw [e1, e2], e5⟩
  · have hm : (s.heap.objs.size == sysModules) = false := beq_eq_false_iff_ne.mpr (Nat.ne_of_gt I.big)
    have hlen : (mergeK [] kvs).length ≤ sizeLine := by
      refine Nat.le_trans (length_mergeK kvs []) ?_
      rw [List.length_nil, Nat.zero_add, rel.length, hl]
      exact hz
    exact ⟨.ref s.heap.objs.size, upd H s.heap.objs.size (.dK (mergeK [] kvs)), I.laid (t' := tk) (fun b o e => k b o (by simp) e) (Nat.le_refl _) (show ObjOk X.prog X.w _ _ _ (.dK (mergeK [] kvs)) from ⟨hlen, hm, merged [] prs, KV.merge rel .nil, hd'⟩), rfl, q _ (I.hok.fresh (Nat.le_refl _))⟩
end
/-- pairs of a text and something -/
inductive Pr : Rv → Str × Rv → Prop
  | d (x : Str) (y : PyData) : Pr (.d (.tuple [.str x, y])) (x, .d y)
  | t (x : Str) (y : Rv) : Pr (.t [.d (.str x), y]) (x, y)
  | z (x : Str) (y : Rv) : Pr (.z [.d (.str x), y]) (x, y)
inductive Prs : List Rv → List (Str × Rv) → Prop
  | nil : Prs [] []
  | cons {r : Rv} {p : Str × Rv} {rs : List Rv} {ps : List (Str × Rv)} : Pr r p → Prs rs ps → Prs (r :: rs) (p :: ps)
theorem Pr.at_ {K : PySem.W.Frag} {H : Hp} {r : Rv} {p : Str × Rv} {v : V} (h : Pr r p) (hr : Rk K H v r) : ∃ a y, v = .ref a ∧ SqT K H a [.str p.1, y] ∧ Rk K H y p.2 := by
  cases h with
  | d x y => cases hr with
    | d h => cases h with
      | tup h1 h2 => cases h2 with
        | cons a b => cases b with
          | cons c d =>
            cases d
            cases a
            exact ⟨_, _, rfl, h1.sq, .d c⟩
  | t x y => cases hr with
    | t h1 h2 => cases h2 with
      | cons a b => cases b with
        | cons c d =>
          cases d
          cases a with
          | d a => cases a; exact ⟨_, _, rfl, h1.sq, c⟩
  | z x y => cases hr with
    | z h1 h2 => cases h2 with
      | cons a b => cases b with
        | cons c d =>
          cases d
          cases a with
          | d a => cases a; exact ⟨_, _, rfl, h1, c⟩
theorem Prs.at_ {K : PySem.W.Frag} {H : Hp} : ∀ {rs : List Rv} {ps : List (Str × Rv)} {vs : List V}, Prs rs ps → Rks K H vs rs → ∃ (as : List Addr) (kv : List (Key × V)), vs = as.map V.ref ∧ Paired (fun p kv => SqT K H p [kV kv.1, kv.2]) as kv ∧ DR K H kv ps
  | _, _, _, .nil, h => by cases h; exact ⟨[], [], rfl, .nil, .nil⟩
  | _, _, _, .cons h t, hr => by
    cases hr with
    | cons h1 h2 =>
      obtain ⟨a, y, rfl, g1, g2⟩ := h.at_ h1
      obtain ⟨as, kv, rfl, g3, g4⟩ := t.at_ h2
      exact ⟨a :: as, (.inr _, y) :: kv, rfl, .cons g1 g3, .cons g2 g4⟩

section
variable {X : Cx} {F : Fm} {δ : De} {μ : Mu} {o i e a b tg iter : Expr} {es : List Expr} {pos p pos' tpos apos cpos p2 : Pos} {Q : Rv → Mu → Prop} {D : Dn} {k : Nat} {x : Str}
/-- dict(pairs) -/
theorem xe_dictP (hm : X.mg "dict" = none) (h : XA X F δ μ [e] fun rs μ1 => ∃ ra xs kvs, rs = [ra] ∧ Sq μ1 ra xs ∧ (IsT ra ∨ ∃ p, ra = .r (.ref p)) ∧ Prs xs kvs ∧ ∀ p, Q (.r (.ref p)) ((p, .dic (dmerge [] kvs)) :: μ1)) (hc : X.calm = true := by rfl) (hg : Gl X "dict" := by rfl) (he : starEach [e] X.env = (false, eval e X.env) :: starEach [] X.env := by rfl) : XE X F δ μ (.Call (.Name "dict" p) [e] [] pos) Q :=
  xe_callTy ((call_dictP hc).or (call_dictPT hc)) (fun _ _ _ _ k h => h.imp (fun ⟨p, ys, kv, e, h, h2, q⟩ => ⟨p, ys, kv, e, h, h2, fun l hl => k _ _ (q l hl)⟩) (fun ⟨p, ys, kv, e, h, h2, q⟩ => ⟨p, ys, kv, e, h, h2, fun l hl => k _ _ (q l hl)⟩)) hm (by decide +kernel) (fun σ H lo ow fk => h.run lo ow fk fun vs H1 rs μ1 t1 _ r ow1 fk1 ⟨ra, xs, kvs, e, hs, ht, hp, q⟩ => ⟨t1, rs, μ1, r, ow1, fk1, fun vs' H' r' w f => by
    subst e
    cases r' with
    | cons r1 r2 =>
      cases r2
      have fin : ∀ {l : Addr} {kv : List (Key × V)}, DR X.K H' kv kvs → H' l = none → Pe X.K F H' Q (.ref l) (upd H' l (.dK (mergeK [] kv))) := fun {l kv} d hl => by
        have z : DR X.K (upd H' l (.dK (mergeK [] kv))) kv kvs := ⟨d.1, d.2.keep (TK.new hl _)⟩
        exact pe_newO (ob := .dic (dmerge [] kvs)) hl ⟨_, upd_same, z.merge .nil⟩ w f (q l)
      rcases ht with ht | ⟨p, rfl⟩
      · obtain ⟨p, ws, rfl, hq, hv⟩ := hs.tuple ht r1
        obtain ⟨as, kv, rfl, g1, g2⟩ := hp.at_ hv
        exact .inr ⟨p, as, kv, rfl, hq, g1, fun l hl => fin g2 hl⟩
      · cases r1
        cases hs with
        | lst hs =>
          obtain ⟨ws, h1, hv⟩ := w _ hs
          obtain ⟨as, kv, rfl, g1, g2⟩ := hp.at_ hv
          exact .inl ⟨p, as, kv, rfl, SqL.of h1, g1, fun l hl => fin g2 hl⟩⟩) hg (by decide) (by decide) he rfl
/-- d.update(e) -/
def rUpd : V → List V → Hp → VK → Prop := fun x vs H Q => ∃ (a b : Addr) (kv mv : List (Key × V)), x = .ref a ∧ vs = [.ref b] ∧ H a = some (.dK kv) ∧ H b = some (.dK mv) ∧ a ≠ b ∧ kv.length + mv.length ≤ sizeLine ∧ Q .non (upd H a (.dK (mergeK kv mv)))
theorem mt_upd : MtR X "dict.update" rUpd := by
  intro pins s σ H x xs v us Q I rx rs h
  obtain ⟨a, b, kv, mv, rfl, rfl, ha, hb, hne, hz, q⟩ := h
  cases rx
  obtain ⟨u, rfl, ru⟩ := vals1 rs
  cases ru
  obtain ⟨z, hd, vs, rel, dd⟩ := dk_of I.hok ha
  obtain ⟨z2, hd2, vs2, rel2, dd2⟩ := dk_of I.hok hb
  refine call_meetsIn PySem.F.slot_dict_update dd.typeIs PySem.F.entry_dict_update (PySem.F.args_dict_update_2 _ _) (meets_dict_update (mixKind X.prog X.w) a b hne hd2)
    ⟨vs, vs2, dd, dd2, by rw [← rel.length, ← rel2.length]; exact hz, fun h' dd' _ hs => ?_⟩
  have he : ∃ q, h'.get? a = some q := let ⟨q, _, _, hq, _⟩ := dd'; ⟨q, hq⟩
  exact ⟨.non, _, d_write (t' := s.toks) I (by rw [ha]; exact True.intro) hs he (dk_new (Nat.le_trans (length_mergeK mv kv) hz) hd (KV.merge rel2 rel) dd'), rfl, q⟩
theorem mt_mono {r : V → List V → Hp → VK → Prop} {T id : String} {name : Str} (pa : PlainAttrs T) (slot : Slot T name id) (hty : typeOf (.builtin id) = pure (.type "method_descriptor")) (hm : MtR X id r) (mono : ∀ x vs H (Q Q' : VK), (∀ v H', Q v H' → Q' v H') → r x vs H Q → r x vs H Q')
    (h : XE X F δ μ o fun ro μ1 => (∀ v H, Rk X.K H v ro → Ow X.K H μ1 → tyV X.K T v H) ∧ XA X F δ μ1 (e :: es) fun rs μ2 => ∀ v vs H, Rk X.K H v ro → Rks X.K H vs rs → Ow X.K H μ2 → Fk F H μ2 → r v vs H (Pe X.K F H Q))
    (hbase : attributeBase o name X.env (eval o X.env) = eval o X.env := by rfl)
    (hfew : ((backTo cpos (starEach (e :: es) X.env)).all (fun x => !x.1) && (backToKw cpos (keywordEach [] X.env)).all (fun x => x.1.isSome)
      && decide ((e :: es).length + ([] : List Keyword).length + (if ([] : List Keyword).isEmpty then 0 else 1) < 30)) = true := by rfl)
    (hline : (apos.endLine == cpos.line) = true := by rfl) (hs : starEach (e :: es) X.env = (false, eval e X.env) :: starEach es X.env := by rfl) (hplain : (backTo cpos (starEach es X.env)).any (·.1) = false := by rfl) :
    XE X F δ μ (.Call (.Attribute o name apos) (e :: es) [] cpos) Q := fun σ H lo ow fk =>
  we_of (pe_bm pa slot hty hm pe_w pa_w hbase hfew hline hs hplain) (h.run lo ow fk fun v H1 ro μ1 t1 lo1 r1 ow1 fk1 ⟨ty, q⟩ => ⟨ty v H1 r1 ow1, q.run lo1 ow1 fk1 fun vs H2 rs μ2 t2 _ r2 ow2 fk2 q2 => mono _ _ _ _ _ (Pe.back (t1.trans t2)) (q2 v vs H2 (r1.keep t2) r2 ow2 fk2)⟩)
theorem dmerge_le : ∀ (more kvs : List (Str × Rv)), (dmerge kvs more).length ≤ kvs.length + more.length
  | [], kvs => Nat.le_refl _
  | p :: more, kvs => by
    have h1 := dmerge_le more (dput kvs p.1 p.2)
    have h2 : (dput kvs p.1 p.2).length ≤ kvs.length + 1 := by
      unfold dput
      split
      · rw [List.length_map]; omega
      · simp
    show (dmerge (dput kvs p.1 p.2) more).length ≤ _
    simp only [List.length_cons]
    omega
theorem xe_upd (h : XE X F δ μ o fun ro μ1 => ∃ p kv0, ro = .r (.ref p) ∧ (p, Ob.dic kv0) ∈ μ1 ∧ XA X F δ μ1 [e] fun rs μ2 => ∃ q kvs more μ3, rs = [.r (.ref q)] ∧ (List.Sublist [(p, Ob.dic kvs), (q, Ob.dic more)] μ2 ∨ List.Sublist [(q, Ob.dic more), (p, Ob.dic kvs)] μ2) ∧ kvs.length + more.length ≤ 100000 ∧ Sw (p, .dic kvs) (p, .dic (dmerge kvs more)) μ2 μ3 ∧ Q (.d .none) μ3)
    (hbase : attributeBase o "update" X.env (eval o X.env) = eval o X.env := by rfl)
    (hfew : ((backTo cpos (starEach [e] X.env)).all (fun x => !x.1) && (backToKw cpos (keywordEach [] X.env)).all (fun x => x.1.isSome)
      && decide (([e] : List Expr).length + ([] : List Keyword).length + (if ([] : List Keyword).isEmpty then 0 else 1) < 30)) = true := by rfl)
    (hline : (apos.endLine == cpos.line) = true := by rfl) (hs : starEach [e] X.env = (false, eval e X.env) :: starEach [] X.env := by rfl) (hplain : (backTo cpos (starEach [] X.env)).any (·.1) = false := by rfl) :
    XE X F δ μ (.Call (.Attribute o "update" apos) [e] [] cpos) Q :=
  mt_mono PySem.F.plainAttrs_dict PySem.F.slot_dict_update PySem.F.type_dict_update mt_upd (fun _ _ _ _ _ k ⟨a, b, kv, mv, h1, h2, h3, h4, h5, h6, q⟩ => ⟨a, b, kv, mv, h1, h2, h3, h4, h5, h6, k _ _ q⟩)
    (h.mono fun ro μ1 ⟨p, kv0, e1, hm, q⟩ => ⟨fun v H hr w => by
      subst e1
      cases hr
      obtain ⟨kv, g1, _⟩ := w _ hm
      exact .inr (.inr (.inl ⟨rfl, .inl ⟨kv, g1⟩⟩)), fun σ H lo ow fk => q.run lo ow fk fun vs H1 rs μ2 t1 _ r1 ow1 fk1 ⟨qq, kvs, more, μ3, e2, h2, hl, s, q3⟩ => ⟨t1, rs, μ2, r1, ow1, fk1, fun v vs H hr hrs w f => by
      subst e1 e2
      have hne : p ≠ qq := by
        rcases h2 with h2 | h2
        · have nd := (h2.map (·.1)).nodup f.nd
          simp only [List.map_cons, List.map_nil, List.nodup_cons, List.mem_cons, List.not_mem_nil, or_false] at nd
          exact nd.1
        · have nd := (h2.map (·.1)).nodup f.nd
          simp only [List.map_cons, List.map_nil, List.nodup_cons, List.mem_cons, List.not_mem_nil, or_false] at nd
          exact fun z => nd.1 z.symm
      have hm2 : (qq, Ob.dic more) ∈ μ2 := by
        rcases h2 with h2 | h2
        · exact h2.subset (List.mem_cons_of_mem _ List.mem_cons_self)
        · exact h2.subset List.mem_cons_self
      cases hr
      cases hrs with
      | cons a b =>
        cases b
        cases a
        obtain ⟨kv, g1, g2⟩ := w _ s.mem
        obtain ⟨mv, g3, g4⟩ := w _ hm2
        refine ⟨p, qq, kv, mv, rfl, rfl, g1, g3, hne, ?_, ?_⟩
        · rw [DR.length g2, DR.length g4]
          exact sz_of hl
        · have tk : TK H (upd H p (.dK (mergeK kv mv))) := s.tk w
          have z1 : DR X.K (upd H p (.dK (mergeK kv mv))) kv kvs := ⟨g2.1, g2.2.keep tk⟩
          have z2 : DR X.K (upd H p (.dK (mergeK kv mv))) mv more := ⟨g4.1, g4.2.keep tk⟩
          exact s.pe w f ⟨_, upd_same, DR.merge z2 z1⟩ (.d .non) q3⟩⟩) hbase hfew hline hs hplain
end
end Ds

/-! text Ds8 -/
/-! Code over data: tuples joined and cut; lists that change; sums. -/
namespace Ds
open PySem PySem.Spec PyProof.Rows L2

section
variable {X : Cx}
/-- t + u of tuples; the new one is known to have no dict -/
def rCatP (K : PySem.W.Frag) : R2 := fun x y H Q => ∃ a b xs ys, x = .ref a ∧ y = .ref b ∧ SqT K H a xs ∧ SqT K H b ys ∧ xs.length + ys.length ≤ sizeLine ∧
  (xs = [] → Q (.ref b) H) ∧ (xs ≠ [] → ys = [] → Q (.ref a) H) ∧ (xs ≠ [] → ys ≠ [] → ∀ p o, H p = none → o.dict = none → Q (.ref p) (upd H p (.frz o (.tup (xs ++ ys)))))
theorem op_catP : OpR X (binaryOp .Add) (rCatP X.K) := by
  intro pins s σ H x y v u Q I rx ry h
  obtain ⟨a, b, xs, ys, rfl, rfl, ha, hb, hz, q0, q1, q2⟩ := h
  cases rx
  cases ry
  obtain ⟨its, r1, p1, _⟩ := I.tuple ha
  obtain ⟨its2, r2, p2, _⟩ := I.tuple hb
  by_cases hx : xs = []
  · subst hx
    cases r1
    exact cat_tup0 p1 p2 ⟨.ref b, H, I, rfl, q0 rfl⟩
  · refine HT.cat_tup p1 p2 (fun z => hx (r1.nil_iff.mp z)) (fun z => ⟨.ref a, H, I, rfl, q1 hx (r2.nil_iff.mp z)⟩) (fun z => ?_) (by rw [← r1.length, ← r2.length]; exact hz)
    refine ⟨.ref s.heap.objs.size, _, I.laid (t' := s.toks) (o := .frz { cls := .type "tuple", data := .seq (its ++ its2).toArray } (.tup (xs ++ ys))) (fun b ob q => Heap.get?_push_of_some _ q) (Nat.le_refl _) ?_, rfl, q2 hx (fun w => z (r2.nil_iff.mpr w)) _ _ (I.hok.fresh (Nat.le_refl _)) rfl⟩
    exact ⟨by first | exact Heap.get?_push_size _ rfl | (rw [show (its ++ its2).toArray = its.toArray ++ its2.toArray by simp]; exact Heap.get?_push_size _ rfl), by rw [List.length_append]; exact hz, _, r1.append r2, IsTup.new _ _⟩
/-- t[lo:hi] -/
def rSlP (K : PySem.W.Frag) : V → Option Int → Option Int → Hp → VK → Prop := fun x lo hi H Q => ∃ a xs, x = .ref a ∧ SqT K H a xs ∧
  (cutV xs lo hi = xs → Q (.ref a) H) ∧ (∀ p o, H p = none → o.dict = none → Q (.ref p) (upd H p (.frz o (.tup (cutV xs lo hi)))))
theorem sl_tupP : SlR X (rSlP X.K) := by
  intro pins s σ H x v vl vu lo hi sl Q I rx hs pl pu h
  obtain ⟨a, xs, rfl, hx, q1, q2⟩ := h
  cases rx
  obtain ⟨its, r, ht, hz⟩ := I.tuple hx
  have hlen : its.toArray.size = xs.length := by rw [List.size_toArray]; exact r.length.symm
  refine ⟨"tuple", _, PyProof.Rows.slot_tuple_getitem.lookup, ht.typeIs, ?_⟩
  by_cases hw : HT.sIx xs.length 0 lo = 0 ∧ HT.sIx xs.length xs.length hi = xs.length
  · refine getItem_tuple_whole ht hs pl pu (by rw [hlen]; exact hw) ⟨.ref a, H, I, rfl, q1 ?_⟩
    unfold cutV
    rw [hw.1, hw.2]
    simp
  · refine HT.getItem_tuple_cut ht hs pl pu (by rw [hlen]; exact hw) ?_ (by rw [hlen]; exact hz)
    rw [hlen]
    have z := I.laid (a := s.heap.objs.size) (t' := s.toks) (o := .frz { cls := .type "tuple", data := .seq ((its.drop (HT.sIx xs.length 0 lo)).take (HT.sIx xs.length xs.length hi - HT.sIx xs.length 0 lo)).toArray } (.tup (cutV xs lo hi)))
      (h' := s.heap.push { cls := .type "tuple", data := .seq ((its.drop (HT.sIx xs.length 0 lo)).take (HT.sIx xs.length xs.length hi - HT.sIx xs.length 0 lo)).toArray }) (fun b ob q => Heap.get?_push_of_some _ q) (Nat.le_refl _)
      ⟨Heap.get?_push_size _ rfl, Nat.le_trans (cutV_length xs lo hi) hz, _, (r.drop (HT.sIx xs.length 0 lo)).take (HT.sIx xs.length xs.length hi - HT.sIx xs.length 0 lo), IsTup.new _ _⟩
    exact ⟨.ref s.heap.objs.size, _, z, rfl, q2 _ _ (I.hok.fresh (Nat.le_refl _)) rfl⟩
end
def cutR {α : Type} (xs : List α) (lo hi : Option Int) : List α := (xs.drop (HT.sIx xs.length 0 lo)).take (HT.sIx xs.length xs.length hi - HT.sIx xs.length 0 lo)
theorem Rks.cut {K : PySem.W.Frag} {H : Hp} {vs : List V} {xs : List Rv} (h : Rks K H vs xs) (lo hi : Option Int) : Rks K H (cutV vs lo hi) (cutR xs lo hi) := by
  unfold cutV cutR
  rw [h.length]
  exact Rks.take _ (Rks.drop _ h)

section
variable {X : Cx} {F : Fm} {δ : De} {μ : Mu} {o i e a b tg iter : Expr} {es : List Expr} {pos p pos' tpos apos cpos p2 : Pos} {Q : Rv → Mu → Prop} {D : Dn} {k : Nat} {x : Str}
/-- t + u -/
theorem xe_cat (h : XE X F δ μ a fun ra μ1 => XE X F δ μ1 b fun rb μ2 => ∃ xs ys, IsT ra ∧ Sq μ2 ra xs ∧ IsT rb ∧ Sq μ2 rb ys ∧ xs.length + ys.length ≤ 100000 ∧ Q (.t (xs ++ ys)) μ2) : XE X F δ μ (.BinOp a .Add b pos) Q :=
  xe_op op_catP (fun _ _ _ _ _ k ⟨a, b, xs, ys, h1, h2, h3, h4, h5, q0, q1, q2⟩ => ⟨a, b, xs, ys, h1, h2, h3, h4, h5, fun z => k _ _ (q0 z), fun z1 z2 => k _ _ (q1 z1 z2), fun z1 z2 p o hp ho => k _ _ (q2 z1 z2 p o hp ho)⟩)
    (h.mono fun _ _ h => h.mono fun ra μ2 ⟨xs, ys, t1, s1, t2, s2, hl, q⟩ => fun x y H hx hy w f => by
      obtain ⟨p, vs, rfl, hq, hv⟩ := s1.tuple t1 hx
      obtain ⟨p2, ws, rfl, hq2, hv2⟩ := s2.tuple t2 hy
      refine ⟨p, p2, vs, ws, rfl, rfl, hq.sq, hq2.sq, by rw [hv.length, hv2.length]; exact sz_of hl, fun z => ?_, fun _ z => ?_, fun _ _ p o hp ho => ?_⟩
      · subst z
        cases hv
        exact pe_fin (.t hq2 hv2) w f q
      · subst z
        cases hv2
        rw [List.append_nil] at q
        exact pe_fin (.t hq hv) w f q
      · exact pe_new hp (.t (SqP.of upd_same ho) ((hv.append hv2).keep (TK.new hp _))) w f q)
/-- the parts of a slice -/
def XO (X : Cx) (F : Fm) (δ : De) (μ : Mu) (e : Option Expr) (Q : Option Int → Mu → Prop) : Prop := match e with
  | none => Q none μ
  | some e => XE X F δ μ e fun r μ1 => ∃ i, r = .d (.int i) ∧ Q (some i) μ1
def woT (X : Cx) : Option Expr → TO
  | none => tNoPart
  | some e => tPart (WE X e)
theorem po_w : ∀ {e : Option Expr}, PO X e (woT X e)
  | none => po_none
  | some _ => po_some pe_w
theorem XO.run {e : Option Expr} {Q : Option Int → Mu → Prop} {Q' : Option Int → Hp → Prop} {σ : L2.St} {H : Hp} (h : XO X F δ μ e Q) (lo : Lo X.K H σ δ) (ow : Ow X.K H μ) (fk : Fk F H μ) (k : ∀ v H' μ', TK H H' → Lo X.K H' σ δ → Ow X.K H' μ' → Fk F H' μ' → Q v μ' → Q' v H') : woT X e σ H Q' := by
  cases e with
  | none => exact k none H μ (TK.refl H) lo ow fk h
  | some e =>
    have h' : XE X F δ μ e fun r μ1 => ∃ i, r = .d (.int i) ∧ Q (some i) μ1 := h
    show WE X e σ H _
    exact h'.run lo ow fk fun v H' r μ' t lo' h1 h2 h3 ⟨i, e, q⟩ => by
      subst e
      cases h1 with
      | d h1 => cases h1; exact ⟨i, rfl, k _ H' μ' t lo' h2 h3 q⟩
/-- t[lo:hi] of a tuple -/
theorem xe_slT {lo hi : Option Expr} (h : XE X F δ μ a fun ra μ1 => XO X F δ μ1 lo fun l μ2 => XO X F δ μ2 hi fun u μ3 => ∃ xs, IsT ra ∧ Sq μ3 ra xs ∧ Q (.t (cutR xs l u)) μ3) : XE X F δ μ (.Subscript a (.Slice lo hi none p2) pos) Q := fun σ H lo0 ow fk =>
  we_of (pe_slice sl_tupP pe_w po_w po_w) (h.run lo0 ow fk fun v H1 ra μ1 t1 lo1 r1 ow1 fk1 q1 => q1.run lo1 ow1 fk1 fun l H2 μ2 t2 lo2 ow2 fk2 q2 => q2.run lo2 ow2 fk2 fun u H3 μ3 t3 lo3 ow3 fk3 ⟨xs, ht, hs, q⟩ => by
    obtain ⟨p, vs, rfl, hq, hv⟩ := hs.tuple ht ((r1.keep t2).keep t3)
    refine ⟨p, vs, rfl, hq.sq, fun z => ?_, fun p o hp ho => ?_⟩
    · have c := hv.cut l u
      rw [z] at c
      exact ⟨(t1.trans t2).trans t3, _, μ3, .t hq c, ow3, fk3, q⟩
    · exact ⟨((t1.trans t2).trans t3).trans (TK.new hp _), _, μ3, .t (SqP.of upd_same ho) ((hv.cut l u).keep (TK.new hp _)), ow3.new hp _, fk3.new hp _, q⟩)
/-- xs[lo:hi] of a list -/
theorem xe_slL {lo hi : Option Expr} (h : XE X F δ μ a fun ra μ1 => XO X F δ μ1 lo fun l μ2 => XO X F δ μ2 hi fun u μ3 => ∃ p xs, ra = .r (.ref p) ∧ (p, Ob.lst xs) ∈ μ3 ∧ ∀ p, Q (.r (.ref p)) ((p, .lst (cutR xs l u)) :: μ3)) : XE X F δ μ (.Subscript a (.Slice lo hi none p2) pos) Q := fun σ H lo0 ow fk =>
  we_of (pe_slice sl_list pe_w po_w po_w) (h.run lo0 ow fk fun v H1 ra μ1 t1 lo1 r1 ow1 fk1 q1 => q1.run lo1 ow1 fk1 fun l H2 μ2 t2 lo2 ow2 fk2 q2 => q2.run lo2 ow2 fk2 fun u H3 μ3 t3 lo3 ow3 fk3 ⟨p, xs, e, hm, q⟩ => by
    subst e
    cases r1
    obtain ⟨vs, h1, hv⟩ := ow3 _ hm
    exact ⟨p, vs, rfl, SqL.of h1, fun p hp => Pe.back ((t1.trans t2).trans t3) _ _ (pe_newO (ob := .lst (cutR xs l u)) hp ⟨_, upd_same, (hv.cut l u).keep (TK.new hp _)⟩ ow3 fk3 (q p))⟩)
/-- xs[i] = .. of a list, as a target -/
theorem xg_lix {rv : Rv} {js : List Nat} {N : De → Mu → Prop} (h : XE X F δ μ o fun r μ2 => XE X F δ μ2 i fun y μ3 => ∃ p xs, ∃ n : Int, ∃ j μ4, r = .r (.ref p) ∧ y = .d (.int n) ∧ ixN xs.length n = some j ∧ Sw (p, .lst xs) (p, .lst (xs.set j rv)) μ3 μ4 ∧ N δ μ4)
    (ha : ∀ v, assign (.Subscript o i pos) X.env v = (do
      let ov ← holding [v] (eval o X.env)
      let iv ← holding [v, ov] (eval i X.env)
      standAt pos
      holding [v, ov, iv] (setItem ov iv v)
      release [v, ov, iv] []) := by intro _; rfl) : XG X F δ μ (.Subscript o i pos) rv js N := fun σ H vv lo ow fk hr =>
  wg_of (pg_sub pe_w pe_w set_list ha) (h.run lo ow fk fun v H2 r μ2 t2 lo2 r2 ow2 fk2 q2 => q2.run lo2 ow2 fk2 fun y H3 ry μ3 t3 lo3 r3 ow3 fk3 ⟨p, xs, n, j, μ4, e1, e2, hl, s, q⟩ => by
    subst e1 e2
    cases r2
    cases r3 with
    | d r3 =>
      cases r3
      obtain ⟨vs, h1, h2⟩ := ow3 _ s.mem
      refine ⟨p, vs, n, j, rfl, rfl, h1, by rw [h2.length]; exact hl, rfl, fun _ _ => rfl, ?_⟩
      have tk : TK H3 (upd H3 p (.lst (vs.set j vv))) := s.tk ow3
      exact ⟨(t2.trans t3).trans tk, δ, μ4, lo3.keep tk, s.ow ow3 fk3.nd ⟨_, upd_same, (h2.keep tk).set (((hr.keep t2).keep t3).keep tk) j⟩, s.fk fk3, q⟩)
theorem ty_lst {K : PySem.W.Frag} {H : Hp} {p : Addr} {xs : List Rv} {v : V} (hr : Rk K H v (.r (.ref p))) (w : Ow K H μ) (h : (p, Ob.lst xs) ∈ μ) : tyV K "list" v H := by
  cases hr
  obtain ⟨vs, h1, _⟩ := w _ h
  exact .inl ⟨rfl, vs, SqL.of h1⟩
/-- xs.append(e) -/
theorem xe_append (h : XE X F δ μ o fun ro μ1 => ∃ p xs0, ro = .r (.ref p) ∧ (p, Ob.lst xs0) ∈ μ1 ∧ XE X F δ μ1 e fun re μ2 => ∃ xs μ3, xs.length < 100000 ∧ Sw (p, .lst xs) (p, .lst (xs ++ [re])) μ2 μ3 ∧ Q (.d .none) μ3)
    (hbase : attributeBase o "append" X.env (eval o X.env) = eval o X.env := by rfl)
    (hfew : ((backTo cpos (starEach [e] X.env)).all (fun x => !x.1) && (backToKw cpos (keywordEach [] X.env)).all (fun x => x.1.isSome)
      && decide (([e] : List Expr).length + ([] : List Keyword).length + (if ([] : List Keyword).isEmpty then 0 else 1) < 30)) = true := by rfl)
    (hline : (apos.endLine == cpos.line) = true := by rfl) (hs : starEach [e] X.env = (false, eval e X.env) :: starEach [] X.env := by rfl) (hplain : (backTo cpos (starEach [] X.env)).any (·.1) = false := by rfl) :
    XE X F δ μ (.Call (.Attribute o "append" apos) [e] [] cpos) Q :=
  mt_mono PySem.F.plainAttrs_list PySem.F.slot_list_append PySem.F.type_list_append mt_append (fun _ _ _ _ _ k ⟨a, b, c, h1, h2, h3, h4, q⟩ => ⟨a, b, c, h1, h2, h3, h4, k _ _ q⟩)
    (h.mono fun ro μ1 ⟨p, xs0, e1, hm, q⟩ => ⟨fun v H hr w => by subst e1; exact ty_lst hr w hm, xa_cons (q.mono fun re μ2 ⟨xs, μ3, hl, s, q⟩ => xa_nil fun v vs H hr hrs w f => by
      subst e1
      cases hr
      cases hrs with
      | cons a b =>
        cases b
        obtain ⟨ws, g1, g2⟩ := w _ s.mem
        rename_i y
        have tk : TK H (upd H p (.lst (ws ++ [y]))) := s.tk w
        exact ⟨p, ws, y, rfl, rfl, g1, by rw [g2.length]; exact Nat.lt_of_lt_of_le hl (by decide), s.pe w f ⟨_, upd_same, (g2.keep tk).append (.cons (a.keep tk) .nil)⟩ (.d .non) q⟩) hs⟩) hbase hfew hline hs hplain
/-- xs.extend(ys) of lists -/
theorem xe_extend (h : XE X F δ μ o fun ro μ1 => ∃ p xs0, ro = .r (.ref p) ∧ (p, Ob.lst xs0) ∈ μ1 ∧ XE X F δ μ1 e fun re μ2 => ∃ q xs ys μ3, re = .r (.ref q) ∧ (q, Ob.lst ys) ∈ μ2 ∧ xs.length + ys.length ≤ 100000 ∧ Sw (p, .lst xs) (p, .lst (xs ++ ys)) μ2 μ3 ∧ Q (.d .none) μ3)
    (hbase : attributeBase o "extend" X.env (eval o X.env) = eval o X.env := by rfl)
    (hfew : ((backTo cpos (starEach [e] X.env)).all (fun x => !x.1) && (backToKw cpos (keywordEach [] X.env)).all (fun x => x.1.isSome)
      && decide (([e] : List Expr).length + ([] : List Keyword).length + (if ([] : List Keyword).isEmpty then 0 else 1) < 30)) = true := by rfl)
    (hline : (apos.endLine == cpos.line) = true := by rfl) (hs : starEach [e] X.env = (false, eval e X.env) :: starEach [] X.env := by rfl) (hplain : (backTo cpos (starEach [] X.env)).any (·.1) = false := by rfl) :
    XE X F δ μ (.Call (.Attribute o "extend" apos) [e] [] cpos) Q :=
  mt_mono PySem.F.plainAttrs_list PySem.F.slot_list_extend PySem.F.type_list_extend mt_extend (fun _ _ _ _ _ k ⟨a, b, c, d, h1, h2, h3, h4, h5, q⟩ => ⟨a, b, c, d, h1, h2, h3, h4, h5, k _ _ q⟩)
    (h.mono fun ro μ1 ⟨p, xs0, e1, hm, q⟩ => ⟨fun v H hr w => by subst e1; exact ty_lst hr w hm, xa_cons (q.mono fun re μ2 ⟨qq, xs, ys, μ3, e2, hm2, hl, s, q⟩ => xa_nil fun v vs H hr hrs w f => by
      subst e1 e2
      cases hr
      cases hrs with
      | cons a b =>
        cases b
        cases a
        obtain ⟨ws, g1, g2⟩ := w _ s.mem
        obtain ⟨zs, g3, g4⟩ := w _ hm2
        have tk : TK H (upd H p (.lst (ws ++ zs))) := s.tk w
        exact ⟨p, qq, ws, zs, rfl, rfl, g1, g3, by rw [g2.length, g4.length]; exact sz_of hl, s.pe w f ⟨_, upd_same, (g2.keep tk).append (g4.keep tk)⟩ (.d .non) q⟩) hs⟩) hbase hfew hline hs hplain
/-- xs.pop(i) -/
theorem xe_popAt (h : XE X F δ μ o fun ro μ1 => ∃ p xs0, ro = .r (.ref p) ∧ (p, Ob.lst xs0) ∈ μ1 ∧ XE X F δ μ1 e fun re μ2 => ∃ xs, ∃ n : Nat, ∃ y μ3, re = .d (.int n) ∧ xs.length ≤ 100000 ∧ xs[n]? = some y ∧ Sw (p, .lst xs) (p, .lst (xs.eraseIdx n)) μ2 μ3 ∧ Q y μ3)
    (hbase : attributeBase o "pop" X.env (eval o X.env) = eval o X.env := by rfl)
    (hfew : ((backTo cpos (starEach [e] X.env)).all (fun x => !x.1) && (backToKw cpos (keywordEach [] X.env)).all (fun x => x.1.isSome)
      && decide (([e] : List Expr).length + ([] : List Keyword).length + (if ([] : List Keyword).isEmpty then 0 else 1) < 30)) = true := by rfl)
    (hline : (apos.endLine == cpos.line) = true := by rfl) (hs : starEach [e] X.env = (false, eval e X.env) :: starEach [] X.env := by rfl) (hplain : (backTo cpos (starEach [] X.env)).any (·.1) = false := by rfl) :
    XE X F δ μ (.Call (.Attribute o "pop" apos) [e] [] cpos) Q :=
  mt_mono PySem.F.plainAttrs_list PySem.F.slot_list_pop PySem.F.type_list_pop mt_popAt (fun _ _ _ _ _ k ⟨a, b, c, d, e, h1, h2, h3, h4, h5, h6, h7, q⟩ => ⟨a, b, c, d, e, h1, h2, h3, h4, h5, h6, h7, k _ _ q⟩)
    (h.mono fun ro μ1 ⟨p, xs0, e1, hm, q⟩ => ⟨fun v H hr w => by subst e1; exact ty_lst hr w hm, xa_cons (q.mono fun re μ2 ⟨xs, n, y, μ3, e2, hl, hy, s, q⟩ => xa_nil fun v vs H hr hrs w f => by
      subst e1 e2
      cases hr
      cases hrs with
      | cons a b =>
        cases b
        cases a with
        | d a =>
          cases a
          obtain ⟨ws, g1, g2⟩ := w _ s.mem
          obtain ⟨z, g3, g4⟩ := g2.get hy
          have hn : n < ws.length := (List.getElem?_eq_some_iff.mp g3).1
          have hle : ws.length ≤ 100000 := by rw [g2.length]; exact hl
          have tk : TK H (upd H p (.lst (ws.eraseIdx n))) := s.tk w
          refine ⟨p, ws, n, n, z, rfl, rfl, g1, by omega, by omega, ?_, g3, s.pe w f ⟨_, upd_same, (g2.keep tk).erase n⟩ g4 q⟩
          rw [seqIndex_of (by omega) (by omega)]
          simp) hs⟩) hbase hfew hline hs hplain
/-- xs.index(e) of texts -/
theorem rks_strs {K : PySem.W.Frag} {H : Hp} : ∀ {zs : List Str} {ws : List V}, Rks K H ws (zs.map fun b => Rv.d (.str b)) → ws = zs.map V.str
  | [], _, h => by cases h; rfl
  | b :: bs, _, h => by
    cases h with
    | cons g1 g2 =>
      cases g1 with
      | d g1 =>
        cases g1
        rw [rks_strs g2] <;> rfl
theorem xe_index (h : XE X F δ μ o fun ro μ1 => ∃ p xs0, ro = .r (.ref p) ∧ (p, Ob.lst xs0) ∈ μ1 ∧ XE X F δ μ1 e fun re μ2 => ∃ (zs : List Str) (z : Str) (j : Nat), re = .d (.str z) ∧ (p, Ob.lst (zs.map fun b => Rv.d (.str b))) ∈ μ2 ∧ zs[j]? = some z ∧ (∀ m, m < j → zs[m]? ≠ some z) ∧ Q (.d (.int (j : Nat))) μ2)
    (hbase : attributeBase o "index" X.env (eval o X.env) = eval o X.env := by rfl)
    (hfew : ((backTo cpos (starEach [e] X.env)).all (fun x => !x.1) && (backToKw cpos (keywordEach [] X.env)).all (fun x => x.1.isSome)
      && decide (([e] : List Expr).length + ([] : List Keyword).length + (if ([] : List Keyword).isEmpty then 0 else 1) < 30)) = true := by rfl)
    (hline : (apos.endLine == cpos.line) = true := by rfl) (hs : starEach [e] X.env = (false, eval e X.env) :: starEach [] X.env := by rfl) (hplain : (backTo cpos (starEach [] X.env)).any (·.1) = false := by rfl) :
    XE X F δ μ (.Call (.Attribute o "index" apos) [e] [] cpos) Q :=
  mt_mono PySem.F.plainAttrs_list PySem.F.slot_list_index PySem.F.type_list_index mt_index (fun _ _ _ _ _ k ⟨a, b, c, d, e, h1, h2, h3, h4, h5, h6, h7, h8, q⟩ => ⟨a, b, c, d, e, h1, h2, h3, h4, h5, h6, h7, h8, k _ _ q⟩)
    (h.mono fun ro μ1 ⟨p, xs0, e1, hm, q⟩ => ⟨fun v H hr w => by subst e1; exact ty_lst hr w hm, xa_cons (q.mono fun re μ2 ⟨zs, z, j, e2, hm2, hj, hno, q⟩ => xa_nil fun v vs H hr hrs w f => by
      subst e1 e2
      cases hr
      cases hrs with
      | cons a b =>
        cases b
        cases a with
        | d a =>
          cases a
          obtain ⟨ws, g1, g2⟩ := w _ hm2
          rw [rks_strs g2] at g1
          refine ⟨p, _, _, j, .str z, rfl, rfl, SqL.of g1, rfl, flat_strs zs, by rw [List.getElem?_map, hj] <;> rfl, ?_, fun m z' hm hz' => ?_, pe_fin (.d (.int _)) w f q⟩
          · show (z == z) = true
            exact beq_self_eq_true z
          · rw [List.getElem?_map] at hz'
            cases ez : zs[m]? with
            | none => rw [ez] at hz'; cases hz'
            | some z2 =>
              rw [ez] at hz'
              cases hz'
              show (z2 == z) = false
              exact beq_eq_false_iff_ne.mpr fun q => hno m hm (by rw [ez, q])) hs⟩) hbase hfew hline hs hplain
/-- T.index(e) of a module's tuple of texts -/
theorem xe_indexG {g : Str} {a : Addr} {zs : List Str} (hgx : Gl X g) (hmx : X.mg g = some (.ref a)) (ht : ∀ H, tyV X.K "tuple" (.ref a) H) (hq : ∀ H, SqT X.K H a (zs.map V.str)) (h : XE X F δ μ e fun re μ2 => ∃ (z : Str) (j : Nat), re = .d (.str z) ∧ zs[j]? = some z ∧ (∀ m, m < j → zs[m]? ≠ some z) ∧ Q (.d (.int (j : Nat))) μ2)
    (hdb : (g == ("__debug__" : Str)) = false := by decide)
    (hbase : attributeBase (.Name g p) "index" X.env (eval (.Name g p) X.env) = eval (.Name g p) X.env := by rfl)
    (hfew : ((backTo cpos (starEach [e] X.env)).all (fun x => !x.1) && (backToKw cpos (keywordEach [] X.env)).all (fun x => x.1.isSome)
      && decide (([e] : List Expr).length + ([] : List Keyword).length + (if ([] : List Keyword).isEmpty then 0 else 1) < 30)) = true := by rfl)
    (hline : (apos.endLine == cpos.line) = true := by rfl) (hs : starEach [e] X.env = (false, eval e X.env) :: starEach [] X.env := by rfl) (hplain : (backTo cpos (starEach [] X.env)).any (·.1) = false := by rfl) :
    XE X F δ μ (.Call (.Attribute (.Name g p) "index" apos) [e] [] cpos) Q :=
  mt_mono PySem.F.plainAttrs_tuple PySem.F.slot_tuple_index PySem.F.type_tuple_index mt_tup_index (fun _ _ _ _ _ k ⟨a, b, c, d, h1, h2, h3, h4, h5, q⟩ => ⟨a, b, c, d, h1, h2, h3, h4, h5, k _ _ q⟩)
    (xe_glob (v := .ref a) hgx hmx rfl (fun _ => .r _) ⟨fun v H hr w => by cases hr; exact ht H, xa_cons (h.mono fun re μ2 ⟨z, j, e2, hj, hno, q⟩ => xa_nil fun v vs H hr hrs w f => by
      subst e2
      cases hr
      cases hrs with
      | cons a b =>
        cases b
        cases a with
        | d a =>
          cases a
          exact ⟨_, zs, z, j, rfl, rfl, hq H, hj, hno, pe_fin (.d (.int _)) w f q⟩) hs⟩ hdb) hbase hfew hline hs hplain
end
end Ds

/-! text Ds9 -/
/-! Code over data: comprehensions that map and choose; dict comprehensions; sums; globals. -/
namespace Ds
open PySem PySem.Spec PyProof.Rows L2

/-! ### blocks, by evaluation -/
def isLC : Option NameKind → Bool
  | some .local => true
  | some .cell => true
  | _ => false
def isCF : Option NameKind → Bool
  | some .cell => true
  | some .free => true
  | _ => false
def blkB (N : List Str) (sc scope : Scope) (own : List (Str × Nat)) : Bool :=
  (match scope.kind with | .function => true | _ => false) &&
  (decide (scope.names.map (·.1)).Nodup) &&
  own.all (fun p => match N[p.2]? with | some x => decide (x = p.1) | none => false) &&
  scope.names.all (fun y => match y.2 with | .free => isCF (sc.names.lookup y.1) | _ => true) &&
  scope.names.all (fun y => match y.2 with | .local => decide (y.1 ∈ own.map (·.1)) || decide (y.1 ∉ N) | .cell => decide (y.1 ∈ own.map (·.1)) || decide (y.1 ∉ N) | _ => true)
theorem lookup_nodup {α : Type} : ∀ {l : List (Str × α)}, (l.map (·.1)).Nodup → ∀ y ∈ l, l.lookup y.1 = some y.2
  | [], _, y, h => by cases h
  | p :: l, nd, y, h => by
    rw [List.map_cons, List.nodup_cons] at nd
    rw [List.lookup_cons]
    rcases List.mem_cons.mp h with rfl | h
    · simp
    · have : ¬ (y.1 == p.1) = true := fun e => nd.1 (by rw [← eq_of_beq e]; exact List.mem_map.mpr ⟨y, h, rfl⟩)
      simp only [this]
      exact lookup_nodup nd.2 y h
theorem blk_ok {N : List Str} {sc scope : Scope} {own : List (Str × Nat)} (h : blkB N sc scope own = true) : BlkOk N sc scope own := by
  unfold blkB at h
  simp only [Bool.and_eq_true] at h
  obtain ⟨⟨⟨⟨h1, h2⟩, h3⟩, h4⟩, h5⟩ := h
  refine ⟨?_, lookup_nodup (of_decide_eq_true h2), fun p hp => ?_, fun y hy e => ?_, fun y hy e => ?_⟩
  · cases e : scope.kind with
    | function => rfl
    | _ => rw [e] at h1; cases h1
  · have := List.all_eq_true.mp h3 p hp
    cases e : N[p.2]? with
    | none => rw [e] at this; cases this
    | some x => rw [e] at this; rw [of_decide_eq_true this]
  · have := List.all_eq_true.mp h4 y hy
    rw [e] at this
    replace this : isCF (sc.names.lookup y.1) = true := this
    cases e2 : sc.names.lookup y.1 with
    | none => rw [e2] at this; cases this
    | some n =>
      rw [e2] at this
      cases n with
      | cell => exact .inl rfl
      | free => exact .inr rfl
      | _ => cases this
  · have := List.all_eq_true.mp h5 y hy
    have z : (decide (y.1 ∈ own.map (·.1)) || decide (y.1 ∉ N)) = true := by
      rcases e with e | e
      · rw [e] at this; exact this
      · rw [e] at this; exact this
    rw [Bool.or_eq_true] at z
    exact z.imp of_decide_eq_true of_decide_eq_true
section
variable {X : Cx} {F : Fm} {δ : De} {μ : Mu} {o i e a b c tg iter elt kx vx : Expr} {es : List Expr} {pos p pos' tpos apos cpos p2 spos py : Pos} {Q : Rv → Mu → Prop} {D : Dn} {k : Nat} {x y : Str} {scope : Scope} {own : List (Str × Nat)} {vs : List Nat} {α : Type}
/-- what a comprehension without a test asks, its items ys -/
def XM (X : Cx) (F : Fm) (δ : De) (μ : Mu) (tg iter elt : Expr) (scope : Scope) (vs : List Nat) (ys : List α) (enc f : α → Rv) (Q : Rv → Mu → Prop) : Prop :=
  XI X F δ μ tg iter fun items S μ1 => items = ys.map enc ∧ S μ1 ∧ ys.length ≤ 100000 ∧ (∀ y ∈ ys, ∀ F', Blk X scope fun Y => XG Y F' δ μ1 tg (enc y) vs fun δ2 μ2 => Blk X scope fun Z => XE Z F' δ2 μ2 elt fun r μ4 => r = f y ∧ μ1.Sublist μ4) ∧
    ∀ p, Q (.r (.ref p)) ((p, .lst (ys.map f)) :: μ1)
/-- with a test: t tells which stay -/
def XMF (X : Cx) (F : Fm) (δ : De) (μ : Mu) (tg iter elt c : Expr) (scope : Scope) (vs : List Nat) (ys : List α) (enc f : α → Rv) (t : α → Bool) (Q : Rv → Mu → Prop) : Prop :=
  XI X F δ μ tg iter fun items S μ1 => items = ys.map enc ∧ S μ1 ∧ ys.length ≤ 100000 ∧ (∀ y ∈ ys, ∀ F', Blk X scope fun Y => XG Y F' δ μ1 tg (enc y) vs fun δ2 μ2 => Blk X scope fun Z => XT Z F' δ2 μ2 c fun b μ3 => b = t y ∧ (t y = true → Blk X scope fun Z => XE Z F' δ2 μ3 elt fun r μ4 => r = f y ∧ μ1.Sublist μ4) ∧ (t y = false → μ1.Sublist μ3)) ∧
    ∀ p, Q (.r (.ref p)) ((p, .lst ((ys.filter t).map f)) :: μ1)
theorem XI.mono {R R' : List Rv → (Mu → Prop) → Mu → Prop} (h : XI X F δ μ tg iter R) (k : ∀ items S μ1, R items S μ1 → R' items S μ1) : XI X F δ μ tg iter R' := fun σ H lo ow fk pins s I =>
  thn (h σ H lo ow fk pins s I) fun v s1 h1 => thn h1 fun itv s2 ⟨it, fp, tn, J, H', z1, z2, z3, z4, z5, t, items, S, μ1, w1, f1, y1, r⟩ => ⟨it, fp, tn, J, H', z1, z2, z3, z4, z5, t, items, S, μ1, w1, f1, y1, k _ _ _ r⟩
theorem XG.mono {r : Rv} {js : List Nat} {N N' : De → Mu → Prop} (h : XG X F δ μ tg r js N) (k : ∀ δ' μ', N δ' μ' → N' δ' μ') : XG X F δ μ tg r js N' := fun σ H v lo ow fk hr =>
  wg_mono (h σ H v lo ow fk hr) fun σ' H' ⟨a1, a2, t, δ', μ', l1, l2, l3, q⟩ => ⟨a1, a2, t, δ', μ', l1, l2, l3, k _ _ q⟩
theorem XT.mono {Q Q' : Bool → Mu → Prop} (h : XT X F δ μ e Q) (k : ∀ r μ', Q r μ' → Q' r μ') : XT X F δ μ e Q' := fun σ H lo ow fk => h.run lo ow fk fun v H' μ' t _ h2 h3 h4 => ⟨t, μ', h2, h3, k v μ' h4⟩
theorem XA.mono {Q Q' : List Rv → Mu → Prop} (h : XA X F δ μ es Q) (k : ∀ r μ', Q r μ' → Q' r μ') : XA X F δ μ es Q' := fun σ H lo ow fk => h.run lo ow fk fun v H' r μ' t _ h1 h2 h3 h4 => ⟨t, r, μ', h1, h2, h3, k r μ' h4⟩
theorem XM.lc {ys : List α} {enc f : α → Rv} (h : XM X F δ μ tg iter elt scope vs ys enc f Q) : Lc0 X F δ μ tg iter elt scope vs Q := by
  refine h.mono fun items S μ1 ⟨e, hS, hl, turn, fin⟩ => ?_
  subst e
  refine ⟨by rw [List.length_map]; exact hl, fun i acc μ' => acc = (ys.take i).map f ∧ μ' = μ1, ⟨by simp, rfl⟩, fun i acc μ' hI => by rw [hI.2]; exact hS, ?_, ?_⟩
  · rintro i x acc μ' hx ⟨rfl, rfl⟩ F' s H C cl fp
    rw [List.getElem?_map] at hx
    cases hy : ys[i]? with
    | none => rw [hy] at hx; cases hx
    | some y =>
      rw [hy] at hx
      cases hx
      have z := turn y (List.mem_of_getElem? hy) F' s H C cl fp
      refine XG.mono z fun δ2 μ2 z s H C cl fp => XE.sub ((z s H C cl fp).mono fun r μ4 ⟨e, hs⟩ => ⟨_, hs, ?_, rfl⟩)
      rw [e, List.take_succ, hy]
      simp
  · rintro acc μ' ⟨rfl, rfl⟩ p
    rw [List.length_map, List.take_length]
    exact fin p
theorem XMF.lc {ys : List α} {enc f : α → Rv} {t : α → Bool} (h : XMF X F δ μ tg iter elt c scope vs ys enc f t Q) : Lc1 X F δ μ tg iter elt c scope vs Q := by
  refine h.mono fun items S μ1 ⟨e, hS, hl, turn, fin⟩ => ?_
  subst e
  refine ⟨by rw [List.length_map]; exact hl, fun i acc μ' => acc = ((ys.take i).filter t).map f ∧ μ' = μ1, ⟨by simp, rfl⟩, fun i acc μ' hI => by rw [hI.2]; exact hS, ?_, ?_⟩
  · rintro i x acc μ' hx ⟨rfl, rfl⟩ F' s H C cl fp
    rw [List.getElem?_map] at hx
    cases hy : ys[i]? with
    | none => rw [hy] at hx; cases hx
    | some y =>
      rw [hy] at hx
      cases hx
      have z := turn y (List.mem_of_getElem? hy) F' s H C cl fp
      have et : ys.take (i + 1) = ys.take i ++ [y] := by rw [List.take_succ, hy]; rfl
      refine XG.mono z fun δ2 μ2 z s H C cl fp => XT.sub ((z s H C cl fp).mono fun b μ3 ⟨e, z1, z2⟩ => ?_)
      subst e
      cases ht : t y with
      | true =>
        refine ⟨μ3, .refl _, fun _ s H C cl fp => XE.sub ((z1 ht s H C cl fp).mono fun r μ4 ⟨e, hs⟩ => ⟨_, hs, ?_, rfl⟩), fun z => by cases z⟩
        rw [e, et, List.filter_append, List.map_append]
        simp [ht]
      | false =>
        refine ⟨μ', z2 ht, (fun z => by cases z), fun _ => ⟨?_, rfl⟩⟩
        rw [et, List.filter_append]
        simp [ht]
  · rintro acc μ' ⟨rfl, rfl⟩ p
    rw [List.length_map, List.take_length]
    exact fin p
/-- [elt for tg in iter] -/
theorem xe_map (ys : List α) (enc f : α → Rv) (hN : X.N.Nodup) (ok : blkB X.N X.env.scope scope own = true) (h : XM X F δ μ tg iter elt scope (own.map (·.2)) ys enc f Q) (hown : ((own.map (·.2)).all fun j => match δ[j]? with | some (some _) => false | _ => true) = true := by rfl) (hc : X.calm = true := by rfl)
    (hs : ∀ x, foldedSetIterable iter X.env x = pure x := by intro _; rfl) : XE X F δ μ (.ListComp elt [⟨tg, iter, [], 0⟩] scope pos) Q := xe_lc h.lc hN (blk_ok ok) hown hc hs
theorem xe_mapF (ys : List α) (enc f : α → Rv) (t : α → Bool) (hN : X.N.Nodup) (ok : blkB X.N X.env.scope scope own = true) (h : XMF X F δ μ tg iter elt c scope (own.map (·.2)) ys enc f t Q) (hown : ((own.map (·.2)).all fun j => match δ[j]? with | some (some _) => false | _ => true) = true := by rfl) (hc : X.calm = true := by rfl)
    (hs : ∀ x, foldedSetIterable iter X.env x = pure x := by intro _; rfl) : XE X F δ μ (.ListComp elt [⟨tg, iter, [c], 0⟩] scope pos) Q := xe_lc1 h.lc hN (blk_ok ok) hown hc hs
theorem xs_setMap {i : Nat} (ys : List α) (enc f : α → Rv) (hN : X.N.Nodup) (ok : blkB X.N X.env.scope scope own = true) (h : XM X F δ μ tg iter elt scope (own.map (·.2)) ys enc f fun r μ1 => D.nx (δ.set i (some r)) μ1)
    (hsw : swapsWith (.ListComp elt [⟨tg, iter, [], 0⟩] scope pos) (some (.Name y py)) spos.line X.env = pure true := by first | rfl | with_unfolding_all rfl | kernel_rfl) (hy : X.N[i]? = some y := by rfl) (hyl : X.env.scope.names.lookup y = some .local := by rfl)
    (hown : ((own.map (·.2)).all fun j => match δ[j]? with | some (some _) => false | _ => true) = true := by rfl) (hc : X.calm = true := by rfl)
    (hs : ∀ x, foldedSetIterable iter X.env x = pure x := by intro _; rfl) : XS X F δ μ (.Assign [.Name y py] (.ListComp elt [⟨tg, iter, [], 0⟩] scope pos) spos) D := xs_setLc h.lc hN (blk_ok ok) hsw hy hyl hown hc hs
theorem xs_setMapF {i : Nat} (ys : List α) (enc f : α → Rv) (t : α → Bool) (hN : X.N.Nodup) (ok : blkB X.N X.env.scope scope own = true) (h : XMF X F δ μ tg iter elt c scope (own.map (·.2)) ys enc f t fun r μ1 => D.nx (δ.set i (some r)) μ1)
    (hsw : swapsWith (.ListComp elt [⟨tg, iter, [c], 0⟩] scope pos) (some (.Name y py)) spos.line X.env = pure true := by first | rfl | with_unfolding_all rfl | kernel_rfl) (hy : X.N[i]? = some y := by rfl) (hyl : X.env.scope.names.lookup y = some .local := by rfl)
    (hown : ((own.map (·.2)).all fun j => match δ[j]? with | some (some _) => false | _ => true) = true := by rfl) (hc : X.calm = true := by rfl)
    (hs : ∀ x, foldedSetIterable iter X.env x = pure x := by intro _; rfl) : XS X F δ μ (.Assign [.Name y py] (.ListComp elt [⟨tg, iter, [c], 0⟩] scope pos) spos) D := xs_setLc1 h.lc hN (blk_ok ok) hsw hy hyl hown hc hs

/-! ### a module's constants -/
theorem xe_gint {n : Int} (h : ∃ t, X.mg x = some (.int n t)) (q : Q (.d (.int n)) μ) (hg : Gl X x := by rfl) (h1 : (x == ("__debug__" : Str)) = false := by decide) : XE X F δ μ (.Name x pos) Q := by
  obtain ⟨t, e⟩ := h
  exact xe_glob (v := .int n) hg e ⟨t, rfl⟩ (fun _ => .d (.int n)) q h1
theorem xe_gstr {n : Str} (h : ∃ t, X.mg x = some (.str n t)) (q : Q (.d (.str n)) μ) (hg : Gl X x := by rfl) (h1 : (x == ("__debug__" : Str)) = false := by decide) : XE X F δ μ (.Name x pos) Q := by
  obtain ⟨t, e⟩ := h
  exact xe_glob (v := .str n) hg e ⟨t, rfl⟩ (fun _ => .d (.str n)) q h1

/-! ### sums and the like -/
theorem rks_ints {K : PySem.W.Frag} {H : Hp} : ∀ {zs : List Int} {ws : List V}, Rks K H ws (zs.map fun b => Rv.d (.int b)) → ws = zs.map V.int
  | [], _, h => by cases h; rfl
  | b :: bs, _, h => by
    cases h with
    | cons g1 g2 =>
      cases g1 with
      | d g1 =>
        cases g1
        rw [rks_ints g2] <;> rfl
theorem xe_sum (hm : X.mg "sum" = none) (h : XA X F δ μ [e] fun rs μ1 => ∃ p, ∃ ns : List Int, rs = [.r (.ref p)] ∧ (p, Ob.lst (ns.map fun b => Rv.d (.int b))) ∈ μ1 ∧ Q (.d (.int ns.sum)) μ1) (hc : X.calm = true := by rfl) (hg : Gl X "sum" := by rfl) (he : starEach [e] X.env = (false, eval e X.env) :: starEach [] X.env := by rfl) : XE X F δ μ (.Call (.Name "sum" p) [e] [] pos) Q :=
  xe_callB (cr_sum hc) (fun _ _ _ _ k ⟨a, bs, e, h, q⟩ => ⟨a, bs, e, h, k _ _ q⟩) hm (by decide +kernel) (fun σ H lo ow fk => h.run lo ow fk fun vs H1 rs μ1 t1 _ r ow1 fk1 ⟨p, bs, e, hp, q⟩ => ⟨t1, rs, μ1, r, ow1, fk1, fun vs' H' r' w f => by
    subst e
    cases r' with
    | cons r1 r2 =>
      cases r2
      cases r1
      obtain ⟨ws, h1, h2⟩ := w _ hp
      refine ⟨p, bs, rfl, ?_, pe_fin (.d (.int _)) w f q⟩
      rw [← rks_ints h2]
      exact SqL.of h1⟩) hg (by decide) (by decide) he rfl
theorem xe_abs (hm : X.mg "abs" = none) (h : XE X F δ μ e fun r μ1 => ∃ i : Int, r = .d (.int i) ∧ Q (.d (.int (if i < 0 then -i else i))) μ1) (hg : Gl X "abs" := by rfl) (he : starEach [e] X.env = (false, eval e X.env) :: starEach [] X.env := by rfl) : XE X F δ μ (.Call (.Name "abs" p) [e] [] pos) Q :=
  xe_callB call_abs (fun _ _ _ _ k ⟨a, e, q⟩ => ⟨a, e, k _ _ q⟩) hm (by decide +kernel) (xa_cons (h.mono fun r μ1 ⟨i, e, q⟩ => xa_nil fun vs' H' r' w f => by
    subst e
    cases r' with
    | cons r1 r2 =>
      cases r2
      cases r1 with
      | d r1 => cases r1; exact ⟨i, rfl, pe_fin (.d (.int _)) w f q⟩) he) hg (by decide) (by decide) he rfl
theorem xe_min2 (hm : X.mg "min" = none) (h : XE X F δ μ a fun r μ1 => XE X F δ μ1 b fun r2 μ2 => ∃ i j : Int, r = .d (.int i) ∧ r2 = .d (.int j) ∧ Q (.d (.int (if j < i then j else i))) μ2) (hc : X.calm = true := by rfl) (hg : Gl X "min" := by rfl) (he : starEach [a, b] X.env = (false, eval a X.env) :: starEach [b] X.env := by rfl)
    (he2 : starEach [b] X.env = (false, eval b X.env) :: starEach [] X.env := by rfl) (hpl : (backTo pos (starEach [b] X.env)).any (·.1) = false := by rfl) : XE X F δ μ (.Call (.Name "min" p) [a, b] [] pos) Q :=
  xe_callB (call_min2 hc) (fun _ _ _ _ k ⟨a, b, e, q⟩ => ⟨a, b, e, k _ _ q⟩) hm (by decide +kernel) (xa_cons (h.mono fun r μ1 h => xa_cons (h.mono fun r2 μ2 ⟨i, j, e1, e2, q⟩ => xa_nil fun vs' H' r' w f => by
    subst e1 e2
    cases r' with
    | cons r1 r2 =>
      cases r1 with
      | d r1 =>
        cases r1
        cases r2 with
        | cons r1 r2 =>
          cases r2
          cases r1 with
          | d r1 => cases r1; exact ⟨i, j, rfl, pe_fin (.d (.int _)) w f q⟩) he2) he) hg (by decide) (by decide) he hpl
/-- int(b) -/
theorem xe_intB (hm : X.mg "int" = none) (h : XE X F δ μ e fun r μ1 => ∃ i : Bool, r = .d (.bool i) ∧ Q (.d (.int (if i then 1 else 0))) μ1) (hg : Gl X "int" := by rfl) (he : starEach [e] X.env = (false, eval e X.env) :: starEach [] X.env := by rfl) : XE X F δ μ (.Call (.Name "int" p) [e] [] pos) Q :=
  xe_callTy call_int1 (fun _ _ _ _ k h => h.imp (fun ⟨a, e, q⟩ => ⟨a, e, k _ _ q⟩) (fun ⟨a, e, q⟩ => ⟨a, e, k _ _ q⟩)) hm (by decide +kernel) (xa_cons (h.mono fun r μ1 ⟨i, e, q⟩ => xa_nil fun vs' H' r' w f => by
    subst e
    cases r' with
    | cons r1 r2 =>
      cases r2
      cases r1 with
      | d r1 => cases r1; exact .inr ⟨i, rfl, pe_fin (.d (.int _)) w f q⟩) he) hg (by decide) (by decide) he rfl
end
end Ds

/-! text Ds10 -/
/-! Code over data: comparisons as tests; tests that are known. -/
namespace Ds
open PySem PySem.Spec PyProof.Rows L2

def nonB : PyData → Bool
  | .none => true
  | _ => false
def WC (X : Cx) (op : CmpOp) (a b : Expr) : TE := fun σ H Q => ∀ (pins : List (Addr × Obj)) (s : Shared), Inv X pins σ H s →
  wpAny (model X.prog X.w) X.A (eval a X.env) (fun v s₁ => wpAny (model X.prog X.w) X.A (eval b X.env) (fun u s₂ => wpAny (model X.prog X.w) X.A (compareOp op v u) (EP X pins σ Q) X.xe s₂) X.xe s₁) X.xe s
theorem pc_w {X : Cx} {op : CmpOp} {a b : Expr} : PC X op a b (WC X op a b) := ⟨fun pins s _ _ _ I h => h pins s I⟩
theorem wc_of {X : Cx} {op : CmpOp} {a b : Expr} {t : TE} {σ : L2.St} {H : Hp} {Q : VK} (h : PC X op a b t) (q : t σ H Q) : WC X op a b σ H Q := fun pins s I => h.run pins s σ H Q I q
theorem pc_op {X : Cx} {op : CmpOp} {a b : Expr} {r : R2} (ho : OpR X (compareOp op) r) : PC X op a b (tOp r (WE X a) (WE X b)) := ⟨fun pins s σ H Q I h =>
  thn (h pins s I) fun v s1 ⟨x, H1, I1, r1, q1⟩ => thn (q1 pins s1 I1) fun u s2 ⟨y, H2, I2, r2, q2⟩ => ho pins s2 σ H2 x y v u Q I2 r1 r2 q2⟩
/-- a op b, as a value or as a test -/
def XC (X : Cx) (F : Fm) (δ : De) (μ : Mu) (op : CmpOp) (a b : Expr) (Q : Bool → Mu → Prop) : Prop := ∀ σ H, Lo X.K H σ δ → Ow X.K H μ → Fk F H μ → WC X op a b σ H (Pe X.K F H fun r μ' => ∃ k, r = .d (.bool k) ∧ Q k μ')
section
variable {X : Cx} {F : Fm} {δ : De} {μ : Mu} {o i a b c : Expr} {pos p pos' : Pos} {op : CmpOp} {k : Nat} {Q : Bool → Mu → Prop}
theorem xe_cm {Q : Rv → Mu → Prop} (h : XC X F δ μ op a b fun k μ' => Q (.d (.bool k)) μ') (hm : behindInMarks op b = false := by first | exact nobehind _ (by decide) (by decide) | rfl) : XE X F δ μ (.Compare a [op] [b] pos) Q := fun σ H lo ow fk =>
  we_mono (we_of (pe_cmp pc_w hm) (h σ H lo ow fk)) fun v H' ⟨t, r, μ', h1, h2, h3, k, e, q⟩ => ⟨t, r, μ', h1, h2, h3, by rw [e]; exact q⟩
theorem xt_cm (h : XC X F δ μ op a b Q) (hm : behindInMarks op b = false := by first | exact nobehind _ (by decide) (by decide) | rfl) : XT X F δ μ (.Compare a [op] [b] pos) Q := fun σ H lo ow fk =>
  wt_of (t := tB (WC X op a b)) (pt_cmp pc_w hm) (by
    have z := h σ H lo ow fk
    intro pins s I
    refine thn (z pins s I) fun _ _ z2 => thn z2 fun _ _ z3 => thn z3 fun u s' ⟨v, H', I', r, t, rr, μ', h1, h2, h3, k, e, q⟩ => ?_
    subst e
    cases h1 with
    | d h1 => cases h1; exact ⟨_, H', I', r, k, rfl, t, μ', h2, h3, q⟩)
/-- by an operation on values -/
theorem xc_op {r2 : R2} (ho : OpR X (compareOp op) r2) (mono : ∀ x y H (Q Q' : VK), (∀ v H', Q v H' → Q' v H') → r2 x y H Q → r2 x y H Q') (h : XE X F δ μ a fun ra μ1 => XE X F δ μ1 b fun rb μ2 => OpD X.K F r2 ra rb μ2 fun r μ3 => ∃ k, r = .d (.bool k) ∧ Q k μ3) : XC X F δ μ op a b Q := fun σ H lo ow fk =>
  wc_of (pc_op ho) (h.run lo ow fk fun x H1 ra μ1 t1 lo1 r1 ow1 fk1 q1 => q1.run lo1 ow1 fk1 fun y H2 rb μ2 t2 _ r2' ow2 fk2 q2 => mono _ _ _ _ _ (Pe.back (t1.trans t2)) (q2 x y H2 (r1.keep t2) r2' ow2 fk2))
theorem opd_Bk {K : PySem.W.Frag} {g : Int → Int → Bool} {i j : Int} (q : Q (g i j) μ) : OpD K F (rI0 fun i j => .bl (g i j)) (.d (.int i)) (.d (.int j)) μ (fun r μ => ∃ k, r = .d (.bool k) ∧ Q k μ) := opd_B0 ⟨_, rfl, q⟩
theorem xc_lt (h : XE X F δ μ a fun ra μ1 => XE X F δ μ1 b fun rb μ2 => ∃ i j, ra = .d (.int i) ∧ rb = .d (.int j) ∧ Q (decide (i < j)) μ2) : XC X F δ μ .Lt a b Q :=
  xc_op op_lt rI0_mono (h.mono fun _ _ h => h.mono fun _ _ ⟨i, j, e1, e2, q⟩ => by subst e1 e2; exact opd_Bk q)
theorem xc_gt (h : XE X F δ μ a fun ra μ1 => XE X F δ μ1 b fun rb μ2 => ∃ i j, ra = .d (.int i) ∧ rb = .d (.int j) ∧ Q (decide (j < i)) μ2) : XC X F δ μ .Gt a b Q :=
  xc_op op_gt rI0_mono (h.mono fun _ _ h => h.mono fun _ _ ⟨i, j, e1, e2, q⟩ => by subst e1 e2; exact opd_Bk q)
theorem xc_ge (h : XE X F δ μ a fun ra μ1 => XE X F δ μ1 b fun rb μ2 => ∃ i j, ra = .d (.int i) ∧ rb = .d (.int j) ∧ Q (decide (j ≤ i)) μ2) : XC X F δ μ .GtE a b Q :=
  xc_op op_ge rI0_mono (h.mono fun _ _ h => h.mono fun _ _ ⟨i, j, e1, e2, q⟩ => by subst e1 e2; exact opd_Bk q)
theorem xc_le (h : XE X F δ μ a fun ra μ1 => XE X F δ μ1 b fun rb μ2 => ∃ i j, ra = .d (.int i) ∧ rb = .d (.int j) ∧ Q (decide (i ≤ j)) μ2) : XC X F δ μ .LtE a b Q :=
  xc_op op_le rI0_mono (h.mono fun _ _ h => h.mono fun _ _ ⟨i, j, e1, e2, q⟩ => by subst e1 e2; exact opd_Bk q)
theorem xc_eq (hr : Room k X.A) (h : XE X F δ μ a fun ra μ1 => XE X F δ μ1 b fun rb μ2 => ∃ d e, Dd μ2 ra d ∧ Dd μ2 rb e ∧ SeqAt.shaped d = true ∧ SeqAt.shaped e = true ∧ Q (PyData.eqv d e) μ2) : XC X F δ μ .Eq a b Q :=
  xc_op (op_eqD hr.units) eqD_mono (h.mono fun _ _ h => h.mono fun _ _ ⟨d, e, h1, h2, h3, h4, q⟩ => fun x y H hx hy w f => ⟨d, e, h1.dp hx w, h2.dp hy w, h3, h4, pe_fin (.d (.bl _)) w f ⟨_, rfl, q⟩⟩)
theorem xc_ne (hr : Room k X.A) (h : XE X F δ μ a fun ra μ1 => XE X F δ μ1 b fun rb μ2 => ∃ d e, Dd μ2 ra d ∧ Dd μ2 rb e ∧ SeqAt.shaped d = true ∧ SeqAt.shaped e = true ∧ Q (!PyData.eqv d e) μ2) : XC X F δ μ .NotEq a b Q :=
  xc_op (op_neD hr.units) neD_mono (h.mono fun _ _ h => h.mono fun _ _ ⟨d, e, h1, h2, h3, h4, q⟩ => fun x y H hx hy w f => ⟨d, e, h1.dp hx w, h2.dp hy w, h3, h4, pe_fin (.d (.bl _)) w f ⟨_, rfl, q⟩⟩)
theorem xc_in (hr : Room k X.A) (h : XE X F δ μ a fun ra μ1 => XE X F δ μ1 b fun rb μ2 => ∃ d ds, Dd μ2 ra d ∧ Dq μ2 rb ds ∧ SeqAt.shaped d = true ∧ SeqAt.shaped (.tuple ds) = true ∧ Q (ds.any fun z => PyData.eqv z d) μ2) : XC X F δ μ .In a b Q :=
  xc_op (op_inDT (hu65 hr)) inDT_mono (h.mono fun _ _ h => h.mono fun _ _ ⟨d, ds, h1, h2, h3, h4, q⟩ => fun x y H hx hy w f => ⟨d, ds, h1.dp hx w, h2.dp hy w, h3, h4, pe_fin (.d (.bl _)) w f ⟨_, rfl, q⟩⟩)
theorem xc_notin (hr : Room k X.A) (h : XE X F δ μ a fun ra μ1 => XE X F δ μ1 b fun rb μ2 => ∃ d ds, Dd μ2 ra d ∧ Dq μ2 rb ds ∧ SeqAt.shaped d = true ∧ SeqAt.shaped (.tuple ds) = true ∧ Q (!ds.any fun z => PyData.eqv z d) μ2) : XC X F δ μ .NotIn a b Q :=
  xc_op (op_notInDT (hu65 hr)) inDT_mono (h.mono fun _ _ h => h.mono fun _ _ ⟨d, ds, h1, h2, h3, h4, q⟩ => fun x y H hx hy w f => ⟨d, ds, h1.dp hx w, h2.dp hy w, h3, h4, pe_fin (.d (.bl _)) w f ⟨_, rfl, q⟩⟩)
theorem xc_inS (h : XE X F δ μ a fun ra μ1 => XE X F δ μ1 b fun rb μ2 => ∃ (c : Nat) (z : Str), ra = .d (.str ⟨#[c]⟩) ∧ rb = .d (.str z) ∧ Q (decide (c ∈ z.cps.toList)) μ2) : XC X F δ μ .In a b Q :=
  xc_op op_in_sign (fun _ _ _ _ _ k ⟨c, z, e1, e2, q⟩ => ⟨c, z, e1, e2, k _ _ q⟩) (h.mono fun _ _ h => h.mono fun _ _ ⟨c, z, e1, e2, q⟩ => fun x y H hx hy w f => by
    subst e1 e2
    cases hx with
    | d hx => cases hx; cases hy with
      | d hy => cases hy; exact ⟨c, z, rfl, rfl, pe_fin (.d (.bl _)) w f ⟨_, rfl, q⟩⟩)
/-- it is None -/
theorem xc_isN {j pos'} (h : XE X F δ μ a fun ra μ1 => (∃ d, ra = .d d ∧ Q (nonB d) μ1) ∨ ∃ p, ra = .r (.ref p) ∧ Q false μ1) : XC X F δ μ .Is a (.Constant .none j pos') Q := fun σ H lo ow fk =>
  wc_of (pc_isN pe_w) (h.run lo ow fk fun v H' r μ' t _ h1 h2 h3 q => by
    rcases q with ⟨d, e, q⟩ | ⟨p, e, q⟩
    · subst e
      cases h1 with
      | d h1 => cases h1 <;> exact ⟨t, _, μ', .d (.bl _), h2, h3, _, rfl, q⟩
    · subst e
      cases h1
      exact ⟨t, _, μ', .d (.bl _), h2, h3, _, rfl, q⟩)
theorem xc_notN {j pos'} (h : XE X F δ μ a fun ra μ1 => (∃ d, ra = .d d ∧ Q (!nonB d) μ1) ∨ ∃ p, ra = .r (.ref p) ∧ Q true μ1) : XC X F δ μ .IsNot a (.Constant .none j pos') Q := fun σ H lo ow fk =>
  wc_of (pc_notN pe_w) (h.run lo ow fk fun v H' r μ' t _ h1 h2 h3 q => by
    rcases q with ⟨d, e, q⟩ | ⟨p, e, q⟩
    · subst e
      cases h1 with
      | d h1 => cases h1 <;> exact ⟨t, _, μ', .d (.bl _), h2, h3, _, rfl, q⟩
    · subst e
      cases h1
      exact ⟨t, _, μ', .d (.bl _), h2, h3, _, rfl, q⟩)
theorem xc_din (hr : Room k X.A) (h : XE X F δ μ i fun y μ1 => XE X F δ μ1 o fun r μ2 => ∃ p kvs x, r = .r (.ref p) ∧ (p, Ob.dic kvs) ∈ μ2 ∧ y = .d (.str x) ∧ Q (dk kvs x).isSome μ2) : XC X F δ μ .In i o Q := fun σ H lo ow fk =>
  wc_of (pc_din (hu1 hr) pe_w pe_w) (h.run lo ow fk fun y H1 r μ1 t1 lo1 r1 ow1 fk1 q1 => q1.run lo1 ow1 fk1 fun v H2 ry μ2 t2 _ r2 ow2 fk2 ⟨p, kvs, x, e1, hm, e2, q⟩ => by
    subst e1 e2
    cases r2
    cases r1 with
    | d r1 =>
      cases r1
      obtain ⟨ov, g, c⟩ := dic_get (x := x) (ow2 _ hm)
      refine ⟨p, ov, rfl, g, t1.trans t2, _, μ2, .d (.bl _), ow2, fk2, _, rfl, ?_⟩
      have : ov.isSome = (dk kvs x).isSome := by
        rcases c with ⟨c, c2⟩ | ⟨r, v, c1, c2, c3⟩
        · rw [c, c2] <;> rfl
        · rw [c1, c2] <;> rfl
      rw [this]
      exact q)
theorem xc_dnotin (hr : Room k X.A) (h : XE X F δ μ i fun y μ1 => XE X F δ μ1 o fun r μ2 => ∃ p kvs x, r = .r (.ref p) ∧ (p, Ob.dic kvs) ∈ μ2 ∧ y = .d (.str x) ∧ Q (dk kvs x).isNone μ2) : XC X F δ μ .NotIn i o Q := fun σ H lo ow fk =>
  wc_of (pc_dnotin (hu1 hr) pe_w pe_w) (h.run lo ow fk fun y H1 r μ1 t1 lo1 r1 ow1 fk1 q1 => q1.run lo1 ow1 fk1 fun v H2 ry μ2 t2 _ r2 ow2 fk2 ⟨p, kvs, x, e1, hm, e2, q⟩ => by
    subst e1 e2
    cases r2
    cases r1 with
    | d r1 =>
      cases r1
      obtain ⟨ov, g, c⟩ := dic_get (x := x) (ow2 _ hm)
      refine ⟨p, ov, rfl, g, t1.trans t2, _, μ2, .d (.bl _), ow2, fk2, _, rfl, ?_⟩
      have : (!ov.isSome) = (dk kvs x).isNone := by
        rcases c with ⟨c, c2⟩ | ⟨r, v, c1, c2, c3⟩
        · rw [c, c2] <;> rfl
        · rw [c1, c2] <;> rfl
      rw [this]
      exact q)
/-- a == b == c, as a test -/
theorem xt_eq2 (hr : Room k X.A) (h : XE X F δ μ a fun ra μ1 => XE X F δ μ1 b fun rb μ2 => ∃ d e, Dd μ2 ra d ∧ Dd μ2 rb e ∧ SeqAt.shaped d = true ∧ SeqAt.shaped e = true ∧
      (PyData.eqv d e = true → XE X F δ μ2 c fun rc μ3 => ∃ g, Dd μ3 rb e ∧ Dd μ3 rc g ∧ SeqAt.shaped g = true ∧ Q (PyData.eqv e g) μ3) ∧ (PyData.eqv d e = false → Q false μ2))
    (hm : lastMarks [CmpOp.Eq, CmpOp.Eq] [b, c] = false := by with_unfolding_all rfl) : XT X F δ μ (.Compare a [.Eq, .Eq] [b, c] pos) Q := fun σ H lo ow fk =>
  wt_of (pt_chain (op_eqD hr.units) (op_eqD hr.units) pe_w pe_w pe_w hm) (h.run lo ow fk fun x H1 ra μ1 t1 lo1 r1 ow1 fk1 q1 => q1.run lo1 ow1 fk1 fun y H2 rb μ2 t2 lo2 r2 ow2 fk2 ⟨d, e, h1, h2, h3, h4, q3, q4⟩ => by
    refine ⟨d, e, h1.dp (r1.keep t2) ow2, h2.dp r2 ow2, h3, h4, _, rfl, ?_⟩
    cases hc : PyData.eqv d e with
    | true =>
      rw [if_pos rfl]
      exact (q3 hc).run lo2 ow2 fk2 fun z H3 rc μ3 t3 _ r3 ow3 fk3 ⟨g, g1, g2, g3, q⟩ => ⟨e, g, g1.dp (r2.keep t3) ow3, g2.dp r3 ow3, h4, g3, _, rfl, (t1.trans t2).trans t3, μ3, ow3, fk3, q⟩
    | false =>
      rw [if_neg Bool.false_ne_true]
      exact ⟨_, rfl, t1.trans t2, μ2, ow2, fk2, q4 hc⟩)

/-! ### tests that are known -/
variable {rest : List Expr} {A B : List Stmt} {D : Dn} {st : Stmt} {sts : List Stmt}
theorem xs_ifT (h : XT X F δ μ c fun k μ1 => k = true ∧ XSs X F δ μ1 A D) : XS X F δ μ (.If c A B pos) D := xs_if (h.mono fun k μ1 ⟨e, q⟩ => ⟨fun _ => q, fun z => by rw [e] at z; cases z⟩)
theorem xs_ifF (h : XT X F δ μ c fun k μ1 => k = false ∧ XSs X F δ μ1 B D) : XS X F δ μ (.If c A B pos) D := xs_if (h.mono fun k μ1 ⟨e, q⟩ => ⟨(fun z => by rw [e] at z; cases z), fun _ => q⟩)
theorem xe_ifT {Q : Rv → Mu → Prop} (h : XT X F δ μ c fun k μ1 => k = true ∧ XE X F δ μ1 a Q) : XE X F δ μ (.IfExp c a b pos) Q := xe_if (h.mono fun k μ1 ⟨e, q⟩ => ⟨fun _ => q, fun z => by rw [e] at z; cases z⟩)
theorem xe_ifF {Q : Rv → Mu → Prop} (h : XT X F δ μ c fun k μ1 => k = false ∧ XE X F δ μ1 b Q) : XE X F δ μ (.IfExp c a b pos) Q := xe_if (h.mono fun k μ1 ⟨e, q⟩ => ⟨(fun z => by rw [e] at z; cases z), fun _ => q⟩)
theorem xe_andT {Q : Rv → Mu → Prop} (h : XE X F δ μ a fun r μ1 => r = .d (.bool true) ∧ XE X F δ μ1 (.BoolOp .And (b :: rest) pos) Q) : XE X F δ μ (.BoolOp .And (a :: b :: rest) pos) Q := xe_and (h.mono fun r μ1 ⟨e, q⟩ => ⟨true, e, fun _ => q, fun z => by cases z⟩)
theorem xe_andF {Q : Rv → Mu → Prop} (h : XE X F δ μ a fun r μ1 => r = .d (.bool false) ∧ Q (.d (.bool false)) μ1) : XE X F δ μ (.BoolOp .And (a :: b :: rest) pos) Q := xe_and (h.mono fun r μ1 ⟨e, q⟩ => ⟨false, e, (fun z => by cases z), fun _ => q⟩)
theorem xe_orT {Q : Rv → Mu → Prop} (h : XE X F δ μ a fun r μ1 => r = .d (.bool true) ∧ Q (.d (.bool true)) μ1) : XE X F δ μ (.BoolOp .Or (a :: b :: rest) pos) Q := xe_or (h.mono fun r μ1 ⟨e, q⟩ => ⟨true, e, fun _ => q, fun z => by cases z⟩)
theorem xe_orF {Q : Rv → Mu → Prop} (h : XE X F δ μ a fun r μ1 => r = .d (.bool false) ∧ XE X F δ μ1 (.BoolOp .Or (b :: rest) pos) Q) : XE X F δ μ (.BoolOp .Or (a :: b :: rest) pos) Q := xe_or (h.mono fun r μ1 ⟨e, q⟩ => ⟨false, e, (fun z => by cases z), fun _ => q⟩)
theorem xw_andT (h : XT X F δ μ a fun k μ1 => k = true ∧ XW X F δ μ1 (.BoolOp .And (b :: rest) pos) Q) : XW X F δ μ (.BoolOp .And (a :: b :: rest) pos) Q := xw_and (h.mono fun k μ1 ⟨e, q⟩ => ⟨fun _ => q, fun z => by rw [e] at z; cases z⟩)
theorem xw_andF (h : XT X F δ μ a fun k μ1 => k = false ∧ Q false μ1) : XW X F δ μ (.BoolOp .And (a :: b :: rest) pos) Q := xw_and (h.mono fun k μ1 ⟨e, q⟩ => ⟨(fun z => by rw [e] at z; cases z), fun _ => q⟩)
theorem xw_orT (h : XT X F δ μ a fun k μ1 => k = true ∧ Q true μ1) : XW X F δ μ (.BoolOp .Or (a :: b :: rest) pos) Q := xw_or (h.mono fun k μ1 ⟨e, q⟩ => ⟨fun _ => q, fun z => by rw [e] at z; cases z⟩)
theorem xw_orF (h : XT X F δ μ a fun k μ1 => k = false ∧ XW X F δ μ1 (.BoolOp .Or (b :: rest) pos) Q) : XW X F δ μ (.BoolOp .Or (a :: b :: rest) pos) Q := xw_or (h.mono fun k μ1 ⟨e, q⟩ => ⟨(fun z => by rw [e] at z; cases z), fun _ => q⟩)
/-- ends that speak of fewer objects -/
def Dn.subs (D : Dn) : Dn := ⟨fun δ μ => ∃ μ2 : Mu, μ2.Sublist μ ∧ D.nx δ μ2, fun r μ => ∃ μ2 : Mu, μ2.Sublist μ ∧ D.rt r μ2, fun δ μ => ∃ μ2 : Mu, μ2.Sublist μ ∧ D.bk δ μ2, fun δ μ => ∃ μ2 : Mu, μ2.Sublist μ ∧ D.ct δ μ2⟩
theorem En.subs {K : PySem.W.Frag} {H : Hp} {N : De → Mu → Prop} : ∀ σ' H', En K F H (fun δ μ => ∃ μ2 : Mu, μ2.Sublist μ ∧ N δ μ2) σ' H' → En K F H N σ' H' := fun _ _ ⟨t, δ', μ', l, o, f, μ2, s, q⟩ => ⟨t, δ', μ2, l, o.sub s, f.sub s, q⟩
theorem XSs.subs (h : XSs X F δ μ sts D.subs) : XSs X F δ μ sts D := fun σ H lo ow fk pins s I =>
  thn (h σ H lo ow fk pins s I) fun f s' z => sp_mono z En.subs (fun _ _ ⟨r, μ', h1, h2, h3, μ2, s, q⟩ => ⟨r, μ2, h1, h2.sub s, h3.sub s, q⟩) En.subs En.subs
theorem XS.subs (h : XS X F δ μ st D.subs) : XS X F δ μ st D := fun σ H lo ow fk pins s I =>
  thn (h σ H lo ow fk pins s I) fun f s' z => sp_mono z En.subs (fun _ _ ⟨r, μ', h1, h2, h3, μ2, s, q⟩ => ⟨r, μ2, h1, h2.sub s, h3.sub s, q⟩) En.subs En.subs
/-- r is what it is, and so on -/
theorem XE.to {e : Expr} {Q : Rv → Mu → Prop} {r0 : Rv} {μ0 : Mu} (h : XE X F δ μ e fun r μ1 => r = r0 ∧ μ0.Sublist μ1) (q : Q r0 μ0) : XE X F δ μ e Q := XE.sub (h.mono fun r μ1 ⟨e, s⟩ => ⟨μ0, s, by rw [e]; exact q⟩)
end
section
variable {P : Program} {w : World} {K : PySem.W.Frag} {mg : Str → Option Value} {base : Heap} {x qual : Str} {params : Arguments} {body : List Stmt} {scope : Scope} {f : Addr} {fd : FuncData}
/-- what a def's body is to show -/
def DnE (Q : Rv → Mu → Prop) : Dn := ⟨fun _ μ' => ∃ μ2 : Mu, μ2.Sublist μ' ∧ Q (.d .none) μ2, fun r μ' => ∃ μ2 : Mu, μ2.Sublist μ' ∧ Q r μ2, fun _ _ => False, fun _ _ => False⟩
theorem sp_false {X : Cx} {F : Fm} {δ : De} {μ : Mu} {sts : List Stmt} {Q : Rv → Mu → Prop} (h : XSs X F δ μ sts (DnE Q)) : XSs X F δ μ sts (Dn.subs ⟨fun _ μ' => Q (.d .none) μ', Q, fun _ _ => False, fun _ _ => False⟩) := fun σ H lo ow fk pins s I =>
  thn (h σ H lo ow fk pins s I) fun f s' z => sp_mono z (fun _ _ q => q) (fun _ _ q => q) (fun _ _ ⟨_, _, _, _, _, _, q⟩ => q.elim) (fun _ _ ⟨_, _, _, _, _, _, q⟩ => q.elim)
/-- a def by its body -/
theorem df_by {N ps : List Str} {k : Nat} {S : Sc} (Fn : FunD K x qual params body scope [] [] f fd) (sc : FnScope N ps scope)
    (bd : ∀ (kV doc pm : Value) (an : Option Addr) (cdv ct : Value) (us : List Value), us.length = ps.length → bindArgs (PySem.W.fnOf x qual params body scope .none kV doc pm an cdv ct) ⟨us, []⟩ = pure (ps.zip us))
    (len : ∀ args μ Q, S args μ Q → args.length = ps.length)
    (hb : ∀ (cdv : Value) (A : Around) (outer : List Env) (s : Shared) (H : Hp) (E : XK), Room k (A.deeper (envOfC qual scope s.heap.objs.size f cdv)) → ∀ (F : Fm) (args : List Rv) (μ : Mu) (Q : Rv → Mu → Prop), S args μ Q →
      XSs (bodyX P w K mg base N qual scope f cdv A outer s H E) F (startD N args) μ body (DnE Q)) : Df P w K mg base (k + 1) f ps S :=
  df_mk Fn sc bd len fun cdv A outer s H E hr F args μ Q h => XSs.subs (sp_false (hb cdv A outer s H E hr F args μ Q h))
end
end Ds

/-! text CwEnc -/
/-! The mirror's things as data. -/
namespace Cw
open PySem PyProof.Rows
/-! ### what == may be asked of: depth, equality -/
def Sh (n : Nat) (d : PyData) : Prop := d.canLay0 = true ∧ d.depth ≤ n
theorem Sh.ok {n : Nat} {d : PyData} (h : Sh n d) (hn : n ≤ 64) : SeqAt.shaped d = true := by
  unfold SeqAt.shaped
  rw [h.1, decide_eq_true (Nat.le_trans h.2 hn)]
  rfl
theorem Sh.mono {n m : Nat} {d : PyData} (h : Sh n d) (k : n ≤ m) : Sh m d := ⟨h.1, Nat.le_trans h.2 k⟩
theorem sh_none : Sh 0 .none := ⟨by simp [PyData.canLay0], by simp [PyData.depth]⟩
theorem sh_bool (b : Bool) : Sh 0 (.bool b) := ⟨by simp [PyData.canLay0], by simp [PyData.depth]⟩
theorem sh_int (i : Int) : Sh 0 (.int i) := ⟨by simp [PyData.canLay0], by simp [PyData.depth]⟩
theorem sh_str {x : Str} (h : PyData.strOk x = true) : Sh 0 (.str x) := ⟨by simp [PyData.canLay0, h], by simp [PyData.depth]⟩
theorem sh_all {n : Nat} : ∀ {xs : List PyData}, (∀ x ∈ xs, Sh n x) → PyData.canLayAll0 xs = true ∧ PyData.depthAll xs ≤ n
  | [], _ => ⟨by simp [PyData.canLayAll0], by simp [PyData.depthAll]⟩
  | x :: xs, h => by
    obtain ⟨h1, h2⟩ := h x List.mem_cons_self
    obtain ⟨h3, h4⟩ := sh_all fun y hy => h y (List.mem_cons_of_mem _ hy)
    refine ⟨by simp [PyData.canLayAll0, h1, h3], ?_⟩
    simp only [PyData.depthAll]
    omega
theorem sh_tup {n : Nat} {xs : List PyData} (h : ∀ x ∈ xs, Sh n x) : Sh (n + 1) (.tuple xs) := by
  obtain ⟨h1, h2⟩ := sh_all h
  exact ⟨by simp [PyData.canLay0, h1], by simp [PyData.depth]; omega⟩
theorem sh_lst {n : Nat} {xs : List PyData} (h : ∀ x ∈ xs, Sh n x) : Sh (n + 1) (.list xs) := by
  obtain ⟨h1, h2⟩ := sh_all h
  exact ⟨by simp [PyData.canLay0, h1], by simp [PyData.depth]; omega⟩
theorem sh_nil : Sh 1 (.tuple []) := sh_tup (n := 0) fun x h => by cases h
theorem sh_map {α : Type} {n : Nat} {xs : List α} {enc : α → PyData} (h : ∀ x ∈ xs, Sh n (enc x)) : Sh (n + 1) (.tuple (xs.map enc)) := sh_tup fun y hy => by
  obtain ⟨x, hx, rfl⟩ := List.mem_map.mp hy
  exact h x hx
theorem sh_mapL {α : Type} {n : Nat} {xs : List α} {enc : α → PyData} (h : ∀ x ∈ xs, Sh n (enc x)) : Sh (n + 1) (.list (xs.map enc)) := sh_lst fun y hy => by
  obtain ⟨x, hx, rfl⟩ := List.mem_map.mp hy
  exact h x hx
/-- an encoding tells its things apart -/
def Ap {α : Type} [DecidableEq α] (enc : α → PyData) : Prop := ∀ x y, PyData.eqv (enc x) (enc y) = decide (x = y)
theorem eqv_str (x y : Str) : PyData.eqv (.str x) (.str y) = decide (x = y) := by
  unfold PyData.eqv
  by_cases h : x = y
  · rw [h]; simp
  · rw [decide_eq_false h]; exact beq_eq_false_iff_ne.mpr h
theorem eqv_int (x y : Int) : PyData.eqv (.int x) (.int y) = decide (x = y) := by
  unfold PyData.eqv
  by_cases h : x = y
  · rw [h]; simp
  · rw [decide_eq_false h]; exact beq_eq_false_iff_ne.mpr h
theorem eqv_bool (x y : Bool) : PyData.eqv (.bool x) (.bool y) = (x == y) := by unfold PyData.eqv; rfl
theorem eqv_none : PyData.eqv .none .none = true := by unfold PyData.eqv; rfl
theorem eqv_tup (xs ys : List PyData) : PyData.eqv (.tuple xs) (.tuple ys) = PyData.eqvAll xs ys := by rw [PyData.eqv]
theorem eqv_lst (xs ys : List PyData) : PyData.eqv (.list xs) (.list ys) = PyData.eqvAll xs ys := by rw [PyData.eqv]
theorem eqvAll_nil : PyData.eqvAll [] [] = true := by rw [PyData.eqvAll]
theorem eqvAll_cons (x y : PyData) (xs ys : List PyData) : PyData.eqvAll (x :: xs) (y :: ys) = (PyData.eqv x y && PyData.eqvAll xs ys) := by rw [PyData.eqvAll]
theorem eqvAll_l (x : PyData) (xs : List PyData) : PyData.eqvAll (x :: xs) [] = false := by rw [PyData.eqvAll]
theorem eqvAll_r (x : PyData) (xs : List PyData) : PyData.eqvAll [] (x :: xs) = false := by rw [PyData.eqvAll]
theorem ap_str : Ap PyData.str := eqv_str
theorem ap_int : Ap PyData.int := eqv_int
theorem Ap.all {α : Type} [DecidableEq α] {enc : α → PyData} (h : Ap enc) : ∀ xs ys : List α, PyData.eqvAll (xs.map enc) (ys.map enc) = decide (xs = ys)
  | [], [] => eqvAll_nil
  | x :: xs, [] => eqvAll_l _ _
  | [], y :: ys => eqvAll_r _ _
  | x :: xs, y :: ys => by
    rw [List.map_cons, List.map_cons, eqvAll_cons, h, Ap.all h xs ys]
    by_cases e : x = y
    · by_cases e2 : xs = ys
      · simp [e, e2]
      · simp [e, e2]
    · simp [e]
theorem Ap.tup {α : Type} [DecidableEq α] {enc : α → PyData} (h : Ap enc) (xs ys : List α) : PyData.eqv (.tuple (xs.map enc)) (.tuple (ys.map enc)) = decide (xs = ys) := (eqv_tup _ _).trans (h.all xs ys)
theorem Ap.mem {α : Type} [DecidableEq α] {enc : α → PyData} (h : Ap enc) (x : α) : ∀ xs : List α, ((xs.map enc).any fun z => PyData.eqv z (enc x)) = decide (x ∈ xs)
  | [] => by simp
  | y :: xs => by
    rw [List.map_cons, List.any_cons, h, Ap.mem h x xs]
    by_cases e : y = x
    · simp [e]
    · have : ¬ x = y := fun z => e z.symm
      simp [e, this]
theorem eqv_empty (xs : List PyData) : PyData.eqv (.tuple xs) (.tuple []) = xs.isEmpty := by
  cases xs with
  | nil => rw [eqv_tup, eqvAll_nil]; rfl
  | cons x xs => rw [eqv_tup, eqvAll_l]; rfl
theorem eqvL_empty (xs : List PyData) : PyData.eqv (.list xs) (.list []) = xs.isEmpty := by
  cases xs with
  | nil => rw [eqv_lst, eqvAll_nil]; rfl
  | cons x xs => rw [eqv_lst, eqvAll_l]; rfl
mutual
theorem eqv_refl : ∀ d : PyData, d.canLay0 = true → PyData.eqv d d = true
  | .none, _ => eqv_none
  | .bool b, _ => by rw [eqv_bool]; simp
  | .int i, _ => by rw [eqv_int]; simp
  | .str x, _ => by rw [eqv_str]; simp
  | .list xs, h => by rw [eqv_lst]; exact eqvAll_refl xs (by simpa [PyData.canLay0] using h)
  | .tuple xs, h => by rw [eqv_tup]; exact eqvAll_refl xs (by simpa [PyData.canLay0] using h)
  | .dict _, h => by simp [PyData.canLay0] at h
theorem eqvAll_refl : ∀ xs : List PyData, PyData.canLayAll0 xs = true → PyData.eqvAll xs xs = true
  | [], _ => eqvAll_nil
  | x :: xs, h => by
    have h' : x.canLay0 = true ∧ PyData.canLayAll0 xs = true := by simpa [PyData.canLayAll0] using h
    rw [eqvAll_cons, eqv_refl x h'.1, eqvAll_refl xs h'.2]
    rfl
end

/-! ### encodings -/
def eP (p : Pair) : PyData := .tuple [.str p.1, .int p.2]
def eAsk (a : Ask) : PyData := .tuple (a.map eP)
def eInts (l : List Int) : PyData := .tuple (l.map .int)
def eNeeds : Option Pair → PyData
  | none => .none
  | some p => eP p
def eWish (w : Wish) : PyData := .tuple [.str w.kind, eInts w.worths, .bool w.must, eNeeds w.needs]
def eWishes (ws : List Wish) : PyData := .tuple (ws.map eWish)
def eEntry (p : Str × List Int) : PyData := .tuple [.str p.1, eInts p.2]
def ePlan (pl : List (Str × List Int)) : PyData := .tuple (pl.map eEntry)
def tWd : Wd → Str
  | .ask => "ask"
  | .yes => "yes"
  | .no => "no"
  | .rather => "rather"
  | .bye => "bye"
  | .here => "here"
  | .there => "there"
def tNm : Bool → Str
  | false => "a"
  | true => "b"
def eLetter (l : Letter) : PyData := .tuple [.str (tNm l.who), .str (tWd l.word), .int l.mine, .int l.yours, .int l.number, eAsk l.pairs]
def eOAsk : Option Ask → PyData
  | none => .none
  | some a => eAsk a
def eOLet : Option Letter → PyData
  | none => .none
  | some l => eLetter l
def tStand (e : End) : Str := if e.closed then "closed" else if e.given.isSome && e.took.isSome then "open" else "asking"
def eEnd (e : End) : PyData := .tuple [.str (tNm e.name), eWishes e.wishes, .str (tStand e), .int e.turn, .int e.yours, .int e.number, ePlan e.plan, eAsk e.refused, eOAsk e.given, .int e.heard, eOAsk e.took, eOLet e.last, .int e.tries, .int e.echoes, .str e.why]
theorem ap_pair : Ap eP := fun p q => by
  obtain ⟨a, b⟩ := p
  obtain ⟨c, d⟩ := q
  show PyData.eqv (.tuple [.str a, .int b]) (.tuple [.str c, .int d]) = _
  rw [eqv_tup, eqvAll_cons, eqvAll_cons, eqvAll_nil, eqv_str, eqv_int]
  by_cases h1 : a = c
  · by_cases h2 : b = d
    · simp [h1, h2]
    · simp [h1, h2]
  · simp [h1]
theorem ap_ask : Ap eAsk := fun a b => ap_pair.tup a b
theorem ap_ints : Ap eInts := fun a b => ap_int.tup a b
/-- a kind's text can be laid -/
def KOk (x : Str) : Prop := PyData.strOk x = true
theorem sh_pair {p : Pair} (h : KOk p.1) : Sh 1 (eP p) := sh_tup fun x hx => by
  simp only [List.mem_cons, List.not_mem_nil, or_false] at hx
  rcases hx with rfl | rfl
  · exact sh_str h
  · exact sh_int _
theorem sh_ask {a : Ask} (h : ∀ p ∈ a, KOk p.1) : Sh 2 (eAsk a) := sh_map fun p hp => sh_pair (h p hp)
theorem sh_ints (l : List Int) : Sh 1 (eInts l) := sh_map fun x _ => sh_int x
theorem ok_wd (w : Wd) : KOk (tWd w) := by cases w <;> (unfold KOk; decide +kernel)
theorem ok_nm (b : Bool) : KOk (tNm b) := by cases b <;> (unfold KOk; decide +kernel)
theorem ok_stand (e : End) : KOk (tStand e) := by
  unfold tStand
  split
  · unfold KOk; decide +kernel
  · split
    · unfold KOk; decide +kernel
    · unfold KOk; decide +kernel
theorem wd_inj (w v : Wd) : decide (tWd w = tWd v) = decide (w = v) := by cases w <;> cases v <;> decide +kernel
theorem nm_inj (w v : Bool) : decide (tNm w = tNm v) = decide (w = v) := by cases w <;> cases v <;> decide +kernel
end Cw

/-! text Ds11 -/
/-! Code over data: calls with defaults and keywords. -/
namespace Ds
open PySem PySem.Spec PyProof.Rows L2

/-- a def called without its keyword-only parameters: drs their defaults -/
structure DfD (P : Program) (w : World) (K : PySem.W.Frag) (mg : Str → Option Value) (base : Heap) (k : Nat) (f : Addr) (ps : List Str) (drs : List Rv) (S : Sc) : Prop where
  ex : ∃ (fd : FuncData) (dvs : List V) (ds : List Value), FnOk P w K mg base CX0 k f fd ps (spOf K S) ∧ Binds K fd ps ds ∧ Vals dvs ds ∧ (∀ H, Rks K H dvs drs) ∧ PySem.W.keepIn K (.ref f) = true
/-- called with all of them: n others, these keywords -/
structure DfK (P : Program) (w : World) (K : PySem.W.Frag) (mg : Str → Option Value) (base : Heap) (k : Nat) (f : Addr) (ps : List Str) (n : Nat) (ks : List Str) (S : Sc) : Prop where
  ex : ∃ fd : FuncData, FnOk P w K mg base CX0 k f fd ps (spOf K S) ∧ KBn K fd ps n ks (fun us ws => us ++ ws) (fun us ws => us ++ ws) ∧ PySem.W.keepIn K (.ref f) = true
section
variable {P : Program} {w : World} {K : PySem.W.Frag} {mg : Str → Option Value} {base : Heap} {j k n : Nat} {f : Addr} {fd : FuncData} {ps ks : List Str} {drs : List Rv} {S : Sc}
theorem DfD.mono (D : DfD P w K mg base j f ps drs S) (h : j ≤ k) : DfD P w K mg base k f ps drs S := let ⟨fd, dvs, ds, F, r⟩ := D.ex; ⟨fd, dvs, ds, F.mono h, r⟩
theorem DfK.mono (D : DfK P w K mg base j f ps n ks S) (h : j ≤ k) : DfK P w K mg base k f ps n ks S := let ⟨fd, F, r⟩ := D.ex; ⟨fd, F.mono h, r⟩
theorem FnOk.imp2 {sp sp' : Sp} (F : FnOk P w K mg base CX0 k f fd ps sp) (h : ∀ vs H Q E, sp' vs H Q E → sp vs H Q E) : FnOk P w K mg base CX0 k f fd ps sp' := F.imp h
section
variable {x qual : Str} {params : Arguments} {body : List Stmt} {scope : Scope} {kws : List (Str × V)}
theorem DfD.of (Fn : FunD K x qual params body scope [] kws f fd) (F : FnOk P w K mg base CX0 k f fd ps (spOf K S)) (n : Nat) (hk : kws ≠ []) (hn : n + kws.length = ps.length)
    (h : ∀ (D : Addr) (doc pm : Value) (an : Option Addr) (cdv ct : Value) (us ks : List Value), us.length = n → ks.length = kws.length →
      KwChain D ((kws.map (·.1)).zip ks) (bindArgs (PySem.W.fnOf x qual params body scope .none (.ref D) doc pm an cdv ct) ⟨us, []⟩) (ps.zip (us ++ ks))) (hd : ∀ H, Rks K H (kws.map (·.2)) drs) : DfD P w K mg base k f ps drs S := by
  obtain ⟨ds, h1, h2⟩ := Fn.binds0 n hk hn h
  exact ⟨fd, _, ds, F, h2, h1, hd, Fn.kp⟩
theorem DfK.of (Fn : FunD K x qual params body scope [] kws f fd) (F : FnOk P w K mg base CX0 k f fd ps (spOf K S))
    (h : ∀ (kV doc pm : Value) (an : Option Addr) (cdv ct : Value) (us ws : List Value), us.length = n → ws.length = ks.length → bindArgs (PySem.W.fnOf x qual params body scope .none kV doc pm an cdv ct) ⟨us, ks.zip ws⟩ = pure (ps.zip (us ++ ws))) : DfK P w K mg base k f ps n ks S := by
  refine ⟨fd, F, ⟨fun s us ws _ h1 h2 => ?_, fun r1 r2 => r1.append r2⟩, Fn.kp⟩
  obtain ⟨oc, od, dV, kV, doc, pm, an, cdv, ct, osl, rfl, lk, hcd, hD, hK⟩ := Fn.ex
  rcases hD with ⟨_, rfl⟩ | ⟨e, _⟩
  · exact .of_eq (h kV doc pm an cdv ct us ws h1 h2)
  · exact absurd rfl e
end
end
section
variable {X : Cx} {F : Fm} {δ : De} {μ : Mu} {k n : Nat} {f : Addr} {ps ks : List Str} {S : Sc} {x : Str} {p pos kpos : Pos} {e : Expr} {es : List Expr} {Q : Rv → Mu → Prop} {drs : List Rv} {kws : List Keyword} {nm : Option Str}
/-- f(e, ..), the keyword-only ones left out -/
theorem xe_callD (D : DfD X.prog X.w X.K X.mg X.base k f ps drs S) (hr : Room k X.A) (hm : X.mg x = some (.ref f))
    (h : XA X F δ μ (e :: es) fun rs μ1 => ∃ μa μr, μ1.Perm (μa ++ μr) ∧ S (rs ++ drs) μa fun r μb => Q r (μb ++ μr)) (hg : Gl X x := by rfl) (hdb : (x == ("__debug__" : Str)) = false := by decide)
    (he : starEach (e :: es) X.env = (false, eval e X.env) :: starEach es X.env := by rfl) (hpl : (backTo pos (starEach es X.env)).any (·.1) = false := by rfl) : XE X F δ μ (.Call (.Name x p) (e :: es) [] pos) Q := fun σ H lo ow fk => by
  obtain ⟨fd, dvs, ds, G, b, hv, hd, kp⟩ := D.ex
  refine we_of (pe_call G hr hg hm kp b hv pass0 pa_w hdb he hpl) (h.run lo ow fk fun vs H1 rs μ1 t1 _ r1 ow1 fk1 ⟨μa, μr, pm, q⟩ => ?_)
  show spOf X.K S (vs ++ dvs) H1 (Pe X.K F H Q) E0
  exact (sp_call (E := E0) ow1 fk1 pm (r1.append (hd H1)) q).mono (Pe.back t1)
/-- the keywords' values -/
def WK (X : Cx) (kws : List Keyword) : TA := fun σ H Q => ∀ (pos : Pos) (pins : List (Addr × Obj)) (s : Shared), Inv X pins σ H s → wpAny (model X.prog X.w) X.A (evalAll ((backToKw pos (keywordEach kws X.env)).map (·.2))) (AP X pins σ Q) X.xe s
theorem pk_w : PK X kws (WK X kws) := ⟨fun pos pins s _ _ _ I h => h pos pins s I⟩
theorem wk_of {t : TA} (h : PK X kws t) {σ : L2.St} {H : Hp} {Q : List V → Hp → Prop} (q : t σ H Q) : WK X kws σ H Q := fun pos pins s I => h.run pos pins s σ H Q I q
def XKw (X : Cx) (F : Fm) (δ : De) (μ : Mu) (kws : List Keyword) (Q : List Rv → Mu → Prop) : Prop := ∀ σ H, Lo X.K H σ δ → Ow X.K H μ → Fk F H μ → WK X kws σ H (Pa X.K F H Q)
theorem XKw.run {Q : List Rv → Mu → Prop} {Q' : List V → Hp → Prop} {σ : L2.St} {H : Hp} (h : XKw X F δ μ kws Q) (lo : Lo X.K H σ δ) (ow : Ow X.K H μ) (fk : Fk F H μ) (k : ∀ v H' r μ', TK H H' → Lo X.K H' σ δ → Rks X.K H' v r → Ow X.K H' μ' → Fk F H' μ' → Q r μ' → Q' v H') : WK X kws σ H Q' := fun pos pins s I =>
  thn (h σ H lo ow fk pos pins s I) fun us s' ⟨v, H', I', rr, t, r, μ', h1, h2, h3, h4⟩ => ⟨v, H', I', rr, k v H' r μ' t (lo.keep t) h1 h2 h3 h4⟩
theorem xk_nil {Q : List Rv → Mu → Prop} (q : Q [] μ) : XKw X F δ μ [] Q := fun σ H lo ow fk => wk_of pk_nil ⟨TK.refl H, [], μ, .nil, ow, fk, q⟩
theorem xk_cons {Q : List Rv → Mu → Prop} (h : XE X F δ μ e fun r μ1 => XKw X F δ μ1 kws fun rs μ2 => Q (r :: rs) μ2) : XKw X F δ μ (⟨nm, e, kpos⟩ :: kws) Q := fun σ H lo ow fk =>
  wk_of (pk_cons pe_w pk_w) (h.run lo ow fk fun v H1 r μ1 t1 lo1 r1 ow1 fk1 q1 => q1.run lo1 ow1 fk1 fun vs H2 rs μ2 t2 _ rs2 ow2 fk2 q2 => ⟨t1.trans t2, r :: rs, μ2, .cons (r1.keep t2) rs2, ow2, fk2, q2⟩)
/-- f(e, .., k = v, ..), all of them given -/
theorem xe_callKw (D : DfK X.prog X.w X.K X.mg X.base k f ps n ks S) (hr : Room k X.A) (hm : X.mg x = some (.ref f))
    (h : XA X F δ μ (e :: es) fun rs μ1 => XKw X F δ μ1 kws fun zs μ2 => rs.length = n ∧ zs.length = ks.length ∧ ∃ μa μr, μ2.Perm (μa ++ μr) ∧ S (rs ++ zs) μa fun r μb => Q r (μb ++ μr)) (hg : Gl X x := by rfl) (hdb : (x == ("__debug__" : Str)) = false := by decide)
    (hall : (backToKw pos (keywordEach kws X.env)).all (·.1.isSome) = true := by rfl) (hks : (backToKw pos (keywordEach kws X.env)).filterMap (·.1) = ks := by rfl)
    (he : starEach (e :: es) X.env = (false, eval e X.env) :: starEach es X.env := by rfl) (hpl : ((backTo pos (starEach (e :: es) X.env)).any (·.1) || (backToKw pos (keywordEach kws X.env)).any (·.1.isNone)) = false := by rfl) : XE X F δ μ (.Call (.Name x p) (e :: es) kws pos) Q := fun σ H lo ow fk => by
  obtain ⟨fd, G, b, kp⟩ := D.ex
  refine we_of (pe_callN G hr hg hm kp b pass0 pa_w pk_w hall hks hdb he hpl) (h.run lo ow fk fun vs H1 rs μ1 t1 lo1 r1 ow1 fk1 q1 => q1.run lo1 ow1 fk1 fun zs H2 zr μ2 t2 _ r2 ow2 fk2 ⟨l1, l2, μa, μr, pm, q⟩ => ?_)
  refine ⟨by rw [r1.length]; exact l1, by rw [r2.length]; exact l2, ?_⟩
  exact (sp_call (E := E0) ow2 fk2 pm ((r1.keep t2).append r2) q).mono (Pe.back (t1.trans t2))
/-- f() -/
theorem xe_call0 (D : Df X.prog X.w X.K X.mg X.base k f ps S) (hr : Room k X.A) (hm : X.mg x = some (.ref f))
    (h : ∃ μa μr, μ.Perm (μa ++ μr) ∧ S [] μa fun r μb => Q r (μb ++ μr)) (hg : Gl X x := by rfl) (hdb : (x == ("__debug__" : Str)) = false := by decide) : XE X F δ μ (.Call (.Name x p) [] [] pos) Q := fun σ H lo ow fk => by
  obtain ⟨fd, G, b, kp⟩ := D.ex
  obtain ⟨μa, μr, pm, q⟩ := h
  refine we_of (pe_call0 G hr hg hm kp b .nil pass0 hdb) ?_
  exact sp_call (E := E0) ow fk pm .nil q
end
section
variable {P : Program} {w : World} {K : PySem.W.Frag} {mg : Str → Option Value} {base : Heap} {x qual : Str} {params : Arguments} {body : List Stmt} {scope : Scope} {dvs : List V} {kws : List (Str × V)} {f : Addr} {fd : FuncData}
/-- a def of any parameters keeps its promise, by its body -/
theorem fn_by {N ps : List Str} {k : Nat} {S : Sc} (Fn : FunD K x qual params body scope dvs kws f fd) (sc : FnScope N ps scope) (len : ∀ args μ Q, S args μ Q → args.length = ps.length)
    (hb : ∀ (cdv : Value) (A : Around) (outer : List Env) (s : Shared) (H : Hp) (E : XK), Room k (A.deeper (envOfC qual scope s.heap.objs.size f cdv)) → ∀ (F : Fm) (args : List Rv) (μ : Mu) (Q : Rv → Mu → Prop), S args μ Q →
      XSs (bodyX P w K mg base N qual scope f cdv A outer s H E) F (startD N args) μ body (DnE Q)) : FnOk P w K mg base CX0 (k + 1) f fd ps (spOf K S) :=
  df_fn Fn sc len fun cdv A outer s H E hr F args μ Q h => XSs.subs (sp_false (hb cdv A outer s H E hr F args μ Q h))
end
end Ds

/-! text Zs -/
/-! zip(.., strict=True) over two iterators of any kind. -/
namespace Zs
open PySem PySem.Spec PyProof.Rows
/-- a strict zip as it stands -/
abbrev ZsAt (h : Heap) (z TI TO : Addr) (f0 f1 : Value) : Prop := h.get? z = some { cls := .type "zip", dict := none, data := .fields #[f0, f1, .bool true, .ref TI, .ref TO], slots := #[] }
section
variable {prog : Program} {w : World} {A : Around} {E : Value → Shared → Prop} {s : Shared} {it : Addr} {fp : List Addr} {n i : Nat} {P : Nat → Value → Prop} {St : Nat → Heap → Prop} {Q : Option Value → Shared → Prop}
theorem noe_item (D : Draws prog w A it fp n P St) (hi : i < n) (st : St i s.heap) (hQ : ∀ x h' tk, P i x → St (i + 1) h' → Heap.SameBut it s.heap h' → Q (some x) { s with heap := h', toks := tk }) :
    wpAny (model prog w) A (Builtin.SmallTypes.nextOrEnd (.ref it)) Q E s := by
  unfold Builtin.SmallTypes.nextOrEnd
  exact wpAny_bind (wpAny_attempt (D.item i s _ _ hi st fun x h' tk p st' sb => wpAny_pure (hQ x h' tk p st' sb)))
theorem noe_end (D : Draws prog w A it fp n P St) (st : St n s.heap) (hQ : ∀ h', Heap.ExtBut it s.heap h' → Q none { s with heap := h' }) :
    wpAny (model prog w) A (Builtin.SmallTypes.nextOrEnd (.ref it)) Q E s := by
  unfold Builtin.SmallTypes.nextOrEnd
  refine wpAny_bind (wpAny_attempt (D.done s _ _ st fun h' e hk he => ?_))
  obtain ⟨o, ho, hc⟩ := he
  exact wpAny_bind (wpAny_isInstance (T := "StopIteration") (b := true) ⟨o, ho, hc⟩ isSubtype_stop (wpAny_pure (hQ h' hk)))
end
section
variable {prog : Program} {w : World} {A : Around} {E : Value → Shared → Prop} {s : Shared} {z TI TO i1 i2 : Addr} {fp1 fp2 : List Addr} {n i : Nat} {P1 P2 : Nat → Value → Prop} {St1 St2 : Nat → Heap → Prop} {a1 a2 f1 : Value}
/-- next, the tuple that was given before let go -/
theorem zs_item {Q : Value → Shared → Prop} (S : ZipSep2 z TI TO i1 i2 fp1 fp2) (D1 : Draws prog w A i1 fp1 n P1 St1) (D2 : Draws prog w A i2 fp2 n P2 St2)
    (hz : ZsAt s.heap z TI TO .none f1) (hTI : IsTupOf2 s.heap TI (.ref i1) (.ref i2)) (hTO : IsTupOf2 s.heap TO a1 a2) (st1 : St1 i s.heap) (st2 : St2 i s.heap) (hlt : i < n)
    (hQ : ∀ x1 x2 h' tk, P1 i x1 → P2 i x2 → ZsAt h' z TI TO (rawInt s.heap.objs.size) (.bool false) → IsTupOf2 h' TO x1 x2 → St1 (i + 1) h' → St2 (i + 1) h' → IsTupOf2 h' s.heap.objs.size x1 x2 → h'.objs.size = s.heap.objs.size + 1 →
      (∀ c o, c ≠ z → c ≠ TO → c ≠ i1 → c ≠ i2 → s.heap.get? c = some o → h'.get? c = some o) → Q (.ref s.heap.objs.size) { s with heap := h', toks := tk }) :
    wpAny (model prog w) A (Builtin.«zip.__next__» ⟨[.ref z], []⟩) (fun fin s' => ∃ v, fin = .done (.ret v) ∧ Q v s') E s := by
  obtain ⟨hp, g, d, tk0, os⟩ := s
  show wpAny _ _ (field (.ref z) 2 >>= _) _ _ _
  refine wpAny_bind (wpAny_field hz rfl (x := .bool true) rfl ?_)
  show wpAny _ _ (field (.ref z) 3 >>= _) _ _ _
  refine wpAny_bind (wpAny_field hz rfl (x := .ref TI) rfl (wpAny_bind (wpAny_seqItems hTI rfl ?_)))
  show wpAny _ _ (Builtin.SmallTypes.ownedTupleIsFree (.ref z) >>= _) _ _ _
  refine wpAny_bind ?_
  unfold Builtin.SmallTypes.ownedTupleIsFree
  refine wpAny_bind (wpAny_field hz rfl (x := .none) rfl (wpAny_pure ?_))
  simp only [if_true]
  refine wpAny_bind (wpAny_rule (wpAny_bind (wpAny_field hz rfl (x := .ref TO) rfl (wpAny_bind (wpAny_setField_rec hz (by simp) fun g0 hz0 hs0 => wpAny_bind ?_)))))
  replace hz0 : ZsAt g0 z TI TO .ellipsis f1 := hz0
  replace hs0 : Heap.SameBut z hp g0 := hs0
  simp only [List.zipIdx_cons, List.zipIdx_nil, List.forIn_cons, List.forIn_nil]
  refine wpAny_bind (wpAny_bind (wpAny_onRaise ?_))
  show wpAny _ _ (Builtin.SmallTypes.nextOrEnd (.ref i1)) _ _ ⟨g0, g, d, tk0, os⟩
  refine noe_item D1 hlt (D1.over st1 hs0 S.zf1) fun x1 p1 tk1 hx1 sn1 hp1 => ?_
  replace hp1 : Heap.SameBut i1 g0 p1 := hp1
  have hU1 : IsTupOf2 p1 TO a1 a2 := hp1.extBut _ _ S.Ti1 (hs0.extBut _ _ S.TOz hTO)
  refine wpAny_bind (wpAny_seqItems (s := ⟨p1, g, d, tk1, os⟩) hU1 rfl (wpAny_bind (updateSeq_IsTupOf2 (s := ⟨p1, g, d, tk1, os⟩) hU1 fun g1 hT1 hs1 => wpAny_bind (wpAny_letGo (wpAny_pure ?_)))))
  replace hT1 : IsTupOf2 g1 TO x1 a2 := hT1
  replace hs1 : Heap.SameBut TO p1 g1 := hs1
  refine wpAny_bind (wpAny_bind (wpAny_onRaise ?_))
  show wpAny _ _ (Builtin.SmallTypes.nextOrEnd (.ref i2)) _ _ ⟨g1, g, d, tk1, os⟩
  refine noe_item D2 hlt (D2.over (D2.over (D2.over st2 hs0 S.zf2) hp1 S.sep1_2) hs1 S.Tf2) fun x2 p2 tk2 hx2 sn2 hp2 => ?_
  replace hp2 : Heap.SameBut i2 g1 p2 := hp2
  have hU2 : IsTupOf2 p2 TO x1 a2 := hp2.extBut _ _ S.Ti2 hT1
  refine wpAny_bind (wpAny_seqItems (s := ⟨p2, g, d, tk2, os⟩) hU2 rfl (wpAny_bind (updateSeq_IsTupOf2 (s := ⟨p2, g, d, tk2, os⟩) hU2 fun g2 hT2 hs2 => wpAny_bind (wpAny_letGo (wpAny_pure (wpAny_pure ?_))))))
  replace hT2 : IsTupOf2 g2 TO x1 x2 := hT2
  replace hs2 : Heap.SameBut TO p2 g2 := hs2
  refine wpAny_bind (wpAny_seqItems (s := ⟨g2, g, d, tk2, os⟩) hT2 rfl (wpAny_bind (wpAny_newTuple ?_)))
  have hsz : g2.objs.size = hp.objs.size := by rw [hs2.1, hp2.1, hs1.1, hp1.1, hs0.1]
  have hzz : ZsAt g2 z TI TO .ellipsis f1 := hs2.extBut _ _ S.TOz.symm (hp2.extBut _ _ S.zi2 (hs1.extBut _ _ S.TOz.symm (hp1.extBut _ _ S.zi1 hz0)))
  have hkk : ∀ c o, c ≠ z → c ≠ TO → c ≠ i1 → c ≠ i2 → hp.get? c = some o → g2.get? c = some o := fun c o cz cT c1 c2 e =>
    hs2.extBut _ _ cT (hp2.extBut _ _ c2 (hs1.extBut _ _ cT (hp1.extBut _ _ c1 (hs0.extBut _ _ cz e))))
  have hj1 : St1 (i + 1) g2 := D1.over (D1.over (D1.over sn1 hs1 S.Tf1) hp2 S.sep2_1) hs2 S.Tf1
  have hj2 : St2 (i + 1) g2 := D2.over sn2 hs2 S.Tf2
  have hzlt : z < g2.objs.size := Heap.lt_size hzz
  show wpAny _ _ (Builtin.SmallTypes.ownedTupleHandOut (.ref z) (.ref g2.objs.size) >>= _) _ _ ⟨g2.push { cls := .type "tuple", data := .seq #[x1, x2] }, g, d, tk2, os⟩
  refine wpAny_bind ?_
  unfold Builtin.SmallTypes.ownedTupleHandOut
  have hz6 : ZsAt (g2.push { cls := .type "tuple", data := .seq #[x1, x2] }) z TI TO .ellipsis f1 := Heap.get?_push_of_some _ hzz
  refine wpAny_bind (wpAny_setField_rec hz6 (by simp) fun h7 hz7 hs7 => ?_)
  replace hz7 : ZsAt h7 z TI TO (rawInt g2.objs.size) f1 := hz7
  refine wpAny_setField_rec hz7 (by simp) fun h8 hz8 hs8 => wpAny_pure ⟨_, rfl, ?_⟩
  replace hz8 : ZsAt h8 z TI TO (rawInt g2.objs.size) (.bool false) := hz8
  replace hs7 : Heap.SameBut z (g2.push { cls := .type "tuple", data := .seq #[x1, x2] }) h7 := hs7
  replace hs8 : Heap.SameBut z h7 h8 := hs8
  have up : ∀ c o, c ≠ z → g2.get? c = some o → h8.get? c = some o := fun c o c1 e => hs8.extBut _ _ c1 (hs7.extBut _ _ c1 (Heap.get?_push_of_some _ e))
  have hT8 : IsTupOf2 h8 g2.objs.size x1 x2 := hs8.extBut _ _ (Nat.ne_of_gt hzlt) (hs7.extBut _ _ (Nat.ne_of_gt hzlt) (Heap.get?_push_size _ rfl))
  have z8 : h8.objs.size = g2.objs.size + 1 := by rw [hs8.1, hs7.1, Heap.size_push]
  rw [hsz] at hz8 hT8 z8
  show Q (.ref g2.objs.size) ⟨h8, g, d, tk2, os⟩
  rw [hsz]
  exact hQ x1 x2 h8 tk2 hx1 hx2 hz8 (up _ _ S.TOz hT2) (D1.frame _ _ _ hj1 fun b hb o e => up b o (fun q => S.zf1 (q ▸ hb)) e) (D2.frame _ _ _ hj2 fun b hb o e => up b o (fun q => S.zf2 (q ▸ hb)) e) hT8 z8 fun c o cz cT c1 c2 e => up c o cz (hkk c o cz cT c1 c2 e)
/-- a StopIteration is raised -/
theorem stop_now {α : Type} {Q : α → Shared → Prop} (hh : A.handled = none) (hE : ∀ h' e, (∀ c o, s.heap.get? c = some o → h'.get? c = some o) → (∃ o, h'.get? e = some o ∧ o.cls = .type "StopIteration") → E (.ref e) { s with heap := h' }) :
    wpAny (model prog w) A (Builtin.SmallTypes.stopIteration : Sem α) Q E s := by
  unfold Builtin.SmallTypes.stopIteration
  refine wpAny_bind ?_
  simp only [newExc, newTuple]
  refine wpAny_bind (wpAny_newObj_type ?_ (by size_fits))
  refine wpAny_bind (m := firstArgMember _ _) (wpAny_of_eq (a := Value.none) (by first | rfl | (simp only [firstArgMember]; rfl)) (wpAny_newObj_type ?_ (by size_fits)))
  simp only [raiseNew]
  refine wpAny_bind (wpAny_handled ?_)
  rw [hh]
  refine wpAny_bind (wpAny_pure (wpAny_throw (hE _ _ (fun c o e => Heap.get?_push_of_some _ (Heap.get?_push_of_some _ e)) ⟨_, Heap.get?_push_size _ rfl, rfl⟩)))
/-- the end of both -/
theorem zs_end {Q : Fin → Shared → Prop} (S : ZipSep2 z TI TO i1 i2 fp1 fp2) (D1 : Draws prog w A i1 fp1 n P1 St1) (D2 : Draws prog w A i2 fp2 n P2 St2) (hh : A.handled = none)
    (hz : ZsAt s.heap z TI TO .none f1) (hTI : IsTupOf2 s.heap TI (.ref i1) (.ref i2)) (st1 : St1 n s.heap) (st2 : St2 n s.heap)
    (hE : ∀ h' tk e, (∀ c o, c ≠ z → c ≠ TO → c ≠ i1 → c ≠ i2 → s.heap.get? c = some o → h'.get? c = some o) → (∃ o, h'.get? e = some o ∧ o.cls = .type "StopIteration") → E (.ref e) { s with heap := h', toks := tk }) :
    wpAny (model prog w) A (Builtin.«zip.__next__» ⟨[.ref z], []⟩) Q E s := by
  obtain ⟨hp, g, d, tk0, os⟩ := s
  show wpAny _ _ (field (.ref z) 2 >>= _) _ _ _
  refine wpAny_bind (wpAny_field hz rfl (x := .bool true) rfl ?_)
  show wpAny _ _ (field (.ref z) 3 >>= _) _ _ _
  refine wpAny_bind (wpAny_field hz rfl (x := .ref TI) rfl (wpAny_bind (wpAny_seqItems hTI rfl ?_)))
  show wpAny _ _ (Builtin.SmallTypes.ownedTupleIsFree (.ref z) >>= _) _ _ _
  refine wpAny_bind ?_
  unfold Builtin.SmallTypes.ownedTupleIsFree
  refine wpAny_bind (wpAny_field hz rfl (x := .none) rfl (wpAny_pure ?_))
  simp only [if_true]
  refine wpAny_bind (wpAny_rule (wpAny_bind (wpAny_field hz rfl (x := .ref TO) rfl (wpAny_bind (wpAny_setField_rec hz (by simp) fun g0 hz0 hs0 => wpAny_bind ?_)))))
  replace hz0 : ZsAt g0 z TI TO .ellipsis f1 := hz0
  replace hs0 : Heap.SameBut z hp g0 := hs0
  simp only [List.zipIdx_cons, List.zipIdx_nil, List.forIn_cons, List.forIn_nil]
  refine wpAny_bind (wpAny_bind (wpAny_onRaise ?_))
  show wpAny _ _ (Builtin.SmallTypes.nextOrEnd (.ref i1)) _ _ ⟨g0, g, d, tk0, os⟩
  refine noe_end D1 (D1.over st1 hs0 S.zf1) fun p1 hp1 => ?_
  replace hp1 : Heap.ExtBut i1 g0 p1 := hp1
  have hz1 : ZsAt p1 z TI TO .ellipsis f1 := hp1 _ _ S.zi1 hz0
  refine wpAny_bind (wpAny_setField_rec (s := ⟨p1, g, d, tk0, os⟩) hz1 (by simp) fun p2 hz2 hs2 => ?_)
  replace hs2 : Heap.SameBut z p1 p2 := hs2
  refine wpAny_bind (wpAny_bind ?_)
  simp only [List.drop_succ_cons, List.drop_zero, List.zipIdx_cons, List.zipIdx_nil, List.forIn_cons, List.forIn_nil]
  refine wpAny_bind (wpAny_bind (noe_end (s := ⟨p2, g, d, tk0, os⟩) D2 (D2.over (D2.frame _ _ _ (D2.over st2 hs0 S.zf2) fun b hb o e => hp1 b o (fun q => S.sep1_2 (q ▸ hb)) e) hs2 S.zf2) fun p3 hp3 => ?_))
  replace hp3 : Heap.ExtBut i2 p2 p3 := hp3
  refine wpAny_pure (wpAny_pure (wpAny_bind (wpAny_rule (stop_now hh fun h' e hk he => ?_))))
  exact hE h' tk0 e (fun c o cz cT c1 c2 x => hk c o (hp3 c o c2 (hs2.extBut _ _ cz (hp1 c o c1 (hs0.extBut _ _ cz x))))) he
/-- the tuple that was given before is still there -/
theorem not_free {T : Addr} {f : Bool} {oT : Obj} {Q : Bool → Shared → Prop} (hz : ZsAt s.heap z TI TO (rawInt T) (.bool f)) (hT : s.heap.get? T = some oT)
    (h : ∀ h', ZsAt h' z TI TO (rawInt T) (.bool true) → Heap.SameBut z s.heap h' → Q false { s with heap := h' }) : wpAny (model prog w) A (Builtin.SmallTypes.ownedTupleIsFree (.ref z)) Q E s := by
  unfold Builtin.SmallTypes.ownedTupleIsFree
  refine wpAny_bind (wpAny_field hz rfl (x := rawInt T) rfl ?_)
  show wpAny _ _ (loadIfAlive ((T : Int).toNat) >>= _) _ _ _
  rw [Int.toNat_natCast]
  refine wpAny_bind (PySem.W.kdx_alive hT ?_)
  simp only [Option.isNone_some, Bool.false_eq_true, if_false]
  refine wpAny_bind (wpAny_field hz rfl (x := .bool f) rfl ?_)
  cases f with
  | true => exact wpAny_pure (h s.heap hz (Heap.SameBut.refl _ _))
  | false => exact wpAny_bind (wpAny_setField_rec hz (by simp) fun h1 hz1 hs1 => wpAny_pure (h h1 hz1 hs1))
theorem zs_itemH {Q : Value → Shared → Prop} {T : Addr} {f : Bool} {oT : Obj} (S : ZipSep2 z TI TO i1 i2 fp1 fp2) (D1 : Draws prog w A i1 fp1 n P1 St1) (D2 : Draws prog w A i2 fp2 n P2 St2)
    (hz : ZsAt s.heap z TI TO (rawInt T) (.bool f)) (hT : s.heap.get? T = some oT) (hTI : IsTupOf2 s.heap TI (.ref i1) (.ref i2)) (st1 : St1 i s.heap) (st2 : St2 i s.heap) (hlt : i < n)
    (hQ : ∀ x1 x2 h' tk, P1 i x1 → P2 i x2 → ZsAt h' z TI TO (rawInt T) (.bool true) → St1 (i + 1) h' → St2 (i + 1) h' → IsTupOf2 h' s.heap.objs.size x1 x2 → h'.objs.size = s.heap.objs.size + 1 →
      (∀ c o, c ≠ z → c ≠ i1 → c ≠ i2 → s.heap.get? c = some o → h'.get? c = some o) → Q (.ref s.heap.objs.size) { s with heap := h', toks := tk }) :
    wpAny (model prog w) A (Builtin.«zip.__next__» ⟨[.ref z], []⟩) (fun fin s' => ∃ v, fin = .done (.ret v) ∧ Q v s') E s := by
  obtain ⟨hp, g, d, tk0, os⟩ := s
  show wpAny _ _ (field (.ref z) 2 >>= _) _ _ _
  refine wpAny_bind (wpAny_field hz rfl (x := .bool true) rfl ?_)
  show wpAny _ _ (field (.ref z) 3 >>= _) _ _ _
  refine wpAny_bind (wpAny_field hz rfl (x := .ref TI) rfl (wpAny_bind (wpAny_seqItems hTI rfl ?_)))
  show wpAny _ _ (Builtin.SmallTypes.ownedTupleIsFree (.ref z) >>= _) _ _ _
  refine wpAny_bind (not_free hz hT fun g0 hz0 hs0 => ?_)
  replace hs0 : Heap.SameBut z hp g0 := hs0
  simp only [Bool.false_eq_true, if_false]
  refine wpAny_bind ?_
  rw [← Array.forIn_toList]
  simp only [List.forIn_cons, List.forIn_nil]
  refine wpAny_bind (wpAny_bind (wpAny_holding ?_))
  show wpAny _ _ (Builtin.SmallTypes.nextOrEnd (.ref i1)) _ _ ⟨g0, g, d, tk0, os⟩
  refine noe_item D1 hlt (D1.over st1 hs0 S.zf1) fun x1 p1 tk1 hx1 sn1 hp1 => wpAny_pure ?_
  replace hp1 : Heap.SameBut i1 g0 p1 := hp1
  refine wpAny_bind (wpAny_bind (wpAny_holding ?_))
  show wpAny _ _ (Builtin.SmallTypes.nextOrEnd (.ref i2)) _ _ ⟨p1, g, d, tk1, os⟩
  refine noe_item D2 hlt (D2.over (D2.over st2 hs0 S.zf2) hp1 S.sep1_2) fun x2 p2 tk2 hx2 sn2 hp2 => wpAny_pure (wpAny_pure ?_)
  replace hp2 : Heap.SameBut i2 p1 p2 := hp2
  show wpAny _ _ (newTuple [x1, x2] >>= _) _ _ _
  refine wpAny_bind (wpAny_newTuple (wpAny_pure ⟨_, rfl, ?_⟩))
  have hsz : p2.objs.size = hp.objs.size := by rw [hp2.1, hp1.1, hs0.1]
  have hzz : ZsAt p2 z TI TO (rawInt T) (.bool true) := hp2.extBut _ _ S.zi2 (hp1.extBut _ _ S.zi1 hz0)
  have hkk : ∀ c o, c ≠ z → c ≠ i1 → c ≠ i2 → hp.get? c = some o → p2.get? c = some o := fun c o cz c1 c2 e => hp2.extBut _ _ c2 (hp1.extBut _ _ c1 (hs0.extBut _ _ cz e))
  have hj1 : St1 (i + 1) p2 := D1.over sn1 hp2 S.sep2_1
  have hT8 : IsTupOf2 (p2.push { cls := .type "tuple", data := .seq #[x1, x2] }) p2.objs.size x1 x2 := Heap.get?_push_size _ rfl
  have z8 : (p2.push { cls := .type "tuple", data := .seq #[x1, x2] }).objs.size = p2.objs.size + 1 := Heap.size_push ..
  show Q (.ref p2.objs.size) ⟨_, g, d, tk2, os⟩
  rw [hsz] at hT8 z8
  rw [hsz]
  exact hQ x1 x2 _ tk2 hx1 hx2 (Heap.get?_push_of_some _ hzz) (D1.frame _ _ _ hj1 fun b _ o e => Heap.get?_push_of_some _ e) (D2.frame _ _ _ sn2 fun b _ o e => Heap.get?_push_of_some _ e) hT8 z8 fun c o cz c1 c2 e => Heap.get?_push_of_some _ (hkk c o cz c1 c2 e)
theorem zs_endH {Q : Fin → Shared → Prop} {T : Addr} {f : Bool} {oT : Obj} (S : ZipSep2 z TI TO i1 i2 fp1 fp2) (D1 : Draws prog w A i1 fp1 n P1 St1) (D2 : Draws prog w A i2 fp2 n P2 St2) (hh : A.handled = none)
    (hz : ZsAt s.heap z TI TO (rawInt T) (.bool f)) (hT : s.heap.get? T = some oT) (hTI : IsTupOf2 s.heap TI (.ref i1) (.ref i2)) (st1 : St1 n s.heap) (st2 : St2 n s.heap)
    (hE : ∀ h' tk e, (∀ c o, c ≠ z → c ≠ i1 → c ≠ i2 → s.heap.get? c = some o → h'.get? c = some o) → (∃ o, h'.get? e = some o ∧ o.cls = .type "StopIteration") → E (.ref e) { s with heap := h', toks := tk }) :
    wpAny (model prog w) A (Builtin.«zip.__next__» ⟨[.ref z], []⟩) Q E s := by
  obtain ⟨hp, g, d, tk0, os⟩ := s
  show wpAny _ _ (field (.ref z) 2 >>= _) _ _ _
  refine wpAny_bind (wpAny_field hz rfl (x := .bool true) rfl ?_)
  show wpAny _ _ (field (.ref z) 3 >>= _) _ _ _
  refine wpAny_bind (wpAny_field hz rfl (x := .ref TI) rfl (wpAny_bind (wpAny_seqItems hTI rfl ?_)))
  show wpAny _ _ (Builtin.SmallTypes.ownedTupleIsFree (.ref z) >>= _) _ _ _
  refine wpAny_bind (not_free hz hT fun g0 hz0 hs0 => ?_)
  replace hs0 : Heap.SameBut z hp g0 := hs0
  simp only [Bool.false_eq_true, if_false]
  refine wpAny_bind ?_
  rw [← Array.forIn_toList]
  simp only [List.forIn_cons, List.forIn_nil]
  refine wpAny_bind (wpAny_bind (wpAny_holding ?_))
  show wpAny _ _ (Builtin.SmallTypes.nextOrEnd (.ref i1)) _ _ ⟨g0, g, d, tk0, os⟩
  refine noe_end D1 (D1.over st1 hs0 S.zf1) fun p1 hp1 => ?_
  replace hp1 : Heap.ExtBut i1 g0 p1 := hp1
  refine wpAny_bind (wpAny_bind ?_)
  simp only [List.drop_succ_cons, List.drop_zero, List.zipIdx_cons, List.zipIdx_nil, List.forIn_cons, List.forIn_nil]
  refine wpAny_bind (wpAny_bind (noe_end (s := ⟨p1, g, d, tk0, os⟩) D2 (D2.frame _ _ _ (D2.over st2 hs0 S.zf2) fun b hb o e => hp1 b o (fun q => S.sep1_2 (q ▸ hb)) e) fun p3 hp3 => ?_))
  replace hp3 : Heap.ExtBut i2 p1 p3 := hp3
  refine wpAny_pure (wpAny_pure (wpAny_bind (wpAny_rule (stop_now hh fun h' e hk he => ?_))))
  exact hE h' tk0 e (fun c o cz c1 c2 x => hk c o (hp3 c o c2 (hp1 c o c1 (hs0.extBut _ _ cz x)))) he
end
end Zs

/-! text Zl -/
/-! list(zip(.., strict=True)). -/
namespace Zs
open PySem PySem.Spec PyProof.Rows
section
variable {prog : Program} {w : World} {A : Around} {E : Value → Shared → Prop} {s : Shared} {z TI TO i1 i2 : Addr} {fp1 fp2 : List Addr} {n i : Nat} {P1 P2 : Nat → Value → Prop} {St1 St2 : Nat → Heap → Prop} {a1 a2 f1 : Value}
/-- the zip behind i turns: free, or T given and still there -/
def ZSt (z TI TO i1 i2 lo : Addr) (St1 St2 : Nat → Heap → Prop) (i : Nat) (h : Heap) : Prop :=
  IsTupOf2 h TI (.ref i1) (.ref i2) ∧ (∃ x y, IsTupOf2 h TO x y) ∧ St1 i h ∧ St2 i h ∧ ((∃ f, ZsAt h z TI TO .none f) ∨ ∃ (T : Addr) (f : Bool) (oT : Obj), ZsAt h z TI TO (rawInt T) (.bool f) ∧ h.get? T = some oT ∧ T ≠ z ∧ T ≠ i1 ∧ T ≠ i2 ∧ T ≠ TO ∧ lo ≤ T)
theorem zst_fr {lo : Addr} (S : ZipSep2 z TI TO i1 i2 fp1 fp2) (D1 : Draws prog w A i1 fp1 n P1 St1) (D2 : Draws prog w A i2 fp2 n P2 St2) {h h' : Heap} {X : Addr} (st : ZSt z TI TO i1 i2 lo St1 St2 i h) (k : ∀ b o, b ≠ X → h.get? b = some o → h'.get? b = some o)
    (hz : z ≠ X) (hTI : TI ≠ X) (hTO : TO ≠ X) (h1 : X ∉ fp1) (h2 : X ∉ fp2) (hX : X < lo) : ZSt z TI TO i1 i2 lo St1 St2 i h' := by
  obtain ⟨t1, ⟨x, y, t2⟩, t3, t4, t5⟩ := st
  refine ⟨k _ _ hTI t1, ⟨x, y, k _ _ hTO t2⟩, D1.frame _ _ _ t3 fun b hb o e => k b o (fun q => h1 (q ▸ hb)) e, D2.frame _ _ _ t4 fun b hb o e => k b o (fun q => h2 (q ▸ hb)) e, ?_⟩
  rcases t5 with ⟨f, e⟩ | ⟨T, f, oT, e, e2, r⟩
  · exact .inl ⟨f, k _ _ hz e⟩
  · exact .inr ⟨T, f, oT, k _ _ hz e, k _ _ (Nat.ne_of_gt (Nat.lt_of_lt_of_le hX r.2.2.2.2)) e2, r⟩
theorem zst_item {Q : Option Value → Shared → Prop} {lo : Addr} (S : ZipSep2 z TI TO i1 i2 fp1 fp2) (D1 : Draws prog w A.in1 i1 fp1 n P1 St1) (D2 : Draws prog w A.in1 i2 fp2 n P2 St2) (st : ZSt z TI TO i1 i2 lo St1 St2 i s.heap) (hlt : i < n) (hlo : lo ≤ s.heap.objs.size)
    (hQ : ∀ x1 x2 h' tk, P1 i x1 → P2 i x2 → ZSt z TI TO i1 i2 lo St1 St2 (i + 1) h' → IsTupOf2 h' s.heap.objs.size x1 x2 → h'.objs.size = s.heap.objs.size + 1 →
      (∀ c o, c ≠ z → c ≠ TO → c ≠ i1 → c ≠ i2 → s.heap.get? c = some o → h'.get? c = some o) → Q (some (.ref s.heap.objs.size)) { s with heap := h', toks := tk }) :
    wpAny (model prog w) A (pyNext (.ref z)) Q E s := by
  obtain ⟨t1, ⟨x, y, t2⟩, t3, t4, t5⟩ := st
  have hi1 : ∃ o, s.heap.get? i1 = some o := D1.live _ _ t3
  have hi2 : ∃ o, s.heap.get? i2 = some o := D2.live _ _ t4
  have nz : ∀ {b : Addr}, (∃ o, s.heap.get? b = some o) → s.heap.objs.size ≠ b := fun ⟨o, e⟩ => Nat.ne_of_gt (Heap.lt_size e)
  unfold pyNext
  rcases t5 with ⟨f, e⟩ | ⟨T, f, oT, e, e2, r1, r2, r3, r4, r5⟩
  · have hT : s.TypeIs (.ref z) "zip" := ⟨_, e, rfl⟩
    refine wpAny_bind (wpAny_attempt (wpAny_callSpecial?_slot (name := Str.ofString "__next__") hT F.slot_zip_next (wpAny_call_entry F.slot_zip_next hT F.entry_zip_next
      (zs_item S D1 D2 e t1 t2 t3 t4 hlt fun x1 x2 h' tk p1 p2 hz hTO s1 s2 hp hsz hk => wpAny_pure (hQ x1 x2 h' tk p1 p2 ⟨hk _ _ S.TIz S.TITO S.TIi1 S.TIi2 t1, ⟨x1, x2, hTO⟩, s1, s2, .inr ⟨_, false, _, hz, hp, nz ⟨_, e⟩, nz hi1, nz hi2, nz ⟨_, t2⟩, hlo⟩⟩ hp hsz hk)) (F.args_zip_next_1 _))))
  · have hT : s.TypeIs (.ref z) "zip" := ⟨_, e, rfl⟩
    refine wpAny_bind (wpAny_attempt (wpAny_callSpecial?_slot (name := Str.ofString "__next__") hT F.slot_zip_next (wpAny_call_entry F.slot_zip_next hT F.entry_zip_next
      (zs_itemH S D1 D2 e e2 t1 t3 t4 hlt fun x1 x2 h' tk p1 p2 hz s1 s2 hp hsz hk => wpAny_pure (hQ x1 x2 h' tk p1 p2 ⟨hk _ _ S.TIz S.TIi1 S.TIi2 t1, ⟨x, y, hk _ _ S.TOz S.Ti1 S.Ti2 t2⟩, s1, s2, .inr ⟨T, true, oT, hz, hk _ _ r1 r2 r3 e2, r1, r2, r3, r4, r5⟩⟩ hp hsz fun c o cz _ c1 c2 => hk c o cz c1 c2)) (F.args_zip_next_1 _))))
theorem zst_end {Q : Option Value → Shared → Prop} {lo : Addr} (S : ZipSep2 z TI TO i1 i2 fp1 fp2) (D1 : Draws prog w A.in1 i1 fp1 n P1 St1) (D2 : Draws prog w A.in1 i2 fp2 n P2 St2) (hh : A.handled = none) (st : ZSt z TI TO i1 i2 lo St1 St2 n s.heap)
    (hQ : ∀ h' tk, (∀ c o, c ≠ z → c ≠ TO → c ≠ i1 → c ≠ i2 → s.heap.get? c = some o → h'.get? c = some o) → Q none { s with heap := h', toks := tk }) : wpAny (model prog w) A (pyNext (.ref z)) Q E s := by
  obtain ⟨t1, ⟨x, y, t2⟩, t3, t4, t5⟩ := st
  unfold pyNext
  rcases t5 with ⟨f, e⟩ | ⟨T, f, oT, e, e2, r1, r2, r3, r4, r5⟩
  · have hT : s.TypeIs (.ref z) "zip" := ⟨_, e, rfl⟩
    refine wpAny_bind (wpAny_attempt (wpAny_callSpecial?_slot (name := Str.ofString "__next__") hT F.slot_zip_next (wpAny_call_entry F.slot_zip_next hT F.entry_zip_next
      (zs_end S D1 D2 hh e t1 t3 t4 fun h' tk x hk hx => ?_) (F.args_zip_next_1 _))))
    obtain ⟨o, ho, hc⟩ := hx
    exact wpAny_bind (wpAny_isInstance (T := "StopIteration") (b := true) ⟨o, ho, hc⟩ isSubtype_stop (wpAny_pure (hQ _ _ hk)))
  · have hT : s.TypeIs (.ref z) "zip" := ⟨_, e, rfl⟩
    refine wpAny_bind (wpAny_attempt (wpAny_callSpecial?_slot (name := Str.ofString "__next__") hT F.slot_zip_next (wpAny_call_entry F.slot_zip_next hT F.entry_zip_next
      (zs_endH S D1 D2 hh e e2 t1 t3 t4 fun h' tk x hk hx => ?_) (F.args_zip_next_1 _))))
    obtain ⟨o, ho, hc⟩ := hx
    exact wpAny_bind (wpAny_isInstance (T := "StopIteration") (b := true) ⟨o, ho, hc⟩ isSubtype_stop (wpAny_pure (hQ _ _ fun c o cz _ c1 c2 => hk c o cz c1 c2)))
theorem ne_lo {a b lo : Addr} (h1 : a < lo) (h2 : lo ≤ b) : b ≠ a := Nat.ne_of_gt (Nat.lt_of_lt_of_le h1 h2)
/-- the pairs that were given -/
def Given (P1 P2 : Nat → Value → Prop) (lo : Addr) (h : Heap) (as : List Addr) : Prop := as.Pairwise (· < ·) ∧ ∀ (j : Nat) (a : Addr), as[j]? = some a → lo ≤ a ∧ ∃ x1 x2, P1 j x1 ∧ P2 j x2 ∧ IsTupOf2 h a x1 x2
theorem zs_loop {S lo : Addr} {res : Value} {R : Result → Shared → Prop} {h0 : Heap} (Sp : ZipSep2 z TI TO i1 i2 fp1 fp2) (D1 : Draws prog w A.in1.in1 i1 fp1 n P1 St1) (D2 : Draws prog w A.in1.in1 i2 fp2 n P2 St2) (hh : A.handled = none) (hn : n ≤ 100000)
    (l1 : S < lo) (l2 : z < lo) (l3 : TO < lo) (l4 : i1 < lo) (l5 : i2 < lo) (n1 : z ≠ S) (n2 : TI ≠ S) (n3 : TO ≠ S) (n4 : S ∉ fp1) (n5 : S ∉ fp2)
    (hR : ∀ h' tk acc c as, (∀ b o, b ≠ S → b ≠ z → b ≠ TO → b ≠ i1 → b ≠ i2 → h0.get? b = some o → h'.get? b = some o) → h'.get? S = some { cls := .type "list", dict := none, data := .seq acc c, slots := #[] } → as.length = n → Given P1 P2 lo h' as →
      acc.toList = as.map Value.ref → R (.ok (.ret res)) { s with heap := h', toks := tk }) :
    ∀ (k i : Nat) (h : Heap) (tk c : Nat) (acc : Array Value) (as : List Addr), n - i = k → i ≤ n → ZSt z TI TO i1 i2 lo St1 St2 i h → (∀ b o, b ≠ S → b ≠ z → b ≠ TO → b ≠ i1 → b ≠ i2 → h0.get? b = some o → h.get? b = some o) →
      h.get? S = some { cls := .type "list", dict := none, data := .seq acc c, slots := #[] } → acc.toList = as.map Value.ref → as.length = i → Given P1 P2 lo h as → lo ≤ h.objs.size →
      codeAny (model prog w) A (.builtin "list.extend.loop" ⟨[.ref S, .ref z, res], []⟩) R { s with heap := h, toks := tk } := by
  intro k
  have m1 : i1 ≠ S := fun q => n4 (q ▸ Sp.mem1)
  have m2 : i2 ≠ S := fun q => n5 (q ▸ Sp.mem2)
  induction k with
  | zero =>
    intro i h tk c acc as hk hi hst hkeep hS hacc hal hG hlo
    have hin : i = n := by omega
    subst hin
    refine codeAny_builtin PySem.F.entry_extend_loop ?_
    rw [Around.under_plainId PySem.F.plain_extend_loop _]
    show wpAny _ A.in1 (pyNext (.ref z) >>= _) _ _ _
    refine wpAny_bind (zst_end (s := { s with heap := h, toks := tk }) Sp D1 D2 hh hst fun h' tk' hk' => wpAny_pure (hR h' tk' acc c as (fun b o b1 b2 b3 b4 b5 e => hk' b o b2 b3 b4 b5 (hkeep b o b1 b2 b3 b4 b5 e)) (hk' S _ (Ne.symm n1) (Ne.symm n3) (Ne.symm m1) (Ne.symm m2) hS) hal ⟨hG.1, fun j a hj => ?_⟩ hacc))
    obtain ⟨g1, x1, x2, p1, p2, g2⟩ := hG.2 j a hj
    exact ⟨g1, x1, x2, p1, p2, hk' a _ (ne_lo l2 g1) (ne_lo l3 g1) (ne_lo l4 g1) (ne_lo l5 g1) g2⟩
  | succ k ih =>
    intro i h tk c acc as hk hi hst hkeep hS hacc hal hG hlo
    have hsz : acc.size = i := by rw [← Array.length_toList, hacc, List.length_map, hal]
    refine codeAny_builtin PySem.F.entry_extend_loop ?_
    rw [Around.under_plainId PySem.F.plain_extend_loop _]
    show wpAny _ A.in1 (pyNext (.ref z) >>= _) _ _ _
    refine wpAny_bind (zst_item (s := { s with heap := h, toks := tk }) Sp D1 D2 hst (by omega) hlo fun x1 x2 h' tk' p1 p2 st' hT hz' hk' => ?_)
    replace hT : IsTupOf2 h' h.objs.size x1 x2 := hT
    replace hz' : h'.objs.size = h.objs.size + 1 := hz'
    replace hk' : ∀ c o, c ≠ z → c ≠ TO → c ≠ i1 → c ≠ i2 → h.get? c = some o → h'.get? c = some o := hk'
    have hS' := hk' S _ (Ne.symm n1) (Ne.symm n3) (Ne.symm m1) (Ne.symm m2) hS
    have up : ∀ b o, b ≠ S → h'.get? b = some o → (h'.update S (Obj.mapSeq (·.push (Value.ref h.objs.size)))).get? b = some o := fun b o hb e => (Heap.get?_update_other _ _ (Ne.symm hb)).trans e
    show wpAny _ A.in1 (updateSeq S (·.push (Value.ref h.objs.size)) >>= _) _ _ _
    refine wpAny_bind (wpAny_updateSeq hS' rfl (wpAny_pure ⟨plainId_quiet PySem.F.plain_extend_loop _, ih (i + 1) _ tk' _ (acc.push (Value.ref h.objs.size)) (as ++ [h.objs.size]) (by omega) (by omega) (zst_fr Sp D1 D2 st' up n1 n2 n3 n4 n5 l1)
      (fun b o b1 b2 b3 b4 b5 e => up b o b1 (hk' b o b2 b3 b4 b5 (hkeep b o b1 b2 b3 b4 b5 e))) (Heap.get?_update_self _ hS' rfl) (by rw [Array.toList_push, hacc, List.map_append]; rfl) (by rw [List.length_append, hal]; rfl) ?_ ?_⟩)
      (by rw [hsz, sizeLine_eq]; omega) (by show (acc.push (Value.ref h.objs.size)).size ≤ sizeLine + 1; rw [Array.size_push, hsz, sizeLine_eq]; omega))
    · refine ⟨List.pairwise_append.mpr ⟨hG.1, List.pairwise_singleton _ _, fun a ha b hb => ?_⟩, ?_⟩
      · rw [List.mem_singleton.mp hb]
        obtain ⟨j, hj⟩ := List.mem_iff_getElem?.mp ha
        obtain ⟨_, _, _, _, _, g2⟩ := hG.2 j a hj
        exact Heap.lt_size g2
      intro j b hj
      rcases Nat.lt_trichotomy j as.length with q | q | q
      · rw [List.getElem?_append_left q] at hj
        obtain ⟨g1, y1, y2, q1, q2, g2⟩ := hG.2 j b hj
        exact ⟨g1, y1, y2, q1, q2, up b _ (ne_lo l1 g1) (hk' b _ (ne_lo l2 g1) (ne_lo l3 g1) (ne_lo l4 g1) (ne_lo l5 g1) g2)⟩
      · subst q
        have hb : h.objs.size = b := by simpa using hj
        subst hb
        subst hal
        exact ⟨hlo, x1, x2, p1, p2, up _ _ (ne_lo l1 hlo) hT⟩
      · have hnone : (as ++ [h.objs.size])[j]? = none := List.getElem?_eq_none (by rw [List.length_append, List.length_singleton]; omega)
        rw [hnone] at hj
        cases hj
    · have e : (h'.update S (Obj.mapSeq (·.push (Value.ref h.objs.size)))).get? h.objs.size = _ := up _ _ (ne_lo l1 hlo) hT
      exact Nat.le_trans hlo (Nat.le_of_lt (Heap.lt_size e))
theorem zip_no_len : typeLookup (.type "zip") "__len__" = pure none := am_miss_of_fast (by decide +kernel)
theorem zip_no_hint : typeLookup (.type "zip") "__length_hint__" = pure none := am_miss_of_fast (by decide +kernel)
/-- list(a strict zip) -/
theorem list_zs {Q : Value → Shared → Prop} {lo : Addr} (Sp : ZipSep2 z TI TO i1 i2 fp1 fp2) (D1 : Draws prog w A.in1.in1.in1 i1 fp1 n P1 St1) (D2 : Draws prog w A.in1.in1.in1 i2 fp2 n P2 St2) (hh : A.handled = none) (hn : n ≤ 100000)
    (hst : ZSt z TI TO i1 i2 lo St1 St2 0 s.heap) (hfree : ∃ f, ZsAt s.heap z TI TO .none f) (b1 : ∀ b ∈ fp1, b < s.heap.objs.size) (b2 : ∀ b ∈ fp2, b < s.heap.objs.size)
    (hQ : ∀ h' tk acc c as, (∀ b o, b ≠ z → b ≠ TO → b ≠ i1 → b ≠ i2 → s.heap.get? b = some o → h'.get? b = some o) → h'.get? s.heap.objs.size = some { cls := .type "list", dict := none, data := .seq acc c, slots := #[] } → as.length = n → Given P1 P2 (s.heap.objs.size + 1) h' as →
      acc.toList = as.map Value.ref → Q (.ref s.heap.objs.size) { s with heap := h', toks := tk }) :
    wpAny (model prog w) A (call (.type "list") [.ref z]) Q E s := by
  obtain ⟨f, hz⟩ := hfree
  obtain ⟨t1, ⟨x, y, t2⟩, t3, t4, _⟩ := hst
  refine callType_codes (Q₁ := fun obj s₁ => obj = .ref s.heap.objs.size ∧ s₁ = { s with heap := s.heap.push { cls := .type "list", data := .seq #[] } }) PySem.F.called_list (PySem.F.typeCall_list_1 _) PySem.F.entry_list_init (code_list_new _ ⟨rfl, rfl⟩) fun obj s₁ h₁ => ?_
  obtain ⟨rfl, rfl⟩ := h₁
  have hS : (s.heap.push { cls := .type "list", data := .seq #[] }).get? s.heap.objs.size = some { cls := .type "list", data := .seq #[] } := Heap.get?_push_size _ rfl
  have zl : z < s.heap.objs.size := Heap.lt_size hz
  have kp : ∀ b o, s.heap.get? b = some o → (s.heap.push { cls := .type "list", data := .seq #[] }).get? b = some o := fun b o e => Heap.get?_push_of_some _ e
  refine ⟨⟨_, hS, rfl⟩, PySem.F.args_list_init_2 _ _, ?_⟩
  show wpAny _ _ (do let old ← Builtin.List.listItems (.ref s.heap.objs.size); Builtin.List.listUpdate (.ref s.heap.objs.size) (fun _ => #[]); letGo old.toList.reverse; Builtin.List.listExtendWith (.ref s.heap.objs.size) (.ref z) .none) _ _ _
  refine wpAny_bind ?_
  unfold Builtin.List.listItems
  refine wpAny_bind (wpAny_seqItems hS rfl (wpAny_pure ?_))
  show wpAny _ _ (updateSeq s.heap.objs.size (fun _ => #[]) >>= fun _ => letGo (#[] : Array Value).toList.reverse >>= fun _ => Builtin.List.listExtendWith (.ref s.heap.objs.size) (.ref z) .none) _ _ _
  refine wpAny_bind (wpAny_updateSeq hS rfl (wpAny_bind (wpAny_letGo ?_)))
  have hS2 := Heap.get?_update_self (Obj.mapSeq (fun _ => (#[] : Array Value))) hS rfl
  have o2 : ∀ b o, b ≠ s.heap.objs.size → (s.heap.push { cls := .type "list", data := .seq #[] }).get? b = some o → ((s.heap.push { cls := .type "list", data := .seq #[] }).update s.heap.objs.size (Obj.mapSeq (fun _ => (#[] : Array Value)))).get? b = some o :=
    fun b o hb e => (Heap.get?_update_other _ _ (Ne.symm hb)).trans e
  generalize (s.heap.push { cls := .type "list", data := .seq #[] }).update s.heap.objs.size (Obj.mapSeq (fun _ => (#[] : Array Value))) = g2 at hS2 o2 ⊢
  have hz2 : ZsAt g2 z TI TO .none f := o2 _ _ (Nat.ne_of_lt zl) (kp _ _ hz)
  have ty2 : Shared.TypeIs { s with heap := g2 } (.ref z) "zip" := ⟨_, hz2, rfl⟩
  unfold Builtin.List.listExtendWith
  refine wpAny_bind (wpAny_typeOf (T := "zip") ty2 ?_)
  have h1 : Builtin.List.listSameRef (.ref s.heap.objs.size) (.ref z) = false := by simp [Builtin.List.listSameRef, Nat.ne_of_gt zl]
  have h2 : (Value.type "zip" == Value.type "list") = false := by decide
  have h3 : (Value.type "zip" == Value.type "tuple") = false := by decide
  simp only [h1, h2, h3, Bool.or_false, Bool.false_eq_true, if_false]
  refine wpAny_bind ?_
  refine wpAny_pyIter_slot ty2 F.slot_zip_iter (wpAny_call_entry F.slot_zip_iter ty2 F.entry_zip_iter ?_ (F.args_zip_iter_1 _))
  show wpAny _ _ (ret (.ref z)) _ _ _
  refine wpAny_pure ⟨_, rfl, "zip", _, ty2, F.slot_zip_next.lookup, ?_⟩
  refine wpAny_bind (wpAny_holding ?_)
  unfold Builtin.List.listLengthHint
  refine wpAny_bind (wpAny_specialOf ty2 zip_no_len ?_)
  show wpAny _ _ (specialOf (Value.ref z) (Str.ofString "__length_hint__") >>= _) _ _ _
  refine wpAny_bind (wpAny_specialOf ty2 zip_no_hint (wpAny_pure ?_))
  show wpAny _ _ (rule "list.extend.makes-room" >>= fun _ => Builtin.List.listTouch (.ref s.heap.objs.size) >>= fun _ => again (.builtin "list.extend.loop" ⟨[.ref s.heap.objs.size, .ref z, .none], []⟩)) _ _ _
  refine wpAny_bind (wpAny_rule (wpAny_bind ?_))
  show wpAny _ _ (updateSeq s.heap.objs.size (·.push .none) >>= fun _ => updateSeq s.heap.objs.size (·.pop)) _ _ _
  refine wpAny_bind (wpAny_updateSeq hS2 rfl ?_)
  have hS3 := Heap.get?_update_self (Obj.mapSeq (·.push Value.none)) hS2 rfl
  refine wpAny_updateSeq (hz := by seq_fits) hS3 rfl ?_
  have hS4 := Heap.get?_update_self (Obj.mapSeq (·.pop)) hS3 rfl
  have o4 : ∀ b o, b ≠ s.heap.objs.size → g2.get? b = some o → ((g2.update s.heap.objs.size (Obj.mapSeq (·.push Value.none))).update s.heap.objs.size (Obj.mapSeq (·.pop))).get? b = some o :=
    fun b o hb e => (Heap.get?_update_other _ _ (Ne.symm hb)).trans ((Heap.get?_update_other _ _ (Ne.symm hb)).trans e)
  generalize (g2.update s.heap.objs.size (Obj.mapSeq (·.push Value.none))).update s.heap.objs.size (Obj.mapSeq (·.pop)) = g4 at hS4 o4 ⊢
  have up : ∀ b o, s.heap.get? b = some o → g4.get? b = some o := fun b o e => o4 b o (Nat.ne_of_lt (Heap.lt_size e)) (o2 b o (Nat.ne_of_lt (Heap.lt_size e)) (kp b o e))
  have zi : i1 < s.heap.objs.size := b1 _ Sp.mem1
  have zj : i2 < s.heap.objs.size := b2 _ Sp.mem2
  have zT : TO < s.heap.objs.size := Heap.lt_size t2
  have hS5 := Heap.lt_size hS4
  refine wpAny_pure ⟨plainId_quiet PySem.F.plain_extend_loop _, ?_⟩
  refine zs_loop (s := s) (h0 := s.heap) (lo := s.heap.objs.size + 1) (A := A.in1) Sp D1 D2 hh hn (Nat.lt_succ_self _) (Nat.lt_succ_of_lt zl) (Nat.lt_succ_of_lt zT) (Nat.lt_succ_of_lt zi) (Nat.lt_succ_of_lt zj) (Nat.ne_of_lt zl) (Nat.ne_of_lt (Heap.lt_size t1)) (Nat.ne_of_lt zT)
    (fun hm => Nat.lt_irrefl _ (b1 _ hm)) (fun hm => Nat.lt_irrefl _ (b2 _ hm)) (fun h' tk acc c as hk hS' hl hG hacc => ⟨rfl, hQ h' tk acc c as (fun b o c1 c2 c3 c4 e => hk b o (Nat.ne_of_lt (Heap.lt_size e)) c1 c2 c3 c4 e) hS' hl hG hacc⟩)
    n 0 g4 s.toks _ #[] [] (Nat.sub_zero _) (Nat.zero_le _) ⟨up _ _ t1, ⟨x, y, up _ _ t2⟩, D1.frame _ _ _ t3 fun b _ o e => up b o e, D2.frame _ _ _ t4 fun b _ o e => up b o e, .inl ⟨f, up _ _ hz⟩⟩ (fun b o _ _ _ _ _ e => up b o e) hS4 rfl rfl ⟨List.Pairwise.nil, fun j a hj => by simp at hj⟩ hS5
end
end Zs

/-! text Zc -/
/-! The call zip(a, b, strict=True). -/
namespace Zs
open PySem PySem.Spec PyProof.Rows
abbrev kwS : List (Str × Value) := [(Str.ofString "strict", .bool true)]
theorem tc_zip (a b : Value) : checkTypeCall "zip" ⟨[a, b], kwS⟩ = pure () := by kernel_rfl
theorem nc_zip (a b : Value) : checkBuiltinCall "zip.__new__" ⟨[.type "zip", a, b], kwS⟩ = pure () := by kernel_rfl
theorem args_oi (a b c : Value) : argsOk "object.__init__" ⟨[a, b, c], kwS⟩ := by
  unfold argsOk; rw [signature?_of (id := "object.__init__") (n := ['_', '_', 't', 'i', 'n', 'i', '_', '_']) (o := ['t', 'c', 'e', 'j', 'b', 'o']) (by kernel_rfl) PySem.F.owner_object]; kernel_rfl
section
variable {prog : Program} {w : World} {A : Around} {E : Value → Shared → Prop} {s : Shared}
theorem oi_meets (self a b : Value) : Meets (Builtin.«object.__init__» ⟨[self, a, b], kwS⟩) (fun _ R s => s.TypeIs self "zip" ∧ R (.ok (.ret .none)) s) := by
  refine Meets.of_wp fun prog w A R s hs => ?_
  obtain ⟨hT, hq⟩ := hs
  have hl := F.called_zip.init.lookup
  have hm := F.called_zip.made
  have hne : (some "zip.__new__" != some "object.__new__") = true := by decide
  repeat (any_goals (first | assumption | wp_step))
  exact ⟨_, rfl, hq⟩
theorem call_zipS {a b : Value} {S : PySem.Spec} {Q : Value → Shared → Prop} (g : Meets (Builtin.«zip.__new__» ⟨[.type "zip", a, b], kwS⟩) S) (h : S A.in1 (wants (fun obj s₁ => s₁.TypeIs obj "zip" ∧ Q obj s₁) E) s) : wpAny (model prog w) A (call (.type "zip") [a, b] kwS) Q E s := by
  have ft := F.called_zip
  obtain ⟨c, tl, hmro⟩ := ft.mro
  have hmade := ft.made
  have hsub := ft.sub
  refine wpAny_call (codeAny_of_tree ?_)
  show wpAny _ _ (callAny (.type "zip") _) _ _ _
  refine wpAny_pure ⟨Code.quiet_builtin _ (by decide +kernel), codeAny_builtin F.entry_type_call ?_⟩
  rw [Around.under_plain (weight_type_call_type "zip" [a, b] kwS) (units_type_call_type "zip" [a, b] kwS)]
  have h1 := ft.notType
  have h2 := ft.canCreate
  repeat (any_goals (first | assumption | wp_step))
  refine codeAny_mono (codeAny_call_builtin ft.plain F.entry_zip_new (wpAny_of_eq (nc_zip a b) (g prog w A.in1 _ s h))) fun r s₁ hr => ?_
  cases r with
  | error e => exact hr
  | ok fl =>
    cases fl with
    | ret obj =>
      obtain ⟨hT, hq⟩ := hr
      have hli := ft.init.lookup
      have hbi := ft.init.bind obj
      repeat (any_goals (first | assumption | wp_step))
      refine codeAny_mono (codeAny_call_builtin ft.init.plain F.entry_object_init (ft.init.check _ _ _ _ _ _ _ _ hT (args_oi _ _ _) (oi_meets obj a b prog w A.in1 _ s₁ ⟨hT, (show wants (fun r s₂ => r = .none ∧ Q obj s₂) E _ _ from ⟨rfl, hq⟩)⟩))) fun r₂ s₂ hr₂ => ?_
      cases r₂ with
      | error e => exact hr₂
      | ok fl₂ =>
        cases fl₂ with
        | ret r =>
          obtain ⟨rfl, hq⟩ := hr₂
          repeat (any_goals (first | assumption | wp_step))
        | _ => exact hr₂.elim
    | _ => exact hr.elim
end
end Zs

/-! text Zd -/
/-! The zip that the call makes. -/
namespace Zs
open PySem PySem.Spec PyProof.Rows
abbrev zH1 (h : Heap) (l1 : Addr) : Heap := h.push { cls := .type "tuple_iterator", data := .fields #[.ref l1, .int 0 0] }
abbrev zH2 (h : Heap) (l1 l2 : Addr) (T : String) : Heap := (zH1 h l1).push { cls := .type T, data := .fields #[.ref l2, .int 0 0] }
abbrev zH3 (h : Heap) (l1 l2 : Addr) (T : String) : Heap := (zH2 h l1 l2 T).push { cls := .type "tuple", data := .seq #[.ref h.objs.size, .ref (zH1 h l1).objs.size] }
abbrev zH4 (h : Heap) (l1 l2 : Addr) (T : String) : Heap := (zH3 h l1 l2 T).push { cls := .type "tuple", data := .seq #[.none, .none] }
abbrev zH5 (h : Heap) (l1 l2 : Addr) (T : String) : Heap := (zH4 h l1 l2 T).push { cls := .type "zip", data := .fields #[.none, .bool false, .bool true, .ref (zH2 h l1 l2 T).objs.size, .ref (zH3 h l1 l2 T).objs.size] }
theorem new_tt (l1 l2 : Addr) (xs ys : Array Value) :
    Meets (Builtin.«zip.__new__» ⟨[.type "zip", .ref l1, .ref l2], kwS⟩) (fun _ R s => s.heap.IsTuple l1 xs ∧ s.heap.IsTuple l2 ys ∧
      R (.ok (.ret (.ref (zH4 s.heap l1 l2 "tuple_iterator").objs.size))) { s with heap := zH5 s.heap l1 l2 "tuple_iterator" }) :=
  .of_wp fun prog w A R s h => by
    obtain ⟨hp, g, d, tk, os⟩ := s; obtain ⟨hl1, hl2, h⟩ := h
    have hsub := sub_zip
    have hL1 : Heap.IsTuple (Shared.heap ⟨hp, g, d, tk, os⟩) l1 xs := hl1
    have hL2 : Heap.IsTuple (Shared.heap ⟨hp.push { cls := .type "tuple_iterator", data := .fields #[.ref l1, .int 0 0] }, g, d, tk, os⟩) l2 ys := Heap.IsTuple.push hl2 _
    wp_walk using wpAny_pyIter_tuple hL1, wpAny_pyIter_tuple hL2
    exact ⟨_, rfl, h⟩
theorem new_tl (l1 l2 : Addr) (xs ys : Array Value) :
    Meets (Builtin.«zip.__new__» ⟨[.type "zip", .ref l1, .ref l2], kwS⟩) (fun _ R s => s.heap.IsTuple l1 xs ∧ s.heap.IsList l2 ys ∧
      R (.ok (.ret (.ref (zH4 s.heap l1 l2 "list_iterator").objs.size))) { s with heap := zH5 s.heap l1 l2 "list_iterator" }) :=
  .of_wp fun prog w A R s h => by
    obtain ⟨hp, g, d, tk, os⟩ := s; obtain ⟨hl1, hl2, h⟩ := h
    have hsub := sub_zip
    have hL1 : Heap.IsTuple (Shared.heap ⟨hp, g, d, tk, os⟩) l1 xs := hl1
    have hL2 : Heap.IsList (Shared.heap ⟨hp.push { cls := .type "tuple_iterator", data := .fields #[.ref l1, .int 0 0] }, g, d, tk, os⟩) l2 ys := Heap.IsList.push hl2 _
    wp_walk using wpAny_pyIter_tuple hL1, wpAny_pyIter_list hL2
    exact ⟨_, rfl, h⟩
end Zs

/-! text Ze -/
/-! list(zip(a, b, strict=True)) as an expression. -/
namespace Zs
open PySem PySem.Spec PyProof.Rows
section
variable {M : Model} {A : Around} {E : Value → Shared → Prop} {s : Shared} {env : Env}
theorem callWith_tyK {pos : Pos} {T : String} {e : Expr} {rest : List Expr} {kws : List Keyword} {Q : Value → Shared → Prop}
    (h : wpAny M A (spliced (backTo pos (starEach (e :: rest) env))) (fun vs s₁ => wpAny M A (evalAll ((backToKw pos (keywordEach kws env)).map (·.2))) (fun ks s₂ => wpAny M A (call (.type T) vs (((backToKw pos (keywordEach kws env)).filterMap (·.1)).zip ks)) Q E s₂) E s₁) E s)
    (hall : (backToKw pos (keywordEach kws env)).all (·.1.isSome) = true) (hplain : (backTo pos (starEach (e :: rest) env)).any (·.1) = false) (hkw : (backToKw pos (keywordEach kws env)).any (·.1.isNone) = false)
    (he : starEach (e :: rest) env = (false, eval e env) :: starEach rest env := by rfl) : wpAny M A (callWith pos (.type T) [] (backTo pos (starEach (e :: rest) env)) (backToKw pos (keywordEach kws env))) Q E s := by
  unfold callWith
  refine wpAny_bind (wpAny_holding (wpAny_mono (evalArgs_kw2 (Q := fun a s₁ => wpAny M A (call (.type T) ([] ++ a.pos) a.kw) Q E s₁) hall h he) (fun a s₁ h₁ => wpAny_bind (wpAny_standAt ?_)) fun _ _ x => x))
  simp only [hplain, hkw, Bool.or_false]
  refine wpAny_bind (wpAny_pure ?_)
  exact wpAny_bind (wpAny_mono h₁ (fun r s₂ hr => wpAny_bind (wpAny_holding (wpAny_point (wpAny_pure hr)))) fun _ _ x => x)
end
section
variable {prog : Program} {w : World} {A : Around} {E : Value → Shared → Prop} {s : Shared} {l1 l2 : Addr} {xs ys : Array Value}
theorem nm2 {a b c : Nat} (h1 : a ≠ b) (h2 : a ≠ c) : a ∉ [b, c] := by simp [h1, h2]
theorem zsep (n l1 l2 : Nat) (h1 : l1 < n) (h2 : l2 < n) : ZipSep2 (n + 4) (n + 2) (n + 3) n (n + 1) [n, l1] [n + 1, l2] where
  TIz := (show (n + 2 : Nat) ≠ n + 4 by omega)
  TOz := (show (n + 3 : Nat) ≠ n + 4 by omega)
  TITO := (show (n + 2 : Nat) ≠ n + 3 by omega)
  TIi1 := (show (n + 2 : Nat) ≠ n by omega)
  mem1 := List.mem_cons_self
  zf1 := nm2 (by omega) (by omega)
  Tf1 := nm2 (by omega) (by omega)
  TIi2 := (show (n + 2 : Nat) ≠ n + 1 by omega)
  mem2 := List.mem_cons_self
  zf2 := nm2 (by omega) (by omega)
  Tf2 := nm2 (by omega) (by omega)
  sep1_2 := nm2 (by omega) (by omega)
  sep2_1 := nm2 (by omega) (by omega)
theorem made (h : Heap) (T : String) (h1 : l1 < h.objs.size) (h2 : l2 < h.objs.size) : ZsAt (zH5 h l1 l2 T) (h.objs.size + 4) (h.objs.size + 2) (h.objs.size + 3) .none (.bool false) ∧ IsTupOf2 (zH5 h l1 l2 T) (h.objs.size + 2) (.ref h.objs.size) (.ref (h.objs.size + 1)) ∧
    IsTupOf2 (zH5 h l1 l2 T) (h.objs.size + 3) .none .none ∧ (zH5 h l1 l2 T).get? h.objs.size = some { cls := .type "tuple_iterator", data := .fields #[.ref l1, .int 0 0] } ∧ (zH5 h l1 l2 T).get? (h.objs.size + 1) = some { cls := .type T, data := .fields #[.ref l2, .int 0 0] } ∧
    (zH5 h l1 l2 T).objs.size = h.objs.size + 5 ∧ (zH4 h l1 l2 T).objs.size = h.objs.size + 4 ∧ ∀ c o, h.get? c = some o → (zH5 h l1 l2 T).get? c = some o := by
  have z1 : (zH1 h l1).objs.size = h.objs.size + 1 := Heap.size_push ..
  have z2 : (zH2 h l1 l2 T).objs.size = h.objs.size + 2 := by rw [Heap.size_push, z1]
  have z3 : (zH3 h l1 l2 T).objs.size = h.objs.size + 3 := by rw [Heap.size_push, z2]
  have z4 : (zH4 h l1 l2 T).objs.size = h.objs.size + 4 := by rw [Heap.size_push, z3]
  have z5 : (zH5 h l1 l2 T).objs.size = h.objs.size + 5 := by rw [Heap.size_push, z4]
  have g5 : (zH5 h l1 l2 T).get? (zH4 h l1 l2 T).objs.size = some _ := Heap.get?_push_size _ rfl
  have g4 : (zH5 h l1 l2 T).get? (zH3 h l1 l2 T).objs.size = some _ := Heap.get?_push_of_some _ (Heap.get?_push_size _ rfl)
  have g3 : (zH5 h l1 l2 T).get? (zH2 h l1 l2 T).objs.size = some _ := Heap.get?_push_of_some _ (Heap.get?_push_of_some _ (Heap.get?_push_size _ rfl))
  have g2 : (zH5 h l1 l2 T).get? (zH1 h l1).objs.size = some _ := Heap.get?_push_of_some _ (Heap.get?_push_of_some _ (Heap.get?_push_of_some _ (Heap.get?_push_size _ rfl)))
  have g1 : (zH5 h l1 l2 T).get? h.objs.size = some _ := Heap.get?_push_of_some _ (Heap.get?_push_of_some _ (Heap.get?_push_of_some _ (Heap.get?_push_of_some _ (Heap.get?_push_size _ rfl))))
  rw [z2, z3, z4] at g5
  rw [z1, z2] at g3
  rw [z3] at g4
  rw [z1] at g2
  exact ⟨g5, g3, g4, g1, g2, z5, z4, fun c o x => Heap.get?_push_of_some _ (Heap.get?_push_of_some _ (Heap.get?_push_of_some _ (Heap.get?_push_of_some _ (Heap.get?_push_of_some _ x))))⟩
/-- the zip of a tuple and a tuple or list of one length -/
theorem zs_call {Q : Value → Shared → Prop} (hh : A.handled = none) (hl1 : s.heap.IsTuple l1 xs) (hl2 : s.heap.IsTuple l2 ys ∨ s.heap.IsList l2 ys) (hsz : ys.size = xs.size)
    (h : ∀ (h' : Heap) (St1 St2 : Nat → Heap → Prop), (∀ A' : Around, A'.handled = none → Draws prog w A' s.heap.objs.size [s.heap.objs.size, l1] xs.size (fun i v => xs[i]? = some v) St1) → (∀ A' : Around, A'.handled = none → Draws prog w A' (s.heap.objs.size + 1) [s.heap.objs.size + 1, l2] xs.size (fun i v => ys[i]? = some v) St2) →
      ZipSep2 (s.heap.objs.size + 4) (s.heap.objs.size + 2) (s.heap.objs.size + 3) s.heap.objs.size (s.heap.objs.size + 1) [s.heap.objs.size, l1] [s.heap.objs.size + 1, l2] →
      IsTupOf2 h' (s.heap.objs.size + 2) (.ref s.heap.objs.size) (.ref (s.heap.objs.size + 1)) → IsTupOf2 h' (s.heap.objs.size + 3) .none .none → St1 0 h' → St2 0 h' → ZsAt h' (s.heap.objs.size + 4) (s.heap.objs.size + 2) (s.heap.objs.size + 3) .none (.bool false) → h'.objs.size = s.heap.objs.size + 5 →
      (∀ c o, s.heap.get? c = some o → h'.get? c = some o) → l1 < s.heap.objs.size → l2 < s.heap.objs.size → Q (.ref (s.heap.objs.size + 4)) { s with heap := h' }) :
    wpAny (model prog w) A (call (.type "zip") [.ref l1, .ref l2] kwS) Q E s := by
  have b1 : l1 < s.heap.objs.size := let ⟨_, e, _⟩ := hl1; Heap.lt_size e
  rcases hl2 with hl2 | hl2
  · have b2 : l2 < s.heap.objs.size := let ⟨_, e, _⟩ := hl2; Heap.lt_size e
    obtain ⟨m1, m2, m3, m4, m5, m6, m7, m8⟩ := made s.heap "tuple_iterator" b1 b2
    refine call_zipS (new_tt l1 l2 xs ys) ⟨hl1, hl2, ?_⟩
    rw [m7]
    refine ⟨⟨_, m1, rfl⟩, h _ _ _ (fun A' hA => Draws.tuple hA _ _ (Nat.ne_of_lt b1) xs) (fun A' hA => hsz ▸ Draws.tuple hA _ _ (Nat.ne_of_lt (Nat.lt_succ_of_lt b2)) ys) (zsep _ _ _ b1 b2) m2 m3 ⟨⟨_, m4, rfl, rfl⟩, hl1.at fun o e => m8 _ _ e⟩ ⟨⟨_, m5, rfl, rfl⟩, hl2.at fun o e => m8 _ _ e⟩ m1 m6 m8 b1 b2⟩
  · have b2 : l2 < s.heap.objs.size := let ⟨_, e, _⟩ := hl2; Heap.lt_size e
    obtain ⟨m1, m2, m3, m4, m5, m6, m7, m8⟩ := made s.heap "list_iterator" b1 b2
    refine call_zipS (new_tl l1 l2 xs ys) ⟨hl1, hl2, ?_⟩
    rw [m7]
    refine ⟨⟨_, m1, rfl⟩, h _ _ _ (fun A' hA => Draws.tuple hA _ _ (Nat.ne_of_lt b1) xs) (fun A' hA => hsz ▸ Draws.list hA _ _ (Nat.ne_of_lt (Nat.lt_succ_of_lt b2)) ys) (zsep _ _ _ b1 b2) m2 m3 ⟨⟨_, m4, rfl, rfl⟩, hl1.at fun o e => m8 _ _ e⟩ ⟨⟨_, m5, rfl, rfl⟩, hl2.at fun o e => m8 _ _ e⟩ m1 m6 m8 b1 b2⟩
end
end Zs

/-! text Ds12 -/
/-! Code over data: targets with a star. -/
namespace Ds
open PySem PySem.Spec PyProof.Rows L2

section
variable {X : Cx} {pins : List (Addr × Obj)} {σ : L2.St} {H : Hp} {s : Shared} {h' : Heap}
/-- what is spoken of stands there -/
theorem ok_there {P : Program} {w : World} {h : Heap} {a : Addr} {o : HO} (x : ObjOk P w H h a o) : ∃ u, h.get? a = some u := by
  cases o with
  | lst _ => exact ⟨_, x.2.choose_spec.choose_spec.2⟩
  | tup _ => obtain ⟨_, _, _, o, e, _⟩ := x; exact ⟨o, e⟩
  | dK _ => obtain ⟨_, _, _, _, o, _, _, e, _⟩ := x; exact ⟨o, e⟩
  | dT _ => obtain ⟨_, _, _, _, o, _, _, e, _⟩ := x; exact ⟨o, e⟩
  | set _ _ => obtain ⟨o, _, _, _, e, _⟩ := x; exact ⟨o, e⟩
  | ins _ _ _ => exact ⟨_, x.2.2.2.1⟩
  | own _ => exact x
  | xd _ => obtain ⟨_, ⟨o, _, _, e, _⟩, _⟩ := x; exact ⟨o, e⟩
  | rng _ _ => obtain ⟨_, _, _, e⟩ := x; exact ⟨_, e⟩
  | frz o _ => exact ⟨o, x.1⟩
  | tbl _ => exact ⟨_, x⟩
  | met _ _ => exact ⟨_, x⟩
  | ext _ => exact x.2.1
/-- all is kept but the frame's object, which holds the same; a new object is spoken of -/
theorem inv_frame {t' : Nat} {D : Addr} {ob : HO} (I : Inv X pins σ H s) (k : ∀ b o, b ≠ X.env.locals → s.heap.get? b = some o → h'.get? b = some o) (ns : ∀ m, s.heap.Ns X.env.locals m → h'.Ns X.env.locals m) (hD : s.heap.get? D = none) (nL : D ≠ X.env.locals)
    (new : ObjOk X.prog X.w (upd H D ob) h' D ob) : Inv X pins σ (upd H D ob) { s with heap := h', toks := t' } ∧ H D = none := by
  obtain ⟨m, hn, hl⟩ := I.loc
  have hH : H D = none := by
    cases e : H D with
    | none => rfl
    | some u =>
      obtain ⟨o, h1⟩ := ok_there (I.hok D u e)
      rw [hD] at h1
      cases h1
  have low : ∀ {b : Addr} {o : Obj}, X.s_0.heap.get? b = some o → b ≠ X.env.locals := fun e => Nat.ne_of_lt (Nat.lt_of_lt_of_le (Heap.lt_size e) I.ok.above)
  have neD : ∀ {b : Addr} {o : Obj}, s.heap.get? b = some o → b ≠ D := fun e z => by rw [z, hD] at e; cases e
  have kept : ∀ {b : Addr} {u : HO}, H b = some u → upd H D ob b = some u := fun e => by rw [upd_ne (ne_of_none e hH)]; exact e
  refine ⟨⟨I.ok, I.os, I.bare, ⟨fun b o e n hb hx => k b o (low e) (I.base.keep b o e n hb hx), fun b o e n hb hx => ?_, fun b o e n hx => ?_, fun b o e hx => ?_, fun b xs e => kept (I.base.tups b xs e), fun b o u e => kept (I.base.frzs b o u e), fun b ps e => ?_⟩, ⟨m, ns m hn, fun i x v e1 e2 e3 => ?_⟩, fun x c e => ?_, ?_, fun x c e => ?_, fun p hp => ?_, fun b u e => ?_, I.len⟩, hH⟩
  · obtain ⟨sl, e1⟩ := I.base.slot b o e n hb hx
    exact ⟨sl, k b _ (low e) e1⟩
  · obtain ⟨o', e1⟩ := I.base.there b o e hx
    rw [upd_ne (neD e1)]
    exact I.base.free b o e n hx
  · obtain ⟨o', e1⟩ := I.base.there b o e hx
    exact ⟨o', k b _ (low e) e1⟩
  · obtain ⟨more, e1⟩ := I.base.tbls b ps e
    exact ⟨more, kept e1⟩
  · obtain ⟨u, r, lk⟩ := hl i x v e1 e2 e3
    refine ⟨u, r, ?_⟩
    rcases lk with lk | ⟨lk, c, lc, o, ho, hd⟩
    · exact .inl lk
    · exact .inr ⟨lk, c, lc, o, k c o (I.cne x c lc) ho, hd⟩
  · obtain ⟨v, o, ho, hd⟩ := I.cell x c e
    exact ⟨v, o, k c o (I.cne x c e) ho, hd⟩
  · rw [upd_ne (Ne.symm nL)]
    exact I.free
  · obtain ⟨v, o, ho, hd⟩ := I.cell x c e
    rw [upd_ne (neD ho)]
    exact I.freeC x c e
  · obtain ⟨p1, p2, p3, p4⟩ := I.pin p hp
    refine ⟨k _ _ p3 p1, ?_, p3, p4⟩
    rw [upd_ne (neD p1)]
    exact p2
  · by_cases hb : b = D
    · subst hb
      rw [upd_same] at e
      cases e
      exact new
    · rw [upd_ne hb] at e
      refine (I.hok b u e).stay (fun c w' hc q => k c _ ?_ q) (fun _ q => kept q) fun _ _ q => kept q
      rintro rfl
      rcases hc with rfl | hc
      · rw [I.free] at e; cases e
      · rw [I.free] at hc; cases hc
end
section
variable {X : Cx} {F : Fm} {δ : De} {μ : Mu} {tgs tgs' : List Expr} {r : Rv} {js : List Nat} {N : De → Mu → Prop} {pos : Pos} {k i : Nat}
/-- a, *b, c = a tuple: tgs' the targets, b without its star -/
theorem xg_star (i : Nat) (tgs' : List Expr) (xs : List Rv) (hs : IsT r) (hq : Sq μ r xs) (hi : i < tgs.length) (hn : tgs.length ≤ xs.length + 1) (hz : xs.length ≤ 10000)
    (h : ∀ D, XGs X F δ ((D, .lst ((xs.drop i).take (xs.length + 1 - tgs.length))) :: μ) tgs' (xs.take i ++ .r (.ref D) :: (xs.drop i).drop (xs.length + 1 - tgs.length)) js N)
    (hc : X.calm = true := by rfl) (hlen : (assignEach tgs X.env).length = tgs.length := by rfl) (hst : (assignEach tgs X.env).findIdx? (·.1) = some i := by rfl) (he : (assignEach tgs X.env).map (·.2) = (assignEach tgs' X.env).map (·.2) := by rfl) : XG X F δ μ (.Tuple tgs k pos) r js N := fun σ H v lo ow fk hr pins s u I ru => by
  obtain ⟨p, vs, rfl, hp, hv⟩ := hq.tuple hs hr
  cases ru
  obtain ⟨its, rv, ht, hz2⟩ := I.tuple hp.sq
  obtain ⟨m, Fr0⟩ := I.fr
  have l1 : its.length = xs.length := by rw [← rv.length, hv.length]
  have l2 : its.toArray.size = xs.length := by rw [List.size_toArray, l1]
  refine PySem.W.kun_assignT (n := tgs.length) (i := i) (first := its.take i) (mids := (its.drop i).take (xs.length + 1 - tgs.length)) (lasts := (its.drop i).drop (xs.length + 1 - tgs.length)) Fr0 news_all ht (I.ok.hd hc) hlen hst hi (by rw [l2]; exact hn) (by rw [l2]; omega) (by simp) (by rw [l2]) (by rw [l2]) fun D h' tk F' N' hD => ?_
  have kp : ∀ b o, b ≠ X.env.locals → s.heap.get? b = some o → h'.get? b = some o := fun b o hb e => by
    cases q : X.base.get? b with
    | some w =>
      have z := I.bk b w q
      rw [e] at z
      cases z
      exact F'.keep b _ q
    | none => exact (N' (b, o) (List.mem_cons_of_mem _ (mem_allNews hb q e))).1
  have eD : h'.get? D = some { cls := .type "list", data := .seq ((its.drop i).take (xs.length + 1 - tgs.length)).toArray 0 } := (N' _ List.mem_cons_self).1
  have nL : D ≠ X.env.locals := (N' _ List.mem_cons_self).2.1
  have nB : X.base.get? D = none := (N' _ List.mem_cons_self).2.2
  have nD : s.heap.get? D = none := by
    cases q : s.heap.get? D with
    | none => rfl
    | some o => exact absurd (hD (D, o) (mem_allNews nL nB q)) (Nat.lt_irrefl _)
  have rm := (rv.drop i).take (xs.length + 1 - tgs.length)
  have hl : ((vs.drop i).take (xs.length + 1 - tgs.length)).length ≤ sizeLine := by
    rw [List.length_take, List.length_drop]
    exact Nat.le_trans (Nat.le_trans (Nat.min_le_right _ _) (Nat.sub_le _ _)) hz2
  obtain ⟨I1, hH⟩ := inv_frame (t' := tk) (D := D) (ob := .lst ((vs.drop i).take (xs.length + 1 - tgs.length))) I kp (fun m' hm => by
    rw [SlX.ns_only hm Fr0.ns]
    exact F'.ns) nD nL ⟨hl, _, 0, rm, eD⟩
  have tk1 : TK H (upd H D (.lst ((vs.drop i).take (xs.length + 1 - tgs.length)))) := TK.new hH _
  rw [he]
  have z := h D σ _ ((vs.take i) ++ .ref D :: (vs.drop i).drop (xs.length + 1 - tgs.length)) (lo.keep tk1) ((ow.new hH _).more (a := D) (o := .lst ((xs.drop i).take (xs.length + 1 - tgs.length))) ⟨_, upd_same, ((hv.drop i).take _).keep tk1⟩) (fk.more ow hH)
    (((hv.take i).keep tk1).append (.cons (.r _) (((hv.drop i).drop _).keep tk1))) pins _ (its.take i ++ .ref D :: (its.drop i).drop (xs.length + 1 - tgs.length)) I1 ((rv.take i).append (.cons rfl ((rv.drop i).drop _)))
  rw [List.append_assoc]
  exact thn z fun _ s2 ⟨σ2, H2, I2, l2, k2, q2⟩ => ⟨σ2, H2, I2, l2, k2, En.back tk1 _ _ _ q2⟩
end
end Ds

/-! text Zf -/
/-! zips over data. -/
namespace Ds
open PySem PySem.Spec PyProof.Rows L2
/-! ### many new objects at once -/
def lay (H : Hp) : List (Addr × HO) → Hp
  | [] => H
  | q :: r => upd (lay H r) q.1 q.2
theorem lay_out {H : Hp} {a : Addr} : ∀ {l : List (Addr × HO)}, a ∉ l.map (·.1) → lay H l a = H a
  | [], _ => rfl
  | q :: r, h => by
    rw [List.map_cons, List.mem_cons, not_or] at h
    show upd (lay H r) q.1 q.2 a = _
    rw [upd_ne h.1]
    exact lay_out h.2
theorem lay_in {H : Hp} {a : Addr} {o : HO} : ∀ {l : List (Addr × HO)}, (l.map (·.1)).Nodup → (a, o) ∈ l → lay H l a = some o
  | q :: r, nd, h => by
    rw [List.map_cons, List.nodup_cons] at nd
    show upd (lay H r) q.1 q.2 a = _
    rcases List.mem_cons.mp h with rfl | h
    · exact upd_same
    · rw [upd_ne fun z => nd.1 (by rw [← z]; exact List.mem_map.mpr ⟨_, h, rfl⟩)]
      exact lay_in nd.2 h
theorem lay_get {H : Hp} {a : Addr} {o : HO} : ∀ {l : List (Addr × HO)}, lay H l a = some o → H a = some o ∨ (a, o) ∈ l
  | [], h => .inl h
  | q :: r, h => by
    by_cases e : a = q.1
    · subst e
      have : lay H (q :: r) q.1 = some q.2 := upd_same
      rw [this] at h
      cases h
      exact .inr List.mem_cons_self
    · have : lay H (q :: r) a = lay H r a := upd_ne e
      rw [this] at h
      exact (lay_get h).imp id (List.mem_cons_of_mem _)
section
variable {X : Cx} {pins : List (Addr × Obj)} {σ : L2.St} {H : Hp} {s : Shared} {h' : Heap}
theorem inv_many {t' : Nat} {l : List (Addr × HO)} (I : Inv X pins σ H s) (k : ∀ b o, s.heap.get? b = some o → h'.get? b = some o) (hl : ∀ q ∈ l, s.heap.objs.size ≤ q.1) (new : ∀ q ∈ l, ObjOk X.prog X.w (lay H l) h' q.1 q.2) :
    Inv X pins σ (lay H l) { s with heap := h', toks := t' } ∧ ∀ b o, H b = some o → lay H l b = some o := by
  have out : ∀ {b : Addr}, b < s.heap.objs.size → lay H l b = H b := fun {b} hb => lay_out fun hm => by
    obtain ⟨q, hq, e⟩ := List.mem_map.mp hm
    have := hl q hq
    rw [e] at this
    exact absurd hb (Nat.not_lt.mpr this)
  have old : ∀ b o, H b = some o → lay H l b = some o := fun b o e => by rw [out (I.hok.lt e)]; exact e
  refine ⟨I.un ⟨fun b o e _ _ _ => k b o e, fun b o e _ _ _ => ⟨o.slots, k b o e⟩, fun b o e n _ => by rw [out (Heap.lt_size e)]; exact n, fun b o e _ => ⟨o, k b o e⟩, fun b xs e => old b _ e, fun b o u e => old b _ e, fun b ps e => ⟨#[], by rw [Array.append_empty]; exact old b _ e⟩⟩ fun b o e => ?_, old⟩
  rcases lay_get e with e | e
  · exact (I.hok b o e).stay (fun c v _ q => k c v q) (fun c q => old c _ q) fun c xs q => old c _ q
  · exact new _ e
end
section
variable {K : PySem.W.Frag} {H : Hp}
theorem zip_rks : ∀ {as : List Addr} {vs ws : List V} {xs ys : List Rv} {H' : Hp}, as.length = xs.length → Rks K H' vs xs → Rks K H' ws ys → ys.length = xs.length → (∀ (j : Nat) (a : Addr) (v w : V), as[j]? = some a → vs[j]? = some v → ws[j]? = some w → H' a = some (.tup [v, w])) →
    Rks K H' (as.map V.ref) ((xs.zip ys).map fun z => .z [z.1, z.2])
  | [], _, _, [], [], _, _, _, _, _, _ => .nil
  | a :: as, v :: vs, w :: ws, x :: xs, y :: ys, H', hl, .cons h1 h2, .cons g1 g2, hl2, k => by
    refine .cons (.z (SqT.of (k 0 a v w rfl rfl rfl)) (.cons h1 (.cons g1 .nil))) ?_
    exact zip_rks (by simpa using hl) h2 g2 (by simpa using hl2) fun j a' v' w' e1 e2 e3 => k (j + 1) a' v' w' (by simpa using e1) (by simpa using e2) (by simpa using e3)
  | [], _, _, _ :: _, _, _, h, _, _, _, _ => by simp at h
  | _ :: _, _, _, [], _, _, h, _, _, _, _ => by simp at h
  | _, _, _, _ :: _, [], _, _, _, _, h, _ => by simp at h
  | _, _, _, [], _ :: _, _, _, _, _, h, _ => by simp at h
end
theorem vals_refs : ∀ as : List Addr, Vals (as.map V.ref) (as.map Value.ref)
  | [] => .nil
  | _ :: r => .cons rfl (vals_refs r)
section
variable {X : Cx} {F : Fm} {δ : De} {μ : Mu} {a b tg : Expr} {pos p p2 zpos cp kp tpos : Pos} {Q : Rv → Mu → Prop} {j : Nat}
/-- list(zip(a, b, strict=True)), a a tuple, b a tuple or a list -/
theorem xe_listZip (hml : X.mg "list" = none) (hmz : X.mg "zip" = none) (h : XE X F δ μ a fun ra μ1 => XE X F δ μ1 b fun rb μ2 => ∃ xs ys, IsT ra ∧ Sq μ2 ra xs ∧ Sq μ2 rb ys ∧ ys.length = xs.length ∧ xs.length ≤ 10000 ∧ ∀ p, Q (.r (.ref p)) ((p, .lst ((xs.zip ys).map fun z => .z [z.1, z.2])) :: μ2))
    (hc : X.calm = true := by rfl) (hgl : Gl X "list" := by rfl) (hgz : Gl X "zip" := by rfl) (he : starEach [a, b] X.env = (false, eval a X.env) :: starEach [b] X.env := by rfl) (he2 : starEach [b] X.env = (false, eval b X.env) :: starEach [] X.env := by rfl)
    (hz1 : starEach [.Call (.Name "zip" p2) [a, b] [⟨some "strict", .Constant (.bool true) j cp, kp⟩] zpos] X.env = (false, eval (.Call (.Name "zip" p2) [a, b] [⟨some "strict", .Constant (.bool true) j cp, kp⟩] zpos) X.env) :: starEach [] X.env := by rfl)
    (hall : (backToKw zpos (keywordEach [⟨some "strict", .Constant (.bool true) j cp, kp⟩] X.env)).all (·.1.isSome) = true := by rfl) (hpl : (backTo zpos (starEach [a, b] X.env)).any (·.1) = false := by rfl) (hkw : (backToKw zpos (keywordEach [⟨some "strict", .Constant (.bool true) j cp, kp⟩] X.env)).any (·.1.isNone) = false := by rfl)
    (hks : (backToKw zpos (keywordEach [⟨some "strict", .Constant (.bool true) j cp, kp⟩] X.env)).filterMap (·.1) = [Str.ofString "strict"] := by rfl) :
    XE X F δ μ (.Call (.Name "list" p) [.Call (.Name "zip" p2) [a, b] [⟨some "strict", .Constant (.bool true) j cp, kp⟩] zpos] [] pos) Q := by
  intro σ H lo ow fk pins s I
  have hh : X.A.handled = none := I.ok.hd hc
  refine Call_ (ld_blt (u := .type "list") I hgl hml (by decide +kernel) (PyProof.Rows.callWith_type1 (PyProof.Rows.args_cons ?_ hz1) hz1 rfl))
  refine wpAny_Call_Name_kw (ld_blt (u := .type "zip") I hgz hmz (by decide +kernel) (Zs.callWith_tyK ?_ hall hpl hkw he))
  have pa : XA X F δ μ [a, b] fun rs μ2 => ∃ ra rb xs ys, rs = [ra, rb] ∧ IsT ra ∧ Sq μ2 ra xs ∧ Sq μ2 rb ys ∧ ys.length = xs.length ∧ xs.length ≤ 10000 ∧ ∀ p, Q (.r (.ref p)) ((p, .lst ((xs.zip ys).map fun z => .z [z.1, z.2])) :: μ2) :=
    xa_cons (h.mono fun ra μ1 h => xa_cons (h.mono fun rb μ2 ⟨xs, ys, q⟩ => xa_nil ⟨ra, rb, xs, ys, rfl, q⟩) he2) he
  refine thn (pa σ H lo ow fk zpos pins s I) fun us s1 ⟨vs, H1, I1, rv, t1, rs, μ1, r1, ow1, fk1, ra, rb, xs, ys, e, ht, hq1, hq2, hl, hz, q⟩ => ?_
  subst e
  refine thn ((pk_cons pe_bl pk_nil).run zpos pins s1 σ H1 (fun zs H2 => zs = [.bl true] ∧ H2 = H1) I1 ⟨rfl, rfl⟩) fun ks s2 ⟨zs, H2, I2, rz, e1, e2⟩ => ?_
  subst e1 e2
  rw [hks]
  have ek : ks = [.bool true] := by
    cases rz with
    | cons a b => cases b; cases a; rfl
  subst ek
  cases r1 with
  | cons ra1 r1 =>
  cases r1 with
  | cons rb1 r1 =>
  cases r1
  cases rv with
  | cons va rv =>
  cases rv with
  | cons vb rv =>
  cases rv
  obtain ⟨l1, as1, rfl, hp1, hv1⟩ := hq1.tuple ht ra1
  obtain ⟨l2, as2, rfl, hp2, hv2⟩ := hq2.at_ rb1 ow1
  cases va
  cases vb
  obtain ⟨its1, rv1, pt1, _⟩ := I2.tuple hp1.sq
  have two : ∃ its2 : List Value, Vals as2 its2 ∧ (s2.heap.IsTuple l2 its2.toArray ∨ s2.heap.IsList l2 its2.toArray) := by
    rcases hp2 with hp2 | hp2
    · obtain ⟨its2, rv2, pl, _⟩ := I2.list hp2
      exact ⟨its2, rv2, .inr pl.isList⟩
    · obtain ⟨its2, rv2, pl, _⟩ := I2.tuple hp2
      exact ⟨its2, rv2, .inl pl⟩
  obtain ⟨its2, rv2, pt2⟩ := two
  have n1 : its1.length = xs.length := by rw [← rv1.length, hv1.length]
  have n2 : its2.length = xs.length := by rw [← rv2.length, hv2.length, hl]
  refine Zs.zs_call hh (show s2.heap.IsTuple l1 its1.toArray from pt1) pt2 (by simp [n1, n2]) fun h1 St1 St2 D1 D2 Sp m2 m3 st1 st2 mz msz k1 bl1 bl2 => ?_
  refine PyProof.Rows.args_nil ?_
  have hn : its1.toArray.size ≤ 100000 := by rw [List.size_toArray, n1]; omega
  have blt : ∀ {c : Nat}, c < 5 → s2.heap.objs.size + c < h1.objs.size := fun {c} hc => by rw [msz]; omega
  refine Zs.list_zs (s := { s2 with heap := h1 }) (lo := 0) Sp (D1 _ hh) (D2 _ hh) hh hn ⟨m2, ⟨_, _, m3⟩, st1, st2, .inl ⟨_, mz⟩⟩ ⟨_, mz⟩ (fun c hc => ?_) (fun c hc => ?_) fun h2 tk acc c as k2 hL hal hG hacc => ?_
  · simp only [List.mem_cons, List.not_mem_nil, or_false] at hc
    show c < h1.objs.size
    rcases hc with rfl | rfl
    · exact blt (c := 0) (by decide)
    · rw [msz]; exact Nat.lt_of_lt_of_le bl1 (Nat.le_add_right _ _)
  · simp only [List.mem_cons, List.not_mem_nil, or_false] at hc
    show c < h1.objs.size
    rcases hc with rfl | rfl
    · exact blt (c := 1) (by decide)
    · rw [msz]; exact Nat.lt_of_lt_of_le bl2 (Nat.le_add_right _ _)
  replace k2 : ∀ b o, b ≠ s2.heap.objs.size + 4 → b ≠ s2.heap.objs.size + 3 → b ≠ s2.heap.objs.size → b ≠ s2.heap.objs.size + 1 → h1.get? b = some o → h2.get? b = some o := k2
  replace hL : h2.get? h1.objs.size = some { cls := .type "list", dict := none, data := .seq acc c, slots := #[] } := hL
  replace hG : Zs.Given (fun i v => its1.toArray[i]? = some v) (fun i v => its2.toArray[i]? = some v) (h1.objs.size + 1) h2 as := hG
  have kp : ∀ b o, s2.heap.get? b = some o → h2.get? b = some o := fun b o e => by
    have hb := Heap.lt_size e
    refine k2 b o ?_ ?_ ?_ ?_ (k1 b o e)
    · exact Nat.ne_of_lt (Nat.lt_of_lt_of_le hb (Nat.le_add_right _ _))
    · exact Nat.ne_of_lt (Nat.lt_of_lt_of_le hb (Nat.le_add_right _ _))
    · exact Nat.ne_of_lt hb
    · exact Nat.ne_of_lt (Nat.lt_of_lt_of_le hb (Nat.le_add_right _ _))
  have sz : s2.heap.objs.size ≤ h1.objs.size := by rw [msz]; exact Nat.le_add_right _ _
  have la : as.length = xs.length := by rw [hal, List.size_toArray, n1]
  let prs : List (Addr × HO) := (as.zip (as1.zip as2)).map fun z => (z.1, .tup [z.2.1, z.2.2])
  have pk : ∀ q ∈ prs, ∃ (i : Nat) (c : Addr) (v w : V), as[i]? = some c ∧ as1[i]? = some v ∧ as2[i]? = some w ∧ q = (c, .tup [v, w]) := fun q hq => by
    obtain ⟨z, hz, rfl⟩ := List.mem_map.mp hq
    obtain ⟨i, hi⟩ := List.mem_iff_getElem?.mp hz
    rw [List.getElem?_zip_eq_some, List.getElem?_zip_eq_some] at hi
    exact ⟨i, z.1, z.2.1, z.2.2, hi.1, hi.2.1, hi.2.2, rfl⟩
  have ge : ∀ {i : Nat} {c : Addr}, as[i]? = some c → h1.objs.size < c := fun e => (hG.2 _ _ e).1
  have pm : (prs.map (·.1)).Sublist as := by
    have : prs.map (·.1) = (as.zip (as1.zip as2)).map Prod.fst := by
      show ((as.zip (as1.zip as2)).map fun z => (z.1, HO.tup [z.2.1, z.2.2])).map (·.1) = _
      rw [List.map_map]
      rfl
    rw [this, List.map_fst_zip (by rw [List.length_zip, hv1.length, hv2.length, la, hl]; omega)]
    exact List.Sublist.refl _
  have nd : (((h1.objs.size, HO.lst (as.map V.ref)) :: prs).map (·.1)).Nodup := by
    rw [List.map_cons, List.nodup_cons]
    refine ⟨fun hm => ?_, pm.nodup (hG.1.imp fun {x y} h => Nat.ne_of_lt h)⟩
    obtain ⟨i, hi⟩ := List.mem_iff_getElem?.mp (pm.subset hm)
    exact Nat.lt_irrefl _ (ge hi)
  have mk := inv_many (t' := tk) (l := (h1.objs.size, HO.lst (as.map V.ref)) :: prs) I2 kp (fun q hq => by
    rcases List.mem_cons.mp hq with rfl | hq
    · exact sz
    · obtain ⟨i, c, v, w, e1, e2, e3, rfl⟩ := pk q hq
      exact Nat.le_trans sz (Nat.le_of_lt (ge e1))) (fun q hq => by
    rcases List.mem_cons.mp hq with rfl | hq
    · refine ⟨by rw [List.length_map, la]; exact Nat.le_trans hz (by decide), as.map Value.ref, c, vals_refs as, ?_⟩
      rw [hL, ← hacc, Array.toArray_toList]
    · obtain ⟨i, c, v, w, e1, e2, e3, rfl⟩ := pk q hq
      obtain ⟨_, x1, x2, p1, p2, ht2⟩ := hG.2 _ _ e1
      obtain ⟨u1, g1, r1⟩ := rv1.get e2
      obtain ⟨u2, g2, r2⟩ := rv2.get e3
      have q1 : x1 = u1 := by
        have p1' : its1.toArray[i]? = some x1 := p1
        rw [← Array.getElem?_toList] at p1'
        rw [g1] at p1'
        cases p1'
        rfl
      have q2 : x2 = u2 := by
        have p2' : its2.toArray[i]? = some x2 := p2
        rw [← Array.getElem?_toList] at p2'
        rw [g2] at p2'
        cases p2'
        rfl
      subst q1 q2
      exact ⟨by show 2 ≤ sizeLine; decide, [x1, x2], .cons r1 (.cons r2 .nil), _, ht2, rfl, _, rfl⟩)
  obtain ⟨I3, old⟩ := mk
  have hn1 : H2 h1.objs.size = none := I2.hok.fresh sz
  have nL : h1.objs.size ∉ μ1.map (·.1) := fun z => by
    obtain ⟨q, hq, e⟩ := List.mem_map.mp z
    obtain ⟨u, g1, _⟩ := (ow1 q hq).there
    rw [e, hn1] at g1
    cases g1
  have f2 := fk1.grow old
  refine ⟨.ref h1.objs.size, _, I3, rfl, t1.trans fun x o e _ => old x o e, .r (.ref h1.objs.size), (h1.objs.size, .lst ((xs.zip ys).map fun z => .z [z.1, z.2])) :: μ1, .r _, (ow1.grow old).more (a := h1.objs.size) (o := .lst ((xs.zip ys).map fun z => .z [z.1, z.2])) ⟨_, lay_in nd List.mem_cons_self, ?_⟩, ⟨List.nodup_cons.mpr ⟨nL, f2.nd⟩, f2.kp, fun q hq => ?_⟩, q _⟩
  · refine zip_rks la (hv1.keep fun x o e _ => old x o e) (hv2.keep fun x o e _ => old x o e) hl fun i c v w e1 e2 e3 => lay_in nd (List.mem_cons_of_mem _ ?_)
    refine List.mem_map.mpr ⟨(c, v, w), ?_, rfl⟩
    refine List.mem_iff_getElem?.mpr ⟨i, ?_⟩
    rw [List.getElem?_zip_eq_some, List.getElem?_zip_eq_some]
    exact ⟨e1, e2, e3⟩
  · rcases List.mem_cons.mp hq with rfl | hq
    · exact fk1.new_or hn1
    · exact f2.nw q hq
/-- what a zip yields -/
theorem yd_zipT {K : PySem.W.Frag} {H : Hp} {a b : Addr} {vs ws : List V} {xs ys : List Rv} {S : Mu → Prop} (h1 : SqT K H a vs) (h2 : SqT K H b ws) (r1 : Rks K H vs xs) (r2 : Rks K H ws ys) :
    Yd K (RZ.ItzT K a b) (fun Hc => TK H Hc ∧ ∃ μc, Ow K Hc μc ∧ S μc) ((xs.zip ys).map fun z => .z [z.1, z.2]) where
  item := fun i Hc x ⟨t, _⟩ e => by
    rw [List.getElem?_map] at e
    cases q : (xs.zip ys)[i]? with
    | none => rw [q] at e; cases e
    | some z =>
      rw [q] at e
      cases e
      rw [List.getElem?_zip_eq_some] at q
      obtain ⟨v, e1, k1⟩ := r1.get q.1
      obtain ⟨w, e2, k2⟩ := r2.get q.2
      refine ⟨⟨vs, ws, v, w, t.sq h1, t.sq h2, e1, e2⟩, ?_⟩
      rintro _ _ ⟨T, x', y', rfl, hT, rfl, g1, g2⟩
      have a1 := g1 vs (t.sq h1)
      have a2 := g2 ws (t.sq h2)
      rw [e1] at a1
      rw [e2] at a2
      cases a1
      cases a2
      have tn : TK Hc (upd Hc T (.tup [v, w])) := TK.new hT _
      exact ⟨fun b o e => by rw [upd_ne (ne_of_none e hT)]; exact e, .z (SqT.of upd_same) (.cons ((k1.keep t).keep tn) (.cons ((k2.keep t).keep tn) .nil))⟩
  done := fun Hc ⟨t, _⟩ => ⟨vs, ws, t.sq h1, t.sq h2, by rw [List.length_map, List.length_zip, r1.length, r2.length]; omega⟩
theorem yd_zipL {K : PySem.W.Frag} {H : Hp} {a b : Addr} {xs ys : List Rv} : Yd K (Itz K a b) (fun Hc => TK H Hc ∧ ∃ μc, Ow K Hc μc ∧ (a, Ob.lst xs) ∈ μc ∧ (b, Ob.lst ys) ∈ μc) ((xs.zip ys).map fun z => .z [z.1, z.2]) where
  item := fun i Hc x ⟨t, μc, w, m1, m2⟩ e => by
    rw [List.getElem?_map] at e
    cases q : (xs.zip ys)[i]? with
    | none => rw [q] at e; cases e
    | some z =>
      rw [q] at e
      cases e
      rw [List.getElem?_zip_eq_some] at q
      obtain ⟨vs, h1, r1⟩ := w _ m1
      obtain ⟨ws, h2, r2⟩ := w _ m2
      obtain ⟨v, e1, k1⟩ := r1.get q.1
      obtain ⟨u, e2, k2⟩ := r2.get q.2
      refine ⟨⟨vs, ws, v, u, SqL.of h1, SqL.of h2, e1, e2⟩, ?_⟩
      rintro _ _ ⟨T, x', y', rfl, hT, rfl, g1, g2⟩
      have a1 := g1 vs (SqL.of h1)
      have a2 := g2 ws (SqL.of h2)
      rw [e1] at a1
      rw [e2] at a2
      cases a1
      cases a2
      have tn : TK Hc (upd Hc T (.tup [v, u])) := TK.new hT _
      exact ⟨fun b o e => by rw [upd_ne (ne_of_none e hT)]; exact e, .z (SqT.of upd_same) (.cons (k1.keep tn) (.cons (k2.keep tn) .nil))⟩
  done := fun Hc ⟨t, μc, w, m1, m2⟩ => by
    obtain ⟨vs, h1, r1⟩ := w _ m1
    obtain ⟨ws, h2, r2⟩ := w _ m2
    exact ⟨vs, ws, SqL.of h1, SqL.of h2, by rw [List.length_map, List.length_zip, r1.length, r2.length]; omega⟩
variable {elts : List Expr} {kk : Nat} {R : List Rv → (Mu → Prop) → Mu → Prop}
/-- for .. in zip(a, b): tuples -/
theorem xi_zipT (hm : X.mg "zip" = none) (h : XE X F δ μ a fun ra μ1 => XE X F δ μ1 b fun rb μ2 => ∃ xs ys, IsT ra ∧ Sq μ2 ra xs ∧ IsT rb ∧ Sq μ2 rb ys ∧ R ((xs.zip ys).map fun z => .z [z.1, z.2]) (fun _ => True) μ2) (hg : Gl X "zip" := by rfl)
    (hs : starEach [a, b] X.env = (false, eval a X.env) :: starEach [b] X.env := by rfl) (hs2 : starEach [b] X.env = (false, eval b X.env) :: starEach [] X.env := by rfl) (hpl : (backTo pos (starEach [b] X.env)).any (·.1) = false := by rfl) : XI X F δ μ (.Tuple elts kk tpos) (.Call (.Name "zip" p) [a, b] [] pos) R := fun σ H lo ow fk =>
  wi_of (RZ.pi_zipA hg hm (pa_cons pe_w (pa_cons pe_w pa_nil hs2) hs) hs hpl) (h.run lo ow fk fun v H1 ra μ1 t1 lo1 r1 ow1 fk1 h => h.run lo1 ow1 fk1 fun u H2 rb μ2 t2 lo2 r2 ow2 fk2 ⟨xs, ys, i1, s1, i2, s2, q⟩ => by
    obtain ⟨a1, vs, rfl, q1, k1⟩ := s1.tuple i1 (r1.keep t2)
    obtain ⟨a2, ws, rfl, q2, k2⟩ := s2.tuple i2 r2
    exact ⟨a1, a2, vs, ws, rfl, .inr ⟨q1.sq, q2.sq, t1.trans t2, _, _, μ2, ow2, fk2, yd_zipT q1.sq q2.sq k1 k2, q⟩⟩)
/-- lists -/
theorem xi_zipL (hm : X.mg "zip" = none) (h : XE X F δ μ a fun ra μ1 => XE X F δ μ1 b fun rb μ2 => ∃ p xs q ys, ra = .r (.ref p) ∧ (p, Ob.lst xs) ∈ μ2 ∧ rb = .r (.ref q) ∧ (q, Ob.lst ys) ∈ μ2 ∧ R ((xs.zip ys).map fun z => .z [z.1, z.2]) (fun μc => (p, Ob.lst xs) ∈ μc ∧ (q, Ob.lst ys) ∈ μc) μ2) (hg : Gl X "zip" := by rfl)
    (hs : starEach [a, b] X.env = (false, eval a X.env) :: starEach [b] X.env := by rfl) (hs2 : starEach [b] X.env = (false, eval b X.env) :: starEach [] X.env := by rfl) (hpl : (backTo pos (starEach [b] X.env)).any (·.1) = false := by rfl) : XI X F δ μ (.Tuple elts kk tpos) (.Call (.Name "zip" p) [a, b] [] pos) R := fun σ H lo ow fk =>
  wi_of (RZ.pi_zipA hg hm (pa_cons pe_w (pa_cons pe_w pa_nil hs2) hs) hs hpl) (h.run lo ow fk fun v H1 ra μ1 t1 lo1 r1 ow1 fk1 h => h.run lo1 ow1 fk1 fun u H2 rb μ2 t2 lo2 r2 ow2 fk2 ⟨p, xs, q', ys, e1, m1, e2, m2, q⟩ => by
    subst e1 e2
    cases r1
    cases r2
    obtain ⟨vs, g1, k1⟩ := ow2 _ m1
    obtain ⟨ws, g2, k2⟩ := ow2 _ m2
    exact ⟨p, q', vs, ws, rfl, .inl ⟨SqL.of g1, SqL.of g2, t1.trans t2, _, _, μ2, ow2, fk2, yd_zipL, q⟩⟩)
end
end Ds

/-! text Wk0 -/
/-! The walk: wishes. -/
namespace Wk
open PySem PySem.Spec PyProof.Rows L2 Ds Cw
def top (i : Nat) : Stmt := PySem.Challenge.pw_crossedwishes_k92_whole_settled_by_cours.main.body.getD i (.Pass ⟨0, 0, 0, 0⟩)
abbrev FnP (K : PySem.W.Frag) (x : Str) (st : Stmt) (f : Addr) (fd : FuncData) : Prop := FunD K x x (defArgs st) (defBody st) (defScope st) [] [] f fd
def LETTERS : Str := "abcdefghijklmnopqrstuvwxyz"
/-- the module's constants, the builtins -/
structure Gm (mg : Str → Option Value) : Prop where
  letters : ∃ t, mg "LETTERS" = some (.str LETTERS t)
  longest : ∃ t, mg "LONGEST" = some (.int 8 t)
  greatest : ∃ t, mg "GREATEST" = some (.int 9999 t)
  b_isinstance : mg "isinstance" = none
  b_len : mg "len" = none
  b_all : mg "all" = none
  b_str : mg "str" = none
  b_int : mg "int" = none
  b_bool : mg "bool" = none
  b_tuple : mg "tuple" = none
def NameOk (x : Str) : Prop := 1 ≤ x.length ∧ x.length ≤ 8 ∧ ∀ c ∈ x.cps.toList, c ∈ LETTERS.cps.toList
def PairOk (p : Pair) : Prop := NameOk p.1 ∧ 0 ≤ p.2 ∧ p.2 ≤ 9999
theorem letters_small : ∀ c ∈ LETTERS.cps.toList, c < 0x110000 := by decide +kernel
theorem NameOk.k {x : Str} (h : NameOk x) : KOk x := by
  unfold KOk PyData.strOk
  rw [Array.all_eq_true]
  intro i hi
  exact decide_eq_true (letters_small _ (h.2.2 _ (by simp)))
/-- a text that is a name -/
def sIsName : Sc := fun args μ Q => ∃ x, args = [.d (.str x)] ∧ NameOk x ∧ μ = [] ∧ Q (.d (.bool true)) []
def sIsWorth : Sc := fun args μ Q => ∃ i : Int, args = [.d (.int i)] ∧ 0 ≤ i ∧ i ≤ 9999 ∧ μ = [] ∧ Q (.d (.bool true)) []
def sIsTuple : Sc := fun args μ Q => ∃ (ds : List PyData) (i j : Int), args = [.d (.tuple ds), .d (.int i), .d (.int j)] ∧ i ≤ ds.length ∧ ds.length ≤ j ∧ μ = [] ∧ Q (.d (.bool true)) []
def sIsPair : Sc := fun args μ Q => ∃ p : Pair, args = [.d (eP p)] ∧ PairOk p ∧ μ = [] ∧ Q (.d (.bool true)) []
theorem all_true {α : Type} : ∀ l : List α, (l.map fun _ => true).all id = true
  | [] => rfl
  | _ :: l => all_true l
section
variable {P : Program} {w : World} {K : PySem.W.Frag} {mg : Str → Option Value} {base : Heap} {f : Addr} {fd : FuncData} {k : Nat}
theorem sc_is_name : FnScope ["thing", "sign"] ["thing"] (defScope (top 15)) := ⟨rfl, rfl, rfl, by decide +kernel, rfl, by decide +kernel, by decide +kernel⟩
theorem d_is_name (g : Gm mg) (F : FnP K "is_name" (top 15) f fd) : Df P w K mg base (k + 1) f ["thing"] sIsName := by
  refine df_by F sc_is_name (fun _ _ _ _ _ _ us hl => match us, hl with | [_], _ => rfl) (fun args μ Q ⟨x, e, _⟩ => by rw [e]; rfl) fun cdv A outer s H E hr F args μ Q h => ?_
  obtain ⟨x, rfl, ok, rfl, q⟩ := h
  have h1 := ok.1
  have h2 := ok.2.1
  refine xs_one (xs_ret ?_)
  refine xe_andT (xe_isi g.b_isinstance g.b_str (T := "str") (by decide +kernel) (xe_name (i := 0) rfl ⟨"str", true, rfl, by decide, rfl, ?_⟩))
  refine xe_andT (xe_le2 (xe_int (xe_len g.b_len (xa_cons (xe_name (i := 0) rfl (xa_nil (.inr ⟨x, rfl, by omega, 1, x.length, rfl, rfl, fun _ => xe_gint g.longest ⟨8, rfl, ?_, ?_⟩, fun z => absurd (by omega) z⟩)))))))
  · rw [decide_eq_true (by omega)]
  · refine xe_one (xe_all g.b_all (xa_cons (xe_map x.cps.toList (fun c => .d (.str ⟨#[c]⟩)) (fun c => .d (.bool true)) sc_is_name.nd (own := [("sign", 1)]) (by kernel_rfl) (xi_str (xe_name (i := 0) rfl ⟨x, rfl, rfl, trivial, ?_, fun c hc F' s H C cl fp => ?_, fun p => ?_⟩)))))
    · rw [Array.length_toList]
      show x.length ≤ 100000
      omega
    · exact xg_name (i := 1) (fun s H C cl fp => xe_cm (xc_inS (xe_name (i := 1) rfl (xe_gstr g.letters ⟨c, LETTERS, rfl, rfl, by rw [decide_eq_true (ok.2.2 c hc)], .refl _⟩)))) sc_is_name.nd
    · refine xa_nil ⟨p, x.cps.toList.map fun _ => true, rfl, by rw [List.map_map]; exact List.mem_cons_self, ?_⟩
      rw [all_true]
      exact ⟨[], List.nil_sublist _, q⟩
theorem sc_is_worth : FnScope ["thing"] ["thing"] (defScope (top 16)) := ⟨rfl, rfl, rfl, by decide +kernel, rfl, by decide +kernel, by decide +kernel⟩
theorem d_is_worth (g : Gm mg) (F : FnP K "is_worth" (top 16) f fd) : Df P w K mg base (k + 1) f ["thing"] sIsWorth := by
  refine df_by F sc_is_worth (fun _ _ _ _ _ _ us hl => match us, hl with | [_], _ => rfl) (fun args μ Q ⟨x, e, _⟩ => by rw [e]; rfl) fun cdv A outer s H E hr F args μ Q h => ?_
  obtain ⟨i, rfl, h1, h2, rfl, q⟩ := h
  refine xs_one (xs_ret ?_)
  refine xe_andT (xe_isi g.b_isinstance g.b_int (T := "int") (by decide +kernel) (xe_name (i := 0) rfl ⟨"int", true, rfl, by decide, rfl, ?_⟩))
  refine xe_andT (xe_not (xe_isi g.b_isinstance g.b_bool (T := "bool") (by decide +kernel) (xe_name (i := 0) rfl ⟨"int", false, rfl, by decide, false, rfl, rfl, ?_⟩)))
  refine xe_one (xe_le2 (xe_int (xe_name (i := 0) rfl ⟨0, i, rfl, rfl, fun _ => xe_gint g.greatest ⟨9999, rfl, ?_⟩, fun z => absurd h1 z⟩)))
  rw [decide_eq_true h2]
  exact ⟨_, .refl _, q⟩
theorem sc_is_tuple : FnScope ["thing", "least", "most"] ["thing", "least", "most"] (defScope (top 17)) := ⟨rfl, rfl, rfl, by decide +kernel, rfl, by decide +kernel, by decide +kernel⟩
theorem d_is_tuple (g : Gm mg) (F : FnP K "is_tuple" (top 17) f fd) : Df P w K mg base (k + 1) f ["thing", "least", "most"] sIsTuple := by
  refine df_by F sc_is_tuple (fun _ _ _ _ _ _ us hl => match us, hl with | [_, _, _], _ => rfl) (fun args μ Q ⟨_, _, _, e, _⟩ => by rw [e]; rfl) fun cdv A outer s H E hr F args μ Q h => ?_
  obtain ⟨ds, i, j, rfl, h1, h2, rfl, q⟩ := h
  refine xs_one (xs_ret ?_)
  refine xe_andT (xe_isi g.b_isinstance g.b_tuple (T := "tuple") (by decide +kernel) (xe_name (i := 0) rfl ⟨"tuple", true, rfl, by decide, rfl, ?_⟩))
  refine xe_one (xe_le2 (xe_name (i := 1) rfl (xe_len g.b_len (xa_cons (xe_name (i := 0) rfl (xa_nil (.inl ⟨_, _, rfl, .tup ds, i, _, rfl, rfl, fun _ => xe_name (i := 2) rfl ⟨j, rfl, ?_⟩, fun z => ?_⟩)))))))
  · rw [List.length_map, decide_eq_true h2]
    exact ⟨_, .refl _, q⟩
  · rw [List.length_map] at z
    exact absurd h1 z
theorem sc_is_pair : FnScope ["thing"] ["thing"] (defScope (top 19)) := ⟨rfl, rfl, rfl, by decide +kernel, rfl, by decide +kernel, by decide +kernel⟩
theorem d_is_pair (F : FnP K "is_pair" (top 19) f fd) {fT fN fW : Addr} (T : Df P w K mg base k fT ["thing", "least", "most"] sIsTuple) (gT : mg "is_tuple" = some (.ref fT)) (N : Df P w K mg base k fN ["thing"] sIsName) (gN : mg "is_name" = some (.ref fN)) (W : Df P w K mg base k fW ["thing"] sIsWorth) (gW : mg "is_worth" = some (.ref fW)) :
    Df P w K mg base (k + 1) f ["thing"] sIsPair := by
  refine df_by F sc_is_pair (fun _ _ _ _ _ _ us hl => match us, hl with | [_], _ => rfl) (fun args μ Q ⟨x, e, _⟩ => by rw [e]; rfl) fun cdv A outer s H E hr F args μ Q h => ?_
  obtain ⟨p, rfl, ⟨h1, h2, h3⟩, rfl, q⟩ := h
  refine xs_one (xs_ret ?_)
  refine xe_andT (xe_call T hr gT (xa_cons (xe_name (i := 0) rfl (xa_cons (xe_int (xa_cons (xe_int (xa_nil ⟨[], [], .nil, _, _, _, rfl, Int.le_refl 2, Int.le_refl 2, rfl, rfl, ?_⟩))))))))
  refine xe_andT (xe_call N hr gN (xa_cons (xe_ix (xe_name (i := 0) rfl (xe_int ⟨_, 0, .d (.str p.1), .tup _, rfl, rfl, xa_nil ⟨[], [], .nil, _, rfl, h1, rfl, rfl, ?_⟩⟩)))))
  exact xe_one (xe_call W hr gW (xa_cons (xe_ix (xe_name (i := 0) rfl (xe_int ⟨_, 1, .d (.int p.2), .tup _, rfl, rfl, xa_nil ⟨[], [], .nil, _, rfl, h2, h3, rfl, _, .refl _, q⟩⟩)))))
end
end Wk

/-! text Wk1 -/
/-! The walk: plans, asks. -/
namespace Wk
open PySem PySem.Spec PyProof.Rows L2 Ds Cw
def sLeftOf : Sc := fun args μ Q => ∃ (k : Str) (l : List Int), args = [.d (.str k), .d (eInts l), .d (.tuple [])] ∧ KOk k ∧ l.length ≤ 1000 ∧ μ = [] ∧ Q (.d (eInts l)) []
def sPlanOf : Sc := fun args μ Q => ∃ ws : List Wish, args = [.d (eWishes ws), .d (.tuple [])] ∧ ws.length ≤ 1000 ∧ (∀ w ∈ ws, KOk w.kind ∧ w.worths.length ≤ 1000) ∧ μ = [] ∧ Q (.d (ePlan (planOf ws))) []
def sAskOf : Sc := fun args μ Q => ∃ (ws : List Wish) (pl : Plan), args = [.d (eWishes ws), .d (ePlan pl)] ∧ ws.length ≤ 1000 ∧ (∀ w ∈ ws, KOk w.kind ∧ ∀ n, w.needs = some n → KOk n.1) ∧ μ = [] ∧ Q (.d (eAsk (askOf ws pl))) []
theorem any_nil {d : PyData} : (([] : List PyData).any fun z => PyData.eqv z d) = false := rfl
theorem filter_true {α : Type} (l : List α) : l.filter (fun _ => true) = l := List.filter_eq_self.mpr fun _ _ => rfl
section
variable {P : Program} {w : World} {K : PySem.W.Frag} {mg : Str → Option Value} {base : Heap} {f : Addr} {fd : FuncData} {k : Nat}
theorem sc_left_of : FnScope ["kind", "worths", "refused", "worth"] ["kind", "worths", "refused"] (defScope (top 22)) := ⟨rfl, rfl, rfl, by decide +kernel, rfl, by decide +kernel, by decide +kernel⟩
theorem d_left_of (gA : ∃ t, mg "ALL_wishes" = some (.int (-1) t)) (gT : mg "tuple" = none) (F : FnP K "left_of" (top 22) f fd) : Df P w K mg base (k + 1) f ["kind", "worths", "refused"] sLeftOf := by
  refine df_by F sc_left_of (fun _ _ _ _ _ _ us hl => match us, hl with | [_, _, _], _ => rfl) (fun args μ Q ⟨_, _, e, _⟩ => by rw [e]; rfl) fun cdv A outer s H E hr F args μ Q h => ?_
  obtain ⟨kd, l, rfl, hk, hl, rfl, q⟩ := h
  refine xs_cons (xs_ifF (xt_cm (xc_in hr ?_)))
  refine xe_tupD (xa_cons (xe_name (i := 0) rfl (xa_cons (xe_gint gA (xa_nil ?_)))))
  refine ⟨[.str kd, .int (-1)], rfl, by simp, xe_name (i := 2) rfl ?_⟩
  refine ⟨_, _, .d _, .tup [], (sh_pair (p := (kd, -1)) hk).ok (by decide), sh_nil.ok (by decide), any_nil, xs_nil ?_⟩
  refine xs_one (xs_ret (xe_tupleD gT (xa_cons ?_)))
  refine xe_mapF l (fun i => .d (.int i)) (fun i => .d (.int i)) (fun _ => true) sc_left_of.nd (own := [("worth", 3)]) (by kernel_rfl) ?_
  refine xi_tup (xe_name (i := 1) rfl ?_)
  refine ⟨trivial, _, .tup _, by rw [List.map_map]; rfl, trivial, by omega, fun y hy F' s H C cl fp => ?_, fun p => ?_⟩
  · refine xg_name (i := 3) (fun s H C cl fp => xt_cm (xc_notin hr ?_)) sc_left_of.nd
    refine xe_tupD (xa_cons (xe_name (i := 0) rfl (xa_cons (xe_name (i := 3) rfl (xa_nil ?_)))))
    refine ⟨[.str kd, .int y], rfl, by simp, xe_name (i := 2) rfl ?_⟩
    refine ⟨_, _, .d _, .tup [], (sh_pair (p := (kd, y)) hk).ok (by decide), sh_nil.ok (by decide), rfl, fun _ s H C cl fp => ?_, fun z => by cases z⟩
    exact xe_name (i := 3) rfl ⟨rfl, .refl _⟩
  · refine xa_nil ⟨p, l.map .int, rfl, ?_, ⟨_, List.nil_sublist _, q⟩⟩
    rw [filter_true, List.map_map]
    exact List.mem_cons_self
abbrev FnK (K : PySem.W.Frag) (x : Str) (st : Stmt) (kws : List (Str × V)) (f : Addr) (fd : FuncData) : Prop := FunD K x x (defArgs st) (defBody st) (defScope st) [] kws f fd
theorem sc_plan_of : FnScope ["wishes", "refused", "kind", "worths", "must", "needs"] ["wishes", "refused"] (defScope (top 23)) := ⟨rfl, rfl, rfl, by decide +kernel, rfl, by decide +kernel, by decide +kernel⟩
theorem f_plan_of {kws : List (Str × V)} (gT : mg "tuple" = none) (F : FnK K "plan_of" (top 23) kws f fd) {fL : Addr} (L : Df P w K mg base k fL ["kind", "worths", "refused"] sLeftOf) (gL : mg "left_of" = some (.ref fL)) : FnOk P w K mg base CX0 (k + 1) f fd ["wishes", "refused"] (spOf K sPlanOf) := by
  refine fn_by F sc_plan_of (fun args μ Q ⟨_, e, _⟩ => by rw [e]; rfl) fun cdv A outer s H E hr F args μ Q h => ?_
  obtain ⟨ws, rfl, hl, hw, rfl, q⟩ := h
  refine xs_one (xs_ret (xe_tupleD gT (xa_cons ?_)))
  refine xe_map ws (fun w => .d (eWish w)) (fun w => .d (eEntry (w.kind, w.worths))) sc_plan_of.nd (own := [("kind", 2), ("worths", 3), ("must", 4), ("needs", 5)]) (by kernel_rfl) ?_
  refine xi_tup (xe_name (i := 0) rfl ?_)
  refine ⟨trivial, _, .tup _, by rw [List.map_map]; rfl, trivial, by omega, fun y hy F' s H C cl fp => ?_, fun p => ?_⟩
  · have nd := sc_plan_of.nd
    refine xg_tupD (xgs_cons (xg_name (i := 2) (xgs_cons (xg_name (i := 3) (xgs_cons (xg_name (i := 4) (xgs_cons (xg_name (i := 5) (xgs_nil fun s H C cl fp => ?_) nd)) nd)) nd)) nd))
    refine xe_tupD (xa_cons (xe_name (i := 2) rfl (xa_cons (xe_call L hr gL ?_))))
    refine xa_cons (xe_name (i := 2) rfl (xa_cons (xe_name (i := 3) rfl (xa_cons (xe_name (i := 1) rfl (xa_nil ?_))))))
    refine ⟨[], [], .nil, _, _, rfl, (hw y hy).1, (hw y hy).2, rfl, xa_nil ⟨[.str y.kind, eInts y.worths], rfl, by simp, rfl, .refl _⟩⟩
  · refine xa_nil ⟨p, (planOf ws).map eEntry, rfl, ?_, ⟨_, List.nil_sublist _, q⟩⟩
    unfold planOf
    rw [List.map_map, List.map_map]
    exact List.mem_cons_self
theorem askGo_snoc : ∀ (l : List (Wish × (Str × List Int))) (found : Ask) (z : Wish × (Str × List Int)), askGo found (l ++ [z]) = askTurn (askGo found l) z.1 z.2.2
  | [], _, _ => rfl
  | y :: l, found, z => askGo_snoc l (askTurn found y.1 y.2.2) z
theorem askGo_ok (ok : Pair → Prop) : ∀ (l : List (Wish × (Str × List Int))) (found : Ask), (∀ p ∈ found, ok p) → (∀ z ∈ l, ∀ x, z.2.2.head? = some x → ok (z.1.kind, x)) → ∀ p ∈ askGo found l, ok p
  | [], found, h, _ => h
  | y :: l, found, h, g => by
    refine askGo_ok ok l _ (fun p hp => ?_) fun z hz => g z (List.mem_cons_of_mem _ hz)
    have gy := g y List.mem_cons_self
    unfold Cw.askTurn at hp
    cases hy : y.2.2 with
    | nil => rw [hy] at hp; exact h p hp
    | cons x r =>
      rw [hy] at hp gy
      have hx : ok (y.1.kind, x) := gy x rfl
      have add : ∀ p ∈ found ++ [(y.1.kind, x)], ok p := fun p hp => by
        rcases List.mem_append.mp hp with hp | hp
        · exact h p hp
        · rw [List.mem_singleton.mp hp]; exact hx
      cases hn : y.1.needs with
      | none => rw [hn] at hp; exact add p hp
      | some n =>
        rw [hn] at hp
        simp only at hp
        split at hp
        · exact add p hp
        · exact h p hp
theorem askTurn_len (found : Ask) (w : Wish) (l : List Int) : (askTurn found w l).length ≤ found.length + 1 := by
  unfold Cw.askTurn
  split
  · omega
  · split
    · simp
    · split
      · simp
      · omega
theorem askGo_len : ∀ (l : List (Wish × (Str × List Int))) (found : Ask), (askGo found l).length ≤ found.length + l.length
  | [], found => Nat.le_refl _
  | y :: l, found => by
    have h1 := askGo_len l (askTurn found y.1 y.2.2)
    have h2 := askTurn_len found y.1 y.2.2
    show (askGo (askTurn found y.1 y.2.2) l).length ≤ found.length + (l.length + 1)
    omega
theorem eqv_ints0 (l : List Int) : PyData.eqv (eInts l) (.tuple []) = l.isEmpty := by
  unfold eInts
  rw [eqv_empty]
  cases l <;> rfl
theorem eqv_ask0 (l : Ask) : PyData.eqv (eAsk l) (.tuple []) = l.isEmpty := by
  unfold eAsk
  rw [eqv_empty]
  cases l <;> rfl
def cnd (found : Ask) (w : Wish) (l : List Int) : Bool := !l.isEmpty && (match w.needs with | none => true | some n => decide (n ∈ found))
theorem turn_cnd (found : Ask) (w : Wish) (l : List Int) : Cw.askTurn found w l = if cnd found w l = true then found ++ [(w.kind, l.headD 0)] else found := by
  unfold Cw.askTurn cnd
  cases l with
  | nil => rfl
  | cons x r =>
    cases w.needs with
    | none => rfl
    | some n => simp
theorem sc_ask_of : FnScope ["wishes", "plan", "found", "kind", "worths", "must", "needs", "planned", "left"] ["wishes", "plan"] (defScope (top 24)) := ⟨rfl, rfl, rfl, by decide +kernel, rfl, by decide +kernel, by decide +kernel⟩
theorem d_ask_of (gT : mg "tuple" = none) (gZ : mg "zip" = none) (F : FnP K "ask_of" (top 24) f fd) : Df P w K mg base (k + 1) f ["wishes", "plan"] sAskOf := by
  have nd := sc_ask_of.nd
  refine df_by F sc_ask_of (fun _ _ _ _ _ _ us hl => match us, hl with | [_, _], _ => rfl) (fun args μ Q ⟨_, _, e, _⟩ => by rw [e]; rfl) fun cdv A outer s H E hr F args μ Q h => ?_
  obtain ⟨ws, pl, rfl, hl, hw, rfl, q⟩ := h
  refine xs_cons (xs_set (i := 2) (xe_lst (xa_nil ⟨by simp, fun p => ?_⟩)) nd)
  refine xs_cons (xs_for [3, 4, 5, 6, 7, 8] ?_)
  refine xi_zipT gZ (xe_name (i := 0) rfl (xe_name (i := 1) rfl ?_))
  refine ⟨_, _, trivial, .tup _, trivial, .tup _, fun i δ' μ' => μ' = [(p, .lst ((askGo [] ((ws.zip pl).take i)).map fun z => .d (eP z)))] ∧ ∃ a b c d e g, δ' = [some (.d (eWishes ws)), some (.d (ePlan pl)), some (.r (.ref p)), a, b, c, d, e, g], ?_, fun _ _ _ _ => trivial, ?_, ?_⟩
  · exact ⟨rfl, _, _, _, _, _, _, rfl⟩
  · rintro i x δ' μ' hx ⟨rfl, a, b, c, d, e, g, rfl⟩
    rw [List.map_map, List.map_map, List.zip_map, List.map_map, List.getElem?_map] at hx
    cases hz : (ws.zip pl)[i]? with
    | none => rw [hz] at hx; cases hx
    | some z =>
      rw [hz] at hx
      cases hx
      obtain ⟨wi, en⟩ := z
      have hwm : wi ∈ ws := (List.of_mem_zip (List.mem_of_getElem? hz)).1
      have et : (ws.zip pl).take (i + 1) = (ws.zip pl).take i ++ [(wi, en)] := by rw [List.take_succ, hz]; rfl
      have sn := askGo_snoc ((ws.zip pl).take i) [] (wi, en)
      rw [← et] at sn
      have kw := (hw wi hwm).1
      have fok : ∀ p ∈ askGo [] ((ws.zip pl).take i), KOk p.1 := askGo_ok (fun p => KOk p.1) _ _ (fun p hp => by cases hp) fun z hz x _ => (hw z.1 (List.of_mem_zip (List.mem_of_mem_take hz)).1).1
      have flen : (askGo [] ((ws.zip pl).take i)).length ≤ 1000 := by
        have h1 := askGo_len ((ws.zip pl).take i) []
        have h2 : ((ws.zip pl).take i).length ≤ ws.length := by rw [List.length_take, List.length_zip]; omega
        simp only [List.length_nil] at h1
        omega
      generalize askGo [] ((ws.zip pl).take i) = found at sn fok flen ⊢
      refine xg_z (xgs_cons (xg_tupD (xgs_cons (xg_name (i := 3) (xgs_cons (xg_name (i := 4) (xgs_cons (xg_name (i := 5) (xgs_cons (xg_name (i := 6) (xgs_nil ?_) nd)) nd)) nd)) nd))))
      refine xgs_cons (xg_tupD (xgs_cons (xg_name (i := 7) (xgs_cons (xg_name (i := 8) (xgs_nil (xgs_nil ?_)) nd)) nd)))
      have hd : (found.map fun z => Rv.d (eP z)) = (found.map eP).map Rv.d := by rw [List.map_map]; rfl
      refine xs_one (xs_if (XT.mono (Q := fun k μ1 => k = cnd found wi en.2 ∧ μ1 = [(p, .lst (found.map fun z => .d (eP z)))]) ?_ fun k μ1 ⟨ek, em⟩ => ?_))
      · refine xt_w (xw_and (xt_cm (xc_ne hr (xe_name (i := 8) rfl (xe_tupD (xa_nil ⟨[], rfl, by simp, _, _, .d _, .d _, (sh_ints en.2).ok (by decide), sh_nil.ok (by decide), ?_⟩))))))
        rw [eqv_ints0]
        cases hl2 : en.2 with
        | nil => exact ⟨(fun z => by cases z), fun _ => ⟨rfl, rfl⟩⟩
        | cons x rest =>
          refine ⟨fun _ => xw_and1 (xt_w ?_), (fun z => by cases z)⟩
          refine xw_or (xt_cm (xc_isN (xe_name (i := 6) rfl (.inl ⟨_, rfl, ?_⟩))))
          cases hn : wi.needs with
          | none => exact ⟨fun _ => ⟨by unfold cnd; rw [hn]; rfl, rfl⟩, (fun z => by cases z)⟩
          | some n =>
            refine ⟨(fun z => by cases z), fun _ => xw_or1 (xt_cm (xc_in hr (xe_name (i := 6) rfl (xe_name (i := 2) rfl ?_))))⟩
            refine ⟨_, found.map eP, .d _, .lst (by rw [hd]; exact List.mem_cons_self), ?_, ?_, ?_, rfl⟩
            · exact (sh_pair ((hw wi hwm).2 n hn)).ok (by decide)
            · exact (sh_map (n := 1) fun z hz => sh_pair (fok z hz)).ok (by decide)
            · show (List.any (found.map eP) fun z => PyData.eqv z (eP n)) = _
              rw [ap_pair.mem]
              unfold cnd
              rw [hn]
              simp
      · subst ek em
        have tn := turn_cnd found wi en.2
        refine ⟨fun ht => ?_, fun ht => xs_nil ⟨?_, _, _, _, _, _, _, rfl⟩⟩
        · rw [if_pos ht] at tn
          cases hl2 : en.2 with
          | nil => rw [hl2] at ht; cases ht
          | cons x rest =>
            rw [hl2] at tn
            refine xs_one (xs_expr (xe_append (xe_name (i := 2) rfl ⟨p, _, rfl, List.mem_cons_self, ?_⟩)))
            refine xe_tupD (xa_cons (xe_name (i := 3) rfl (xa_cons (xe_ix (xe_name (i := 8) rfl (xe_int ⟨_, 0, .d (.int x), .tup _, rfl, ?_, xa_nil ?_⟩))))))
            · exact atI_nat (j := 0) rfl
            · refine ⟨[.str wi.kind, .int x], rfl, by simp, _, _, ?_, .here, ?_, _, _, _, _, _, _, rfl⟩
              · rw [List.length_map]; omega
              · rw [sn, hl2, tn, List.map_append]
                rfl
        · rw [if_neg (by rw [ht]; exact Bool.false_ne_true)] at tn
          rw [sn, tn]
  · rintro δ' μ' ⟨rfl, a, b, c, d, e, g, rfl⟩
    refine xs_one (xs_ret (xe_tupleD gT (xa_cons (xe_name (i := 2) rfl (xa_nil ⟨p, (askOf ws pl).map eP, rfl, ?_, [], List.nil_sublist _, q⟩)))))
    rw [List.take_of_length_le (by simp), List.map_map]
    exact List.mem_cons_self
end
end Wk

/-! text Wk2 -/
/-! The walk: ends. -/
namespace Wk
open PySem PySem.Spec PyProof.Rows L2 Ds Cw
/-! ### a known dict -/
/-- the dict that known_of makes of an end, its stand as it is written there -/
def Kv (st : Str) (e : Cw.End) : List (Str × Rv) :=
  [("name", .d (.str (tNm e.name))), ("wishes", .d (eWishes e.wishes)), ("stand", .d (.str st)), ("turn", .d (.int e.turn)), ("yours", .d (.int e.yours)), ("number", .d (.int e.number)), ("plan", .d (ePlan e.plan)), ("refused", .d (eAsk e.refused)), ("given", .d (eOAsk e.given)), ("heard", .d (.int e.heard)),
    ("took", .d (eOAsk e.took)), ("last", .d (eOLet e.last)), ("tries", .d (.int e.tries)), ("echoes", .d (.int e.echoes)), ("why", .d (.str e.why))]
def PARTS : List Str := ["name", "wishes", "stand", "turn", "yours", "number", "plan", "refused", "given", "heard", "took", "last", "tries", "echoes", "why"]
def restK : List (Str × Rv) := [("stand", .d (.str "closed")), ("number", .d (.int 0)), ("plan", .d (.tuple [])), ("refused", .d (.tuple [])), ("given", .d .none), ("heard", .d (.int 0)), ("took", .d .none), ("last", .d .none), ("tries", .d (.int 0))]
section
variable (st : Str) (e : Cw.End)
theorem kv_name : dk (Kv st e) "name" = some (.d (.str (tNm e.name))) := by kernel_rfl
theorem kv_wishes : dk (Kv st e) "wishes" = some (.d (eWishes e.wishes)) := by kernel_rfl
theorem kv_stand : dk (Kv st e) "stand" = some (.d (.str st)) := by kernel_rfl
theorem kv_turn : dk (Kv st e) "turn" = some (.d (.int e.turn)) := by kernel_rfl
theorem kv_yours : dk (Kv st e) "yours" = some (.d (.int e.yours)) := by kernel_rfl
theorem kv_number : dk (Kv st e) "number" = some (.d (.int e.number)) := by kernel_rfl
theorem kv_plan : dk (Kv st e) "plan" = some (.d (ePlan e.plan)) := by kernel_rfl
theorem kv_refused : dk (Kv st e) "refused" = some (.d (eAsk e.refused)) := by kernel_rfl
theorem kv_given : dk (Kv st e) "given" = some (.d (eOAsk e.given)) := by kernel_rfl
theorem kv_heard : dk (Kv st e) "heard" = some (.d (.int e.heard)) := by kernel_rfl
theorem kv_took : dk (Kv st e) "took" = some (.d (eOAsk e.took)) := by kernel_rfl
theorem kv_last : dk (Kv st e) "last" = some (.d (eOLet e.last)) := by kernel_rfl
theorem kv_tries : dk (Kv st e) "tries" = some (.d (.int e.tries)) := by kernel_rfl
theorem kv_echoes : dk (Kv st e) "echoes" = some (.d (.int e.echoes)) := by kernel_rfl
theorem kv_why : dk (Kv st e) "why" = some (.d (.str e.why)) := by kernel_rfl
theorem kv_len : (Kv st e).length = 15 := rfl
theorem put_tries (i : Int) : dput (Kv st e) "tries" (.d (.int i)) = Kv st { e with tries := i } := by kernel_rfl
theorem put_number (i : Int) : dput (Kv st e) "number" (.d (.int i)) = Kv st { e with number := i } := by kernel_rfl
theorem put_yours (i : Int) : dput (Kv st e) "yours" (.d (.int i)) = Kv st { e with yours := i } := by kernel_rfl
theorem put_why (x : Str) : dput (Kv st e) "why" (.d (.str x)) = Kv st { e with why := x } := by kernel_rfl
theorem put_given (a : Option Ask) : dput (Kv st e) "given" (.d (eOAsk a)) = Kv st { e with given := a } := by kernel_rfl
theorem put_last (l : Option Letter) : dput (Kv st e) "last" (.d (eOLet l)) = Kv st { e with last := l } := by kernel_rfl
/-- at rest -/
def rested (e : Cw.End) : Cw.End := { e with closed := true, number := 0, plan := [], refused := [], given := none, heard := 0, took := none, last := none, tries := 0 }
theorem kv_rest : dmerge (Kv st e) restK = Kv "closed" (rested e) := by kernel_rfl
theorem kv_zip : dmerge [] [("name", .d (.str (tNm e.name))), ("wishes", .d (eWishes e.wishes)), ("stand", .d (.str st)), ("turn", .d (.int e.turn)), ("yours", .d (.int e.yours)), ("number", .d (.int e.number)), ("plan", .d (ePlan e.plan)), ("refused", .d (eAsk e.refused)), ("given", .d (eOAsk e.given)), ("heard", .d (.int e.heard)),
    ("took", .d (eOAsk e.took)), ("last", .d (eOLet e.last)), ("tries", .d (.int e.tries)), ("echoes", .d (.int e.echoes)), ("why", .d (.str e.why))] = Kv st e := by kernel_rfl
end
/-- the modules' tuples, AT_REST -/
structure Gx (P : Program) (w : World) (K : PySem.W.Frag) (mg : Str → Option Value) : Prop where
  parts : ∃ a, mg "PARTS" = some (.ref a) ∧ ∀ H, Rk K H (.ref a) (.d (.tuple (PARTS.map .str)))
  rest : ∃ a kv, mg "AT_REST" = some (.ref a) ∧ (∀ H, DR K H kv restK) ∧ ∀ X : Cx, X.K = K → X.w = w → CallR X (.type "dict") (fun xs H Q => xs = [V.ref a] ∧ ∀ p, H p = none → Q (.ref p) (upd H p (.dK kv)))
  b_dict : mg "dict" = none
  b_list : mg "list" = none
  b_zip : mg "zip" = none
  b_tuple : mg "tuple" = none
def sKnownOf : Sc := fun args μ Q => ∃ e : Cw.End, args = [.d (eEnd e)] ∧ μ = [] ∧ ∀ p, Q (.r (.ref p)) [(p, .dic (Kv (tStand e) e))]
def sAsEnd : Sc := fun args μ Q => ∃ (p : Addr) (st : Str) (e : Cw.End), args = [.r (.ref p)] ∧ KOk st ∧ decide (st = "closed") = e.closed ∧ μ = [(p, .dic (Kv st e))] ∧ Q (.d (eEnd e)) μ
def sWritten : Sc := fun args μ Q => ∃ (p : Addr) (st : Str) (e : Cw.End) (w : Wd) (n : Int) (a : Ask), args = [.r (.ref p), .d (.str (tWd w)), .d (.int n), .d (eAsk a)] ∧ μ = [(p, .dic (Kv st e))] ∧ Q (.d (eLetter ⟨e.name, w, e.turn, e.yours, n, a⟩)) μ
/-- what is asked of an end's wishes -/
def WsOk (ws : List Wish) : Prop := ws.length ≤ 1000 ∧ ∀ w ∈ ws, KOk w.kind ∧ w.worths.length ≤ 1000 ∧ ∀ n, w.needs = some n → KOk n.1
def sAskW : Sc := fun args μ Q => ∃ (p : Addr) (st : Str) (e : Cw.End), args = [.r (.ref p)] ∧ WsOk e.wishes ∧ μ = [(p, .dic (Kv st e))] ∧ Q (.d (eLetter (askL e))) μ
def sBegin : Sc := fun args μ Q => ∃ (p : Addr) (st : Str) (e : Cw.End), args = [.r (.ref p), .d (.int 3)] ∧ WsOk e.wishes ∧ μ = [(p, .dic (Kv st e))] ∧ ∀ q, Q (.r (.ref q)) [(q, .lst [.d (eLetter (askL (begun e)))]), (p, .dic (Kv "asking" (begun e)))]
def sShut : Sc := fun args μ Q => ∃ (p : Addr) (st : Str) (e : Cw.End) (why : Str) (told : Bool), args = [.r (.ref p), .d (.str why), .d (.bool told)] ∧ μ = [(p, .dic (Kv st e))] ∧ ∀ q, Q (.r (.ref q)) [(q, .lst (if told then [.d (eLetter (bareL e .bye))] else [])), (p, .dic (Kv "closed" (shut e why)))]
def sOpened : Sc := fun args μ Q => ∃ e : Cw.End, args = [.d (eEnd e), .d (.int 3)] ∧ e.closed = true ∧ WsOk e.wishes ∧ μ = [] ∧ ∀ q, Q (.t [.d (eEnd (opened e).1), .r (.ref q)]) [(q, .lst ((opened e).2.map fun l => .d (eLetter l)))]
def sClosing : Sc := fun args μ Q => ∃ e : Cw.End, args = [.d (eEnd e)] ∧ e.closed = false ∧ μ = [] ∧ ∀ q, Q (.t [.d (eEnd (closing e).1), .r (.ref q)]) [(q, .lst ((closing e).2.map fun l => .d (eLetter l)))]
def sTicked : Sc := fun args μ Q => ∃ e : Cw.End, args = [.d (eEnd e)] ∧ WsOk e.wishes ∧ μ = [] ∧ ∀ q, Q (.t [.d (eEnd (ticked e).1), .r (.ref q)]) [(q, .lst ((ticked e).2.map fun l => .d (eLetter l)))]
theorem stand_closed (e : Cw.End) : decide (tStand e = "closed") = e.closed := by
  unfold tStand
  cases e.closed with
  | true => rfl
  | false =>
    rw [if_neg Bool.false_ne_true]
    split
    · decide +kernel
    · decide +kernel
section
variable {P : Program} {w : World} {K : PySem.W.Frag} {mg : Str → Option Value} {base : Heap} {f : Addr} {fd : FuncData} {k : Nat}
theorem sc_known_of : FnScope ["end"] ["end"] (defScope (top 29)) := ⟨rfl, rfl, rfl, by decide +kernel, rfl, by decide +kernel, by decide +kernel⟩
theorem d_known_of (g : Gx P w K mg) (F : FnP K "known_of" (top 29) f fd) : Df P w K mg base (k + 1) f ["end"] sKnownOf := by
  refine df_by F sc_known_of (fun _ _ _ _ _ _ us hl => match us, hl with | [_], _ => rfl) (fun args μ Q ⟨_, e, _⟩ => by rw [e]; rfl) fun cdv A outer s H E hr F args μ Q h => ?_
  obtain ⟨e, rfl, rfl, q⟩ := h
  obtain ⟨aP, gP, rP⟩ := g.parts
  refine xs_one (xs_ret (xe_dictP g.b_dict (xa_cons ?_)))
  refine xe_listZip g.b_list g.b_zip (xe_glob (v := .ref aP) rfl gP rfl rP (xe_name (i := 0) rfl ?_))
  refine ⟨_, _, trivial, .tup _, .tup _, rfl, by simp [PARTS], fun p => xa_nil ?_⟩
  refine ⟨_, _, _, rfl, .lst List.mem_cons_self, .inr ⟨_, rfl⟩, .cons (.z _ _) (.cons (.z _ _) (.cons (.z _ _) (.cons (.z _ _) (.cons (.z _ _) (.cons (.z _ _) (.cons (.z _ _) (.cons (.z _ _) (.cons (.z _ _) (.cons (.z _ _) (.cons (.z _ _) (.cons (.z _ _) (.cons (.z _ _) (.cons (.z _ _) (.cons (.z _ _) .nil)))))))))))))), fun p2 => ?_⟩
  rw [kv_zip]
  exact ⟨_, .cons_cons _ (List.nil_sublist _), q p2⟩
/-- an end's parts by their names -/
def partsV (e : Cw.End) : List (Str × PyData) :=
  [("name", .str (tNm e.name)), ("wishes", eWishes e.wishes), ("stand", .str (tStand e)), ("turn", .int e.turn), ("yours", .int e.yours), ("number", .int e.number), ("plan", ePlan e.plan), ("refused", eAsk e.refused), ("given", eOAsk e.given), ("heard", .int e.heard),
    ("took", eOAsk e.took), ("last", eOLet e.last), ("tries", .int e.tries), ("echoes", .int e.echoes), ("why", .str e.why)]
theorem parts_at (st : Str) (e : Cw.End) : ∀ y ∈ partsV e, (decide (y.1 = "stand") = true ∧ y.2 = .str (tStand e)) ∨ (decide (y.1 = "stand") = false ∧ dk (Kv st e) y.1 = some (.d y.2)) := by
  intro y hy
  simp only [partsV, List.mem_cons, List.not_mem_nil, or_false] at hy
  rcases hy with rfl | rfl | rfl | rfl | rfl | rfl | rfl | rfl | rfl | rfl | rfl | rfl | rfl | rfl | rfl
  · exact .inr ⟨by kernel_rfl, kv_name st e⟩
  · exact .inr ⟨by kernel_rfl, kv_wishes st e⟩
  · exact .inl ⟨by kernel_rfl, rfl⟩
  · exact .inr ⟨by kernel_rfl, kv_turn st e⟩
  · exact .inr ⟨by kernel_rfl, kv_yours st e⟩
  · exact .inr ⟨by kernel_rfl, kv_number st e⟩
  · exact .inr ⟨by kernel_rfl, kv_plan st e⟩
  · exact .inr ⟨by kernel_rfl, kv_refused st e⟩
  · exact .inr ⟨by kernel_rfl, kv_given st e⟩
  · exact .inr ⟨by kernel_rfl, kv_heard st e⟩
  · exact .inr ⟨by kernel_rfl, kv_took st e⟩
  · exact .inr ⟨by kernel_rfl, kv_last st e⟩
  · exact .inr ⟨by kernel_rfl, kv_tries st e⟩
  · exact .inr ⟨by kernel_rfl, kv_echoes st e⟩
  · exact .inr ⟨by kernel_rfl, kv_why st e⟩
theorem parts_ok : ∀ x ∈ PARTS, KOk x := by
  intro x hx
  unfold KOk
  revert x
  decide +kernel
theorem parts_names (e : Cw.End) : (partsV e).map (·.1) = PARTS := rfl
theorem k_stand : KOk "stand" := by unfold KOk; decide +kernel
theorem k_closed : KOk "closed" := by unfold KOk; decide +kernel
theorem k_open : KOk "open" := by unfold KOk; decide +kernel
theorem k_asking : KOk "asking" := by unfold KOk; decide +kernel
theorem notN_oask (a : Option Ask) : (!nonB (eOAsk a)) = a.isSome := by cases a <;> rfl
theorem sc_as_end : FnScope ["known", "stand", "now", "part"] ["known"] (defScope (top 30)) := ⟨rfl, rfl, rfl, by decide +kernel, rfl, by decide +kernel, by decide +kernel⟩
theorem d_as_end (g : Gx P w K mg) (F : FnP K "as_end" (top 30) f fd) : Df P w K mg base (k + 1) f ["known"] sAsEnd := by
  have nd := sc_as_end.nd
  refine df_by F sc_as_end (fun _ _ _ _ _ _ us hl => match us, hl with | [_], _ => rfl) (fun args μ Q ⟨_, _, _, e, _⟩ => by rw [e]; rfl) fun cdv A outer s H E hr F args μ Q h => ?_
  obtain ⟨p, st, e, rfl, hk, hst, rfl, q⟩ := h
  obtain ⟨aP, gP, rP⟩ := g.parts
  -- stand
  refine xs_cons (xs_set (i := 1) (XE.to (r0 := .d (.str (if e.given.isSome && e.took.isSome then ("open" : Str) else ("asking" : Str)))) (μ0 := [(p, .dic (Kv st e))]) ?_ ?_) nd)
  · refine xe_if (xt_w (xw_and (xt_cm (xc_notN (xe_dget hr (xe_name (i := 0) rfl (xe_str ⟨p, _, _, _, rfl, List.mem_cons_self, rfl, kv_given st e, .inl ⟨_, rfl, ?_⟩⟩)))))))
    rw [notN_oask]
    refine ⟨fun h1 => xw_and1 (xt_cm (xc_notN (xe_dget hr (xe_name (i := 0) rfl (xe_str ⟨p, _, _, _, rfl, List.mem_cons_self, rfl, kv_took st e, .inl ⟨_, rfl, ?_⟩⟩))))), fun h1 => ⟨(fun z => by cases z), fun _ => xe_str ⟨by rw [h1]; rfl, .refl _⟩⟩⟩
    rw [notN_oask]
    exact ⟨fun h2 => xe_str ⟨by rw [h1, h2]; rfl, .refl _⟩, fun h2 => xe_str ⟨by rw [h1, h2]; rfl, .refl _⟩⟩
  -- now
  refine xs_cons (xs_set (i := 2) (XE.to (r0 := .d (.str (tStand e))) (μ0 := [(p, .dic (Kv st e))]) ?_ ?_) nd)
  · refine xe_if (xt_cm (xc_eq hr (xe_dget hr (xe_name (i := 0) rfl (xe_str ⟨p, _, _, _, rfl, List.mem_cons_self, rfl, kv_stand st e, xe_str ⟨_, _, .d _, .d _, (sh_str hk).ok (by decide), (sh_str k_closed).ok (by decide), ?_⟩⟩)))))
    rw [eqv_str, hst]
    refine ⟨fun hc => xe_dget hr (xe_name (i := 0) rfl (xe_str ⟨p, _, _, _, rfl, List.mem_cons_self, rfl, kv_stand st e, ?_, .refl _⟩)), fun hc => xe_name (i := 1) rfl ⟨?_, .refl _⟩⟩
    · rw [hc] at hst
      have : tStand e = st := by
        unfold tStand
        rw [if_pos hc, of_decide_eq_true hst]
      rw [this]
    · have : tStand e = if e.given.isSome && e.took.isSome then ("open" : Str) else ("asking" : Str) := by
        unfold tStand
        rw [if_neg (show ¬ e.closed = true by rw [hc]; exact Bool.false_ne_true)]
      rw [this]
  -- the tuple
  refine xs_one (xs_ret (xe_tupleD g.b_tuple (xa_cons ?_)))
  refine xe_map (partsV e) (fun y => .d (.str y.1)) (fun y => .d y.2) nd (own := [("part", 3)]) (by kernel_rfl) ?_
  refine xi_tup (xe_glob (v := .ref aP) rfl gP rfl rP ⟨trivial, _, .tup _, rfl, trivial, by simp [partsV], fun y hy F' s H C cl fp => ?_, fun p2 => ?_⟩)
  · refine xg_name (i := 3) (fun s H C cl fp => ?_) nd
    refine xe_if (xt_cm (xc_eq hr (xe_name (i := 3) rfl (xe_str ⟨_, _, .d _, .d _, (sh_str (parts_ok _ (by rw [← parts_names e]; exact List.mem_map.mpr ⟨y, hy, rfl⟩))).ok (by decide), (sh_str k_stand).ok (by decide), ?_⟩))))
    rw [eqv_str]
    rcases parts_at st e y hy with ⟨h1, h2⟩ | ⟨h1, h2⟩
    · rw [h1]
      exact ⟨fun _ => xe_name (i := 2) rfl ⟨by show _ = Rv.d y.2; rw [h2], .refl _⟩, (fun z => by cases z)⟩
    · rw [h1]
      exact ⟨(fun z => by cases z), fun _ => xe_dget hr (xe_name (i := 0) rfl (xe_name (i := 3) rfl ⟨p, _, _, _, rfl, List.mem_cons_self, rfl, h2, rfl, .refl _⟩))⟩
  · refine xa_nil ⟨p2, (partsV e).map Prod.snd, rfl, ?_, [(p, .dic (Kv st e))], .cons _ (.refl _), (show Q (.d (.tuple ((partsV e).map Prod.snd))) _ from q)⟩
    rw [List.map_map]
    exact List.mem_cons_self
end
end Wk

/-! text Wk3 -/
/-! The walk: ends that open, close, tick. -/
namespace Wk
open PySem PySem.Spec PyProof.Rows L2 Ds Cw
section
variable {P : Program} {w : World} {K : PySem.W.Frag} {mg : Str → Option Value} {base : Heap} {f : Addr} {fd : FuncData} {k : Nat} {kws : List (Str × V)}
theorem sc_written : FnScope ["known", "word", "number", "pairs"] ["known", "word", "number", "pairs"] (defScope (top 31)) := ⟨rfl, rfl, rfl, by decide +kernel, rfl, by decide +kernel, by decide +kernel⟩
theorem f_written (F : FnK K "written" (top 31) kws f fd) : FnOk P w K mg base CX0 (k + 1) f fd ["known", "word", "number", "pairs"] (spOf K sWritten) := by
  refine fn_by F sc_written (fun args μ Q ⟨_, _, _, _, _, _, e, _⟩ => by rw [e]; rfl) fun cdv A outer s H E hr F args μ Q h => ?_
  obtain ⟨p, st, e, wd, n, a, rfl, rfl, q⟩ := h
  refine xs_one (xs_ret (xe_tupD ?_))
  refine xa_cons (xe_dget hr (xe_name (i := 0) rfl (xe_str ⟨p, _, _, _, rfl, List.mem_cons_self, rfl, kv_name st e, ?_⟩)))
  refine xa_cons (xe_name (i := 1) rfl ?_)
  refine xa_cons (xe_dget hr (xe_name (i := 0) rfl (xe_str ⟨p, _, _, _, rfl, List.mem_cons_self, rfl, kv_turn st e, ?_⟩)))
  refine xa_cons (xe_dget hr (xe_name (i := 0) rfl (xe_str ⟨p, _, _, _, rfl, List.mem_cons_self, rfl, kv_yours st e, ?_⟩)))
  refine xa_cons (xe_name (i := 2) rfl (xa_cons (xe_name (i := 3) rfl (xa_nil ?_))))
  exact ⟨[.str (tNm e.name), .str (tWd wd), .int e.turn, .int e.yours, .int n, eAsk a], rfl, by simp, _, .refl _, q⟩
/-- written, with and without its keywords -/
structure Wr (P : Program) (w : World) (K : PySem.W.Frag) (mg : Str → Option Value) (base : Heap) (k : Nat) : Prop where
  ex : ∃ f, mg "written" = some (.ref f) ∧ DfK P w K mg base k f ["known", "word", "number", "pairs"] 2 ["number", "pairs"] sWritten ∧ DfD P w K mg base k f ["known", "word", "number", "pairs"] [.d (.int 0), .d (.tuple [])] sWritten
theorem kw_written (F : FnK K "written" (top 31) kws f fd) : DfK P w K mg base (k + 1) f ["known", "word", "number", "pairs"] 2 ["number", "pairs"] sWritten :=
  DfK.of F (f_written F) fun _ _ _ _ _ _ us ws h1 h2 => match us, ws, h1, h2 with | [_, _], [_, _], _, _ => rfl
theorem sc_askw : FnScope ["known"] ["known"] (defScope (top 32)) := ⟨rfl, rfl, rfl, by decide +kernel, rfl, by decide +kernel, by decide +kernel⟩
theorem d_askw (F : FnP K "ask_written" (top 32) f fd) (W : Wr P w K mg base k) {fA : Addr} (A' : Df P w K mg base k fA ["wishes", "plan"] sAskOf) (gA : mg "ask_of" = some (.ref fA)) : Df P w K mg base (k + 1) f ["known"] sAskW := by
  refine df_by F sc_askw (fun _ _ _ _ _ _ us hl => match us, hl with | [_], _ => rfl) (fun args μ Q ⟨_, _, _, e, _⟩ => by rw [e]; rfl) fun cdv A outer s H E hr F args μ Q h => ?_
  obtain ⟨p, st, e, rfl, hw, rfl, q⟩ := h
  obtain ⟨fW, gW, Wk', _⟩ := W.ex
  refine xs_one (xs_ret (xe_callKw Wk' hr gW ?_))
  refine xa_cons (xe_name (i := 0) rfl (xa_cons (xe_str (xa_nil ?_))))
  refine xk_cons (xe_dget hr (xe_name (i := 0) rfl (xe_str ⟨p, _, _, _, rfl, List.mem_cons_self, rfl, kv_number st e, ?_⟩)))
  refine xk_cons (xe_call A' hr gA ?_)
  refine xa_cons (xe_dget hr (xe_name (i := 0) rfl (xe_str ⟨p, _, _, _, rfl, List.mem_cons_self, rfl, kv_wishes st e, ?_⟩)))
  refine xa_cons (xe_dget hr (xe_name (i := 0) rfl (xe_str ⟨p, _, _, _, rfl, List.mem_cons_self, rfl, kv_plan st e, xa_nil ?_⟩)))
  refine ⟨[], _, .refl _, _, _, rfl, hw.1, fun v hv => ⟨(hw.2 v hv).1, (hw.2 v hv).2.2⟩, rfl, xk_nil ⟨rfl, rfl, _, [], by rw [List.append_nil], ?_⟩⟩
  exact ⟨p, st, e, .ask, _, _, rfl, rfl, _, .refl _, q⟩
/-- dict(AT_REST) -/
theorem xe_rest (g : Gx P w K mg) {X : Cx} (hX : X.K = K) (hmg : X.mg = mg) {F : Fm} {δ : De} {μ : Mu} {p1 p2 pos : Pos} {Q : Rv → Mu → Prop} (q : ∀ p, Q (.r (.ref p)) ((p, .dic restK) :: μ)) (hg : Gl X "dict" := by rfl) (hg2 : Gl X "AT_REST" := by rfl)
    (he : starEach [.Name "AT_REST" p2] X.env = (false, eval (.Name "AT_REST" p2) X.env) :: starEach [] X.env := by rfl) (hw : X.w = w := by rfl) : XE X F δ μ (.Call (.Name "dict" p1) [.Name "AT_REST" p2] [] pos) Q := by
  obtain ⟨a, kv, g1, g2, g3⟩ := g.rest
  subst hX hmg
  exact xe_dcopyG g.b_dict hg2 g1 (fun H => ⟨(), g2 H⟩) q (g3 X rfl hw) (by decide) hg he
theorem begun_of (st : Str) (e : Cw.End) : dmerge (Kv st (rested e)) [("stand", .d (.str "asking")), ("number", .d (.int 1)), ("plan", .d (ePlan (planOf e.wishes))), ("tries", .d (.int 3)), ("why", .d (.str ""))] = Kv "asking" (begun e) := by kernel_rfl
theorem sc_begin : FnScope ["known", "tries"] ["known", "tries"] (defScope (top 33)) := ⟨rfl, rfl, rfl, by decide +kernel, rfl, by decide +kernel, by decide +kernel⟩
theorem d_begin (g : Gx P w K mg) (F : FnP K "begin" (top 33) f fd) {fA : Addr} (A' : Df P w K mg base k fA ["known"] sAskW) (gA : mg "ask_written" = some (.ref fA)) {fP : Addr} (Pl : DfD P w K mg base k fP ["wishes", "refused"] [.d (.tuple [])] sPlanOf) (gP : mg "plan_of" = some (.ref fP)) :
    Df P w K mg base (k + 1) f ["known", "tries"] sBegin := by
  refine df_by F sc_begin (fun _ _ _ _ _ _ us hl => match us, hl with | [_, _], _ => rfl) (fun args μ Q ⟨_, _, _, e, _⟩ => by rw [e]; rfl) fun cdv A outer s H E hr F args μ Q h => ?_
  obtain ⟨p, st, e, rfl, hw, rfl, q⟩ := h
  refine xs_cons (xs_expr (XE.sub (xe_upd (xe_name (i := 0) rfl ⟨p, _, rfl, List.mem_cons_self, xa_cons (xe_rest g rfl rfl fun p2 => xa_nil ?_)⟩))))
  refine ⟨p2, Kv st e, restK, _, rfl, .inr (.refl _), by rw [kv_len]; decide, .there .here, [(p, .dic (Kv "closed" (rested e)))], by rw [kv_rest]; exact .cons _ (.refl _), ?_⟩
  refine xs_cons (xs_expr (XE.sub (xe_upd (xe_name (i := 0) rfl ⟨p, _, rfl, List.mem_cons_self, xa_cons ?_⟩))))
  refine xe_disp fun F' => ?_
  refine xe_str ⟨_, rfl, xe_str (xe_str ⟨_, rfl, xe_int (xe_str ⟨_, rfl, ?_⟩)⟩)⟩
  refine xe_callD Pl hr gP (xa_cons (xe_dget hr (xe_name (i := 0) rfl (xe_str ⟨p, _, _, _, rfl, List.mem_cons_self, rfl, kv_wishes _ _, xa_nil ?_⟩))))
  refine ⟨[], _, .refl _, e.wishes, rfl, hw.1, fun v hv => ⟨(hw.2 v hv).1, (hw.2 v hv).2.1⟩, rfl, ?_⟩
  refine xe_str ⟨_, rfl, xe_name (i := 1) rfl (xe_str ⟨_, rfl, xe_str fun p2 => xa_nil ?_⟩)⟩
  refine ⟨p2, Kv "closed" (rested e), _, _, rfl, .inr (.refl _), ?_, .there .here, [(p, .dic (Kv "asking" (begun e)))], ?_, ?_⟩
  · exact Nat.le_trans (Nat.add_le_add_left (dmerge_le _ _) _) (by rw [kv_len]; simp)
  · have : dmerge (Kv "closed" (rested e)) (dmerge [] [("stand", .d (.str "asking")), ("number", .d (.int 1)), ("plan", .d (ePlan (planOf e.wishes))), ("tries", .d (.int 3)), ("why", .d (.str ""))]) = Kv "asking" (begun e) := by kernel_rfl
    rw [← this]
    exact .cons _ (.refl _)
  · refine xs_one (xs_ret (xe_lst (xa_cons (xe_call A' hr gA (xa_cons (xe_name (i := 0) rfl (xa_nil ?_)))))))
    exact ⟨_, [], by rw [List.append_nil], p, "asking", begun e, rfl, hw, rfl, xa_nil ⟨by simp, fun q' => ⟨_, .refl _, q q'⟩⟩⟩
theorem shut_of (e : Cw.End) (why : Str) : dput (Kv "closed" (rested e)) "why" (.d (.str why)) = Kv "closed" (shut e why) := by kernel_rfl
theorem sc_shut : FnScope ["known", "why", "is_told", "letters"] ["known", "why", "is_told"] (defScope (top 34)) := ⟨rfl, rfl, rfl, by decide +kernel, rfl, by decide +kernel, by decide +kernel⟩
theorem f_shut (g : Gx P w K mg) (F : FnK K "shut" (top 34) kws f fd) (W : Wr P w K mg base k) : FnOk P w K mg base CX0 (k + 1) f fd ["known", "why", "is_told"] (spOf K sShut) := by
  have nd := sc_shut.nd
  refine fn_by F sc_shut (fun args μ Q ⟨_, _, _, _, _, e, _⟩ => by rw [e]; rfl) fun cdv A outer s H E hr F args μ Q h => ?_
  obtain ⟨p, st, e, why, told, rfl, rfl, q⟩ := h
  obtain ⟨fW, gW, _, Wd'⟩ := W.ex
  have goal : ∀ q' : Addr, XSs (bodyX P w K mg base ["known", "why", "is_told", "letters"] "shut" (defScope (top 34)) f cdv A outer s H E) F [some (.r (.ref p)), some (.d (.str why)), some (.d (.bool told)), some (.r (.ref q'))]
      [(q', .lst (if told then [.d (eLetter (bareL e .bye))] else [])), (p, .dic (Kv st e))] ((defBody (top 34)).drop 1) (DnE Q) := fun q' => by
    refine xs_cons (xs_expr (XE.sub (xe_upd (xe_name (i := 0) rfl ⟨p, _, rfl, List.mem_cons_of_mem _ List.mem_cons_self, xa_cons (xe_rest g rfl rfl fun p2 => xa_nil ?_)⟩))))
    refine ⟨p2, Kv st e, restK, _, rfl, .inr (.cons_cons _ (.cons _ (.refl _))), by rw [kv_len]; decide, .there (.there .here), [(q', .lst (if told then [.d (eLetter (bareL e .bye))] else [])), (p, .dic (Kv "closed" (rested e)))], by rw [kv_rest]; exact .cons _ (.refl _), ?_⟩
    refine xs_cons (xs_dput hr (xe_name (i := 1) rfl (xe_name (i := 0) rfl (xe_str ⟨p, _, _, _, rfl, rfl, by rw [kv_len]; decide, .there .here, ?_⟩))))
    refine xs_one (xs_ret (xe_name (i := 3) rfl ⟨_, .refl _, ?_⟩))
    rw [shut_of]
    exact q q'
  refine xs_cons (xs_set (i := 3) (xe_if (xt_val (xe_name (i := 2) rfl ⟨told, rfl, fun ht => ?_, fun ht => ?_⟩))) nd)
  · subst ht
    refine xe_lst (xa_cons (xe_callD Wd' hr gW (xa_cons (xe_name (i := 0) rfl (xa_cons (xe_str (xa_nil ?_)))))))
    exact ⟨_, [], by rw [List.append_nil], p, st, e, .bye, 0, [], rfl, rfl, xa_nil ⟨by simp, fun q' => goal q'⟩⟩
  · subst ht
    exact xe_lst (xa_nil ⟨by simp, fun q' => goal q'⟩)
end
end Wk

/-! text Wk4 -/
/-! The walk: opened, closing, ticked. -/
namespace Wk
open PySem PySem.Spec PyProof.Rows L2 Ds Cw
section
variable {P : Program} {w : World} {K : PySem.W.Frag} {mg : Str → Option Value} {base : Heap} {f : Addr} {fd : FuncData} {k : Nat} {kws : List (Str × V)}
/-- the defs of ends by their names -/
structure En1 (P : Program) (w : World) (K : PySem.W.Frag) (mg : Str → Option Value) (base : Heap) (k : Nat) : Prop where
  known : ∃ f, mg "known_of" = some (.ref f) ∧ Df P w K mg base k f ["end"] sKnownOf
  as_end : ∃ f, mg "as_end" = some (.ref f) ∧ Df P w K mg base k f ["known"] sAsEnd
  begin : ∃ f, mg "begin" = some (.ref f) ∧ Df P w K mg base k f ["known", "tries"] sBegin
  askw : ∃ f, mg "ask_written" = some (.ref f) ∧ Df P w K mg base k f ["known"] sAskW
  shut : ∃ f, mg "shut" = some (.ref f) ∧ DfD P w K mg base k f ["known", "why", "is_told"] [.d (.bool true)] sShut ∧ DfK P w K mg base k f ["known", "why", "is_told"] 2 ["is_told"] sShut
  wr : Wr P w K mg base k
theorem a_closed : decide (("asking" : Str) = "closed") = false := by decide +kernel
theorem c_closed : decide (("closed" : Str) = "closed") = true := by decide +kernel
theorem k_stand' (e : Cw.End) : KOk (tStand e) := ok_stand e
theorem ne_closed (e : Cw.End) : PyData.eqv (.str (tStand e)) (.str "closed") = e.closed := by rw [eqv_str, stand_closed]
theorem opened_of (st : Str) (e : Cw.End) : dmerge (Kv st e) (dmerge [] [("turn", .d (.int (e.turn + 1))), ("echoes", .d (.int 0))]) = Kv st { e with turn := e.turn + 1, echoes := 0 } := by kernel_rfl
theorem sc_opened : FnScope ["end", "tries", "known", "letters"] ["end", "tries"] (defScope (top 35)) := ⟨rfl, rfl, rfl, by decide +kernel, rfl, by decide +kernel, by decide +kernel⟩
theorem f_opened (F : FnK K "opened" (top 35) kws f fd) (N : En1 P w K mg base k) : FnOk P w K mg base CX0 (k + 1) f fd ["end", "tries"] (spOf K sOpened) := by
  have nd := sc_opened.nd
  refine fn_by F sc_opened (fun args μ Q ⟨_, e, _⟩ => by rw [e]; rfl) fun cdv A outer s H E hr F args μ Q h => ?_
  obtain ⟨e, rfl, hc, hw, rfl, q⟩ := h
  obtain ⟨fK, gK, DK⟩ := N.known
  obtain ⟨fE, gE, DE⟩ := N.as_end
  obtain ⟨fB, gB, DB⟩ := N.begin
  refine xs_cons (xs_set (i := 2) (xe_call DK hr gK (xa_cons (xe_name (i := 0) rfl (xa_nil ⟨[], [], .nil, e, rfl, rfl, fun p => ?_⟩)))) nd)
  refine xs_cons (xs_ifF (xt_cm (xc_ne hr (xe_dget hr (xe_name (i := 2) rfl (xe_str ⟨p, _, _, _, rfl, List.mem_cons_self, rfl, kv_stand _ e, xe_str ⟨_, _, .d _, .d _, (sh_str (ok_stand e)).ok (by decide), (sh_str k_closed).ok (by decide), ?_, xs_nil ?_⟩⟩))))))
  · rw [ne_closed, hc]
    rfl
  refine xs_cons (xs_expr (XE.sub (xe_upd (xe_name (i := 2) rfl ⟨p, _, rfl, List.mem_cons_self, xa_cons ?_⟩))))
  refine xe_disp fun F' => ?_
  refine xe_str ⟨_, rfl, xe_add (xe_dget hr (xe_name (i := 2) rfl (xe_str ⟨p, _, _, _, rfl, List.mem_cons_self, rfl, kv_turn _ e, xe_int ⟨_, _, rfl, rfl, ?_⟩⟩)))⟩
  refine xe_str ⟨_, rfl, xe_int fun p2 => xa_nil ?_⟩
  refine ⟨p2, Kv (tStand e) e, _, _, rfl, .inr (.refl _), ?_, .there .here, [(p, .dic (Kv (tStand e) { e with turn := e.turn + 1, echoes := 0 }))], ?_, ?_⟩
  · exact Nat.le_trans (Nat.add_le_add_left (dmerge_le _ _) _) (by rw [kv_len]; simp)
  · rw [← opened_of]
    exact .cons _ (.refl _)
  refine xs_cons (xs_set (i := 3) (xe_call DB hr gB (xa_cons (xe_name (i := 2) rfl (xa_cons (xe_name (i := 1) rfl (xa_nil ?_)))))) nd)
  refine ⟨_, [], by rw [List.append_nil], p, _, { e with turn := e.turn + 1, echoes := 0 }, rfl, hw, rfl, fun q' => ?_⟩
  refine xs_one (xs_ret (xe_tup (xa_cons (xe_call DE hr gE (xa_cons (xe_name (i := 2) rfl (xa_nil ?_)))))))
  refine ⟨[_], [_], .swap _ _ _, p, "asking", begun { e with turn := e.turn + 1, echoes := 0 }, rfl, k_asking, a_closed, rfl, xa_cons (xe_name (i := 3) rfl (xa_nil ⟨by simp, ?_⟩))⟩
  exact ⟨_, .cons _ (.refl _), q q'⟩
theorem sc_closing : FnScope ["end", "known", "letters"] ["end"] (defScope (top 36)) := ⟨rfl, rfl, rfl, by decide +kernel, rfl, by decide +kernel, by decide +kernel⟩
theorem d_closing (F : FnP K "closing" (top 36) f fd) (N : En1 P w K mg base k) : Df P w K mg base (k + 1) f ["end"] sClosing := by
  have nd := sc_closing.nd
  refine df_by F sc_closing (fun _ _ _ _ _ _ us hl => match us, hl with | [_], _ => rfl) (fun args μ Q ⟨_, e, _⟩ => by rw [e]; rfl) fun cdv A outer s H E hr F args μ Q h => ?_
  obtain ⟨e, rfl, hc, rfl, q⟩ := h
  obtain ⟨fK, gK, DK⟩ := N.known
  obtain ⟨fE, gE, DE⟩ := N.as_end
  obtain ⟨fS, gS, DS, _⟩ := N.shut
  refine xs_cons (xs_set (i := 1) (xe_call DK hr gK (xa_cons (xe_name (i := 0) rfl (xa_nil ⟨[], [], .nil, e, rfl, rfl, fun p => ?_⟩)))) nd)
  refine xs_cons (xs_ifF (xt_cm (xc_eq hr (xe_dget hr (xe_name (i := 1) rfl (xe_str ⟨p, _, _, _, rfl, List.mem_cons_self, rfl, kv_stand _ e, xe_str ⟨_, _, .d _, .d _, (sh_str (ok_stand e)).ok (by decide), (sh_str k_closed).ok (by decide), ?_, xs_nil ?_⟩⟩))))))
  · rw [ne_closed, hc]
  refine xs_cons (xs_set (i := 2) (xe_callD DS hr gS (xa_cons (xe_name (i := 1) rfl (xa_cons (xe_str (xa_nil ?_)))))) nd)
  refine ⟨_, [], by rw [List.append_nil], p, _, e, "closed", true, rfl, rfl, fun q' => ?_⟩
  refine xs_one (xs_ret (xe_tup (xa_cons (xe_call DE hr gE (xa_cons (xe_name (i := 1) rfl (xa_nil ?_)))))))
  refine ⟨[_], [_], .swap _ _ _, p, "closed", shut e "closed", rfl, k_closed, c_closed, rfl, xa_cons (xe_name (i := 2) rfl (xa_nil ⟨by simp, ?_⟩))⟩
  exact ⟨_, .cons _ (.refl _), q q'⟩
theorem sc_ticked : FnScope ["end", "known", "letters"] ["end"] (defScope (top 37)) := ⟨rfl, rfl, rfl, by decide +kernel, rfl, by decide +kernel, by decide +kernel⟩
theorem d_ticked (F : FnP K "ticked" (top 37) f fd) (N : En1 P w K mg base k) : Df P w K mg base (k + 1) f ["end"] sTicked := by
  have nd := sc_ticked.nd
  refine df_by F sc_ticked (fun _ _ _ _ _ _ us hl => match us, hl with | [_], _ => rfl) (fun args μ Q ⟨_, e, _⟩ => by rw [e]; rfl) fun cdv A outer s H E hr F args μ Q h => ?_
  obtain ⟨e, rfl, hw, rfl, q⟩ := h
  obtain ⟨fK, gK, DK⟩ := N.known
  obtain ⟨fE, gE, DE⟩ := N.as_end
  obtain ⟨fS, gS, DS, _⟩ := N.shut
  obtain ⟨fA, gA, DA⟩ := N.askw
  obtain ⟨fW, gW, _, DW⟩ := N.wr.ex
  refine xs_cons (xs_set (i := 1) (xe_call DK hr gK (xa_cons (xe_name (i := 0) rfl (xa_nil ⟨[], [], .nil, e, rfl, rfl, fun p => ?_⟩)))) nd)
  refine xs_cons (xs_if (xt_cm (xc_eq hr (xe_dget hr (xe_name (i := 1) rfl (xe_str ⟨p, _, _, _, rfl, List.mem_cons_self, rfl, kv_stand _ e, xe_str ⟨_, _, .d _, .d _, (sh_str (ok_stand e)).ok (by decide), (sh_str k_closed).ok (by decide), ?_⟩⟩))))))
  rw [ne_closed]
  refine ⟨fun hc => ?_, fun hc => xs_nil ?_⟩
  · refine xs_one (xs_ret (xe_tup (xa_cons (xe_name (i := 0) rfl (xa_cons (xe_lst (xa_nil ⟨by simp, fun q' => xa_nil ⟨by simp, ?_⟩⟩)))))))
    have et : ticked e = (e, []) := by unfold ticked; rw [if_pos hc]
    rw [et] at q
    exact ⟨_, .cons_cons _ (List.nil_sublist _), q q'⟩
  refine xs_cons (xs_if (xt_cm (xc_eq hr (xe_dget hr (xe_name (i := 1) rfl (xe_str ⟨p, _, _, _, rfl, List.mem_cons_self, rfl, kv_tries _ e, xe_int ⟨_, _, .d _, .d _, (sh_int _).ok (by decide), (sh_int _).ok (by decide), ?_⟩⟩))))))
  rw [eqv_int]
  refine ⟨fun h0 => ?_, fun h0 => xs_nil ?_⟩
  · refine xs_cons (xs_set (i := 2) (xe_callD DS hr gS (xa_cons (xe_name (i := 1) rfl (xa_cons (xe_str (xa_nil ?_)))))) nd)
    refine ⟨_, [], by rw [List.append_nil], p, _, e, "tries", true, rfl, rfl, fun q' => ?_⟩
    refine xs_one (xs_ret (xe_tup (xa_cons (xe_call DE hr gE (xa_cons (xe_name (i := 1) rfl (xa_nil ?_)))))))
    refine ⟨[_], [_], .swap _ _ _, p, "closed", shut e "tries", rfl, k_closed, c_closed, rfl, xa_cons (xe_name (i := 2) rfl (xa_nil ⟨by simp, ?_⟩))⟩
    have et : ticked e = (shut e "tries", [bareL e .bye]) := by
      unfold ticked
      rw [if_neg (by rw [hc]; exact Bool.false_ne_true), if_pos (of_decide_eq_true h0)]
    rw [et] at q
    exact ⟨_, .cons _ (.refl _), q q'⟩
  have et : ticked e = ({ e with tries := e.tries - 1 }, [if e.given.isNone then askL { e with tries := e.tries - 1 } else bareL { e with tries := e.tries - 1 } .here]) := by
    unfold ticked
    rw [if_neg (by rw [hc]; exact Bool.false_ne_true), if_neg (of_decide_eq_false h0)]
  rw [et] at q
  refine xs_cons (xs_daug hr (g := fun a b => a - b) in_sub (fun _ _ _ => rfl) (xe_name (i := 1) rfl (xe_str ⟨p, _, _, _, rfl, rfl, List.mem_cons_self, kv_tries _ e, by rw [kv_len]; decide, xe_int ⟨1, _, rfl, .here, ?_⟩⟩)))
  rw [put_tries]
  refine xs_one (xs_ret (xe_tup (xa_cons (xe_call DE hr gE (xa_cons (xe_name (i := 1) rfl (xa_nil ?_)))))))
  refine ⟨[_], [], .refl _, p, tStand e, { e with tries := e.tries - 1 }, rfl, ok_stand e, stand_closed e, rfl, xa_cons (xe_lst (xa_cons ?_))⟩
  refine xe_if (xt_cm (xc_isN (xe_dget hr (xe_name (i := 1) rfl (xe_str ⟨p, _, _, _, rfl, List.mem_cons_self, rfl, kv_given _ _, .inl ⟨_, rfl, ?_⟩⟩)))))
  have eg : nonB (eOAsk e.given) = e.given.isNone := by cases e.given <;> rfl
  show (nonB (eOAsk e.given) = true → _) ∧ (nonB (eOAsk e.given) = false → _)
  rw [eg]
  refine ⟨fun hg => ?_, fun hg => ?_⟩
  · rw [if_pos hg] at q
    refine xe_call DA hr gA (xa_cons (xe_name (i := 1) rfl (xa_nil ?_)))
    exact ⟨_, [], by rw [List.append_nil], p, _, { e with tries := e.tries - 1 }, rfl, hw, rfl, xa_nil ⟨by simp, fun q' => xa_nil ⟨by simp, _, .cons_cons _ (List.nil_sublist _), q q'⟩⟩⟩
  · rw [if_neg (by rw [hg]; exact Bool.false_ne_true)] at q
    refine xe_callD DW hr gW (xa_cons (xe_name (i := 1) rfl (xa_cons (xe_str (xa_nil ?_)))))
    exact ⟨_, [], by rw [List.append_nil], p, _, { e with tries := e.tries - 1 }, .here, 0, [], rfl, rfl, xa_nil ⟨by simp, fun q' => xa_nil ⟨by simp, _, .cons_cons _ (List.nil_sublist _), q q'⟩⟩⟩
end
end Wk

/-! text Wk5 -/
/-! The walk: what is said, answers. -/
namespace Wk
open PySem PySem.Spec PyProof.Rows L2 Ds Cw
def sArePairs : Sc := fun args μ Q => ∃ a : Ask, args = [.d (eAsk a)] ∧ a.length ≤ 1000 ∧ (∀ p ∈ a, PairOk p) ∧ μ = [] ∧ Q (.d (.bool true)) []
def sIsSaid : Sc := fun args μ Q => ∃ (x : Str) (a : Ask), args = [.d (.tuple [.str x, eAsk a])] ∧ a.length ≤ 1000 ∧ (∀ p ∈ a, PairOk p) ∧ μ = [] ∧ Q (.d (.bool true)) []
def sKindsIn : Sc := fun args μ Q => ∃ a : Ask, args = [.d (eAsk a)] ∧ a.length ≤ 1000 ∧ μ = [] ∧ ∀ p, Q (.r (.ref p)) [(p, .lst (a.map fun p => .d (.str p.1)))]
def BdOk (b : Bounds) : Prop := (b.map (·.1)).Nodup ∧ b.length ≤ 1000 ∧ ∀ p ∈ b, KOk p.1 ∧ p.2 ≠ []
def sAnswer : Sc := fun args μ Q => ∃ (b : Bounds) (a : Ask), args = [.d (ePlan b), .d (eAsk a)] ∧ BdOk b ∧ a.length ≤ 1000 ∧ (∀ p ∈ a, KOk p.1) ∧ μ = [] ∧ Q (.d (.tuple [.str (tWd (answer b a).1), eAsk (answer b a).2])) []
/-! ### tables of plans -/
def kvB (b : List (Str × List Int)) : List (Str × Rv) := b.map fun p => (p.1, .d (eInts p.2))
theorem dput_new {x : Str} {r : Rv} {l : List (Str × Rv)} (h : x ∉ l.map (·.1)) : dput l x r = l ++ [(x, r)] := by
  unfold dput
  rw [if_neg]
  intro z
  obtain ⟨q, hq, e⟩ := List.any_eq_true.mp z
  exact h (List.mem_map.mpr ⟨q, hq, of_decide_eq_true e⟩)
theorem dmerge_nodup : ∀ (m l : List (Str × Rv)), ((l ++ m).map (·.1)).Nodup → dmerge l m = l ++ m
  | [], l, _ => by rw [List.append_nil]; rfl
  | p :: m, l, h => by
    have e : l ++ p :: m = (l ++ [p]) ++ m := by simp
    have hp : p.1 ∉ l.map (·.1) := by
      rw [List.map_append, List.map_cons, List.nodup_append] at h
      exact fun z => h.2.2 _ z _ List.mem_cons_self rfl
    show dmerge (dput l p.1 p.2) m = _
    rw [dput_new hp, dmerge_nodup m (l ++ [(p.1, p.2)]) (by rw [← e]; exact h), e]
theorem kvB_merge {b : List (Str × List Int)} (h : (b.map (·.1)).Nodup) : dmerge [] (kvB b) = kvB b := by
  rw [dmerge_nodup]
  · rfl
  · unfold kvB
    rw [List.nil_append, List.map_map]
    exact h
theorem kvB_get (b : List (Str × List Int)) (x : Str) : dk (kvB b) x = (lk b x).map fun l => .d (eInts l) := by
  unfold dk lk kvB
  rw [List.find?_map, Option.map_map, Option.map_map]
  rfl
theorem prs_plan : ∀ b : List (Str × List Int), Prs ((b.map eEntry).map Rv.d) (kvB b)
  | [] => .nil
  | p :: b => .cons (.d p.1 (eInts p.2)) (prs_plan b)
theorem prs_ask : ∀ a : Ask, Prs ((a.map eP).map Rv.d) (a.map fun p => (p.1, .d (.int p.2)))
  | [] => .nil
  | p :: b => .cons (.d p.1 (.int p.2)) (prs_ask b)
theorem lk_mem {α : Type} {l : List (Str × α)} {k : Str} {v : α} (h : lk l k = some v) : (k, v) ∈ l := by
  unfold lk at h
  cases e : l.find? fun p => decide (p.1 = k) with
  | none => rw [e] at h; cases h
  | some p =>
    rw [e] at h
    cases h
    have h2 : decide (p.1 = k) = true := List.find?_some (p := fun p : Str × α => decide (p.1 = k)) e
    have := of_decide_eq_true h2
    subst this
    exact List.mem_of_find?_eq_some e
section
variable {P : Program} {w : World} {K : PySem.W.Frag} {mg : Str → Option Value} {base : Heap} {f : Addr} {fd : FuncData} {k : Nat} {kws : List (Str × V)}
theorem sc_are_pairs : FnScope ["thing", "one"] ["thing"] (defScope (top 41)) := ⟨rfl, rfl, rfl, by decide +kernel, rfl, by decide +kernel, by decide +kernel⟩
theorem d_are_pairs (g : Gm mg) (F : FnP K "are_pairs" (top 41) f fd) {fP : Addr} (DP : Df P w K mg base k fP ["thing"] sIsPair) (gP : mg "is_pair" = some (.ref fP)) : Df P w K mg base (k + 1) f ["thing"] sArePairs := by
  have nd := sc_are_pairs.nd
  refine df_by F sc_are_pairs (fun _ _ _ _ _ _ us hl => match us, hl with | [_], _ => rfl) (fun args μ Q ⟨_, e, _⟩ => by rw [e]; rfl) fun cdv A outer s H E hr F args μ Q h => ?_
  obtain ⟨a, rfl, hl, hp, rfl, q⟩ := h
  refine xs_one (xs_ret ?_)
  refine xe_andT (xe_isi g.b_isinstance g.b_tuple (T := "tuple") (by decide +kernel) (xe_name (i := 0) rfl ⟨"tuple", true, rfl, by decide, rfl, ?_⟩))
  refine xe_one (xe_all g.b_all (xa_cons ?_))
  refine xe_map a (fun p => .d (eP p)) (fun _ => .d (.bool true)) nd (own := [("one", 1)]) (by kernel_rfl) ?_
  refine xi_tup (xe_name (i := 0) rfl ⟨trivial, _, .tup _, by rw [List.map_map]; rfl, trivial, by omega, fun y hy F' s H C cl fp => ?_, fun p => ?_⟩)
  · refine xg_name (i := 1) (fun s H C cl fp => ?_) nd
    refine xe_call DP hr gP (xa_cons (xe_name (i := 1) rfl (xa_nil ⟨[], [], .nil, y, rfl, hp y hy, rfl, rfl, .refl _⟩)))
  · refine xa_nil ⟨p, a.map fun _ => true, rfl, by rw [List.map_map]; exact List.mem_cons_self, ?_⟩
    rw [all_true]
    exact ⟨[], List.nil_sublist _, q⟩
theorem sc_is_said : FnScope ["thing"] ["thing"] (defScope (top 42)) := ⟨rfl, rfl, rfl, by decide +kernel, rfl, by decide +kernel, by decide +kernel⟩
theorem d_is_said (g : Gm mg) (F : FnP K "is_said" (top 42) f fd) {fT : Addr} (T : Df P w K mg base k fT ["thing", "least", "most"] sIsTuple) (gT : mg "is_tuple" = some (.ref fT)) {fP : Addr} (DP : Df P w K mg base k fP ["thing"] sArePairs) (gP : mg "are_pairs" = some (.ref fP)) : Df P w K mg base (k + 1) f ["thing"] sIsSaid := by
  refine df_by F sc_is_said (fun _ _ _ _ _ _ us hl => match us, hl with | [_], _ => rfl) (fun args μ Q ⟨_, _, e, _⟩ => by rw [e]; rfl) fun cdv A outer s H E hr F args μ Q h => ?_
  obtain ⟨x, a, rfl, hl, hp, rfl, q⟩ := h
  refine xs_one (xs_ret ?_)
  refine xe_andT (xe_call T hr gT (xa_cons (xe_name (i := 0) rfl (xa_cons (xe_int (xa_cons (xe_int (xa_nil ⟨[], [], .nil, _, _, _, rfl, Int.le_refl 2, Int.le_refl 2, rfl, rfl, ?_⟩))))))))
  refine xe_andT (xe_isi g.b_isinstance g.b_str (T := "str") (by decide +kernel) (xe_ix (xe_name (i := 0) rfl (xe_int ⟨_, 0, .d (.str x), .tup _, rfl, rfl, "str", true, rfl, by decide, rfl, ?_⟩))))
  exact xe_one (xe_call DP hr gP (xa_cons (xe_ix (xe_name (i := 0) rfl (xe_int ⟨_, 1, .d (eAsk a), .tup _, rfl, rfl, xa_nil ⟨[], [], .nil, a, rfl, hl, hp, rfl, _, .refl _, q⟩⟩)))))
theorem sc_kinds_in : FnScope ["pairs", "kind", "worth"] ["pairs"] (defScope (top 43)) := ⟨rfl, rfl, rfl, by decide +kernel, rfl, by decide +kernel, by decide +kernel⟩
theorem d_kinds_in (F : FnP K "kinds_in" (top 43) f fd) : Df P w K mg base (k + 1) f ["pairs"] sKindsIn := by
  have nd := sc_kinds_in.nd
  refine df_by F sc_kinds_in (fun _ _ _ _ _ _ us hl => match us, hl with | [_], _ => rfl) (fun args μ Q ⟨_, e, _⟩ => by rw [e]; rfl) fun cdv A outer s H E hr F args μ Q h => ?_
  obtain ⟨a, rfl, hl, rfl, q⟩ := h
  refine xs_one (xs_ret ?_)
  refine xe_map a (fun p => .d (eP p)) (fun p => .d (.str p.1)) nd (own := [("kind", 1), ("worth", 2)]) (by kernel_rfl) ?_
  refine xi_tup (xe_name (i := 0) rfl ⟨trivial, _, .tup _, by rw [List.map_map]; rfl, trivial, by omega, fun y hy F' s H C cl fp => ?_, fun p => ⟨_, .refl _, q p⟩⟩)
  refine xg_tupD (xgs_cons (xg_name (i := 1) (xgs_cons (xg_name (i := 2) (xgs_nil fun s H C cl fp => ?_) nd)) nd))
  exact xe_name (i := 1) rfl ⟨rfl, .refl _⟩
theorem sc_answer : FnScope ["bounds", "ask", "known", "strange", "others", "pair", "kind", "worth"] ["bounds", "ask"] (defScope (top 44)) := ⟨rfl, rfl, rfl, by decide +kernel, rfl, by decide +kernel, by decide +kernel⟩
theorem d_answer (gD : mg "dict" = none) (gT : mg "tuple" = none) (F : FnP K "answer" (top 44) f fd) : Df P w K mg base (k + 1) f ["bounds", "ask"] sAnswer := by
  have nd := sc_answer.nd
  refine df_by F sc_answer (fun _ _ _ _ _ _ us hl => match us, hl with | [_, _], _ => rfl) (fun args μ Q ⟨_, _, e, _⟩ => by rw [e]; rfl) fun cdv A outer s H E hr F args μ Q h => ?_
  obtain ⟨b, a, rfl, ⟨bn, bl, bk⟩, al, ak, rfl, q⟩ := h
  refine xs_cons (xs_set (i := 2) (xe_dictP gD (xa_cons (xe_name (i := 0) rfl (xa_nil ⟨_, _, kvB b, rfl, .tup _, .inl trivial, prs_plan b, fun p => ?_⟩)))) nd)
  rw [kvB_merge bn]
  -- strange
  refine xs_cons (xs_set (i := 3) (XE.to (r0 := .d (eAsk (strange b a))) (μ0 := [(p, .dic (kvB b))]) ?_ ?_) nd)
  · refine xe_tupleD gT (xa_cons ?_)
    refine xe_mapF a (fun p => .d (eP p)) (fun p => .d (eP p)) (fun p => (lk b p.1).isNone) nd (own := [("pair", 5)]) (by kernel_rfl) ?_
    refine xi_tup (xe_name (i := 1) rfl ⟨trivial, _, .tup _, by rw [List.map_map]; rfl, trivial, by omega, fun y hy F' s H C cl fp => ?_, fun p2 => ?_⟩)
    · refine xg_name (i := 5) (fun s H C cl fp => ?_) nd
      refine xt_cm (xc_dnotin hr (xe_ix (xe_name (i := 5) rfl (xe_int ⟨_, 0, .d (.str y.1), .tup _, rfl, rfl, xe_name (i := 2) rfl ⟨p, _, y.1, rfl, List.mem_cons_self, rfl, ?_, fun _ s H C cl fp => xe_name (i := 5) rfl ⟨rfl, .refl _⟩, fun _ => .refl _⟩⟩))))
      rw [kvB_get]
      show _ = (lk b y.1).isNone
      cases lk b y.1 <;> rfl
    · refine xa_nil ⟨p2, (strange b a).map eP, rfl, ?_, rfl, .cons _ (.refl _)⟩
      rw [List.map_map]
      exact List.mem_cons_self
  have sk : ∀ z ∈ strange b a, KOk z.1 := fun z hz => ak z (List.mem_filter.mp hz).1
  refine xs_cons (xs_if (xt_cm (xc_ne hr (xe_name (i := 3) rfl (xe_tupD (xa_nil ⟨[], rfl, by simp, _, _, .d _, .d _, (sh_ask sk).ok (by decide), sh_nil.ok (by decide), ?_⟩))))))
  rw [eqv_ask0]
  refine ⟨fun h1 => ?_, fun h1 => xs_nil ?_⟩
  · refine xs_one (xs_ret (xe_tupD (xa_cons (xe_str (xa_cons (xe_name (i := 3) rfl (xa_nil ⟨[.str "no", eAsk (strange b a)], rfl, by simp, [], List.nil_sublist _, ?_⟩)))))))
    have ea : answer b a = (.no, strange b a) := by
      unfold answer
      rw [if_pos (fun z => by rw [z] at h1; cases h1)]
    rw [ea] at q
    exact q
  have es : strange b a = [] := by
    cases hs : strange b a with
    | nil => rfl
    | cons x r => rw [hs] at h1; cases h1
  have there : ∀ z ∈ a, ∃ l, lk b z.1 = some l := fun z hz => by
    cases hl : lk b z.1 with
    | some l => exact ⟨l, rfl⟩
    | none =>
      have : z ∈ strange b a := List.mem_filter.mpr ⟨hz, by rw [hl]; rfl⟩
      rw [es] at this
      cases this
  refine xs_cons (xs_set (i := 4) (XE.to (r0 := .d (eAsk (others b a))) (μ0 := [(p, .dic (kvB b))]) ?_ ?_) nd)
  · refine xe_tupleD gT (xa_cons ?_)
    refine xe_mapF a (fun p => .d (eP p)) (fun p => .d (eP (p.1, ((lk b p.1).getD []).headD 0))) (fun p => !decide (p.2 ∈ (lk b p.1).getD [])) nd (own := [("kind", 6), ("worth", 7)]) (by kernel_rfl) ?_
    refine xi_tup (xe_name (i := 1) rfl ⟨trivial, _, .tup _, by rw [List.map_map]; rfl, trivial, by omega, fun y hy F' s H C cl fp => ?_, fun p2 => ?_⟩)
    · obtain ⟨l, hl⟩ := there y hy
      have hne := (bk _ (lk_mem hl)).2
      refine xg_tupD (xgs_cons (xg_name (i := 6) (xgs_cons (xg_name (i := 7) (xgs_nil fun s H C cl fp => ?_) nd)) nd))
      have hd : dk (kvB b) y.1 = some (.d (eInts l)) := by rw [kvB_get, hl]; rfl
      refine xt_cm (xc_notin hr (xe_name (i := 7) rfl (xe_dget hr (xe_name (i := 2) rfl (xe_name (i := 6) rfl ⟨p, _, _, _, rfl, List.mem_cons_self, rfl, hd, ?_⟩)))))
      refine ⟨_, _, .d _, .tup _, (sh_int _).ok (by decide), (sh_ints l).ok (by decide), ?_, fun _ s H C cl fp => ?_, fun _ => .refl _⟩
      · rw [ap_int.mem]
        show _ = !decide (y.2 ∈ (lk b y.1).getD [])
        rw [hl]
        rfl
      · refine xe_tupD (xa_cons (xe_name (i := 6) rfl (xa_cons (xe_ix (xe_dget hr (xe_name (i := 2) rfl (xe_name (i := 6) rfl ⟨p, _, _, _, rfl, List.mem_cons_self, rfl, hd, ?_⟩)))))))
        cases hl2 : l with
        | nil => exact absurd hl2 hne
        | cons x r =>
          refine xe_int ⟨_, 0, .d (.int x), .tup _, rfl, atI_nat (j := 0) rfl, xa_nil ⟨[.str y.1, .int x], rfl, by simp, ?_, .refl _⟩⟩
          show _ = Rv.d (eP (y.1, ((lk b y.1).getD []).headD 0))
          rw [hl, hl2]
          rfl
    · refine xa_nil ⟨p2, (others b a).map eP, rfl, ?_, rfl, .cons _ (.refl _)⟩
      unfold others
      rw [List.map_map, List.map_map]
      exact List.mem_cons_self
  have ok2 : ∀ z ∈ others b a, KOk z.1 := fun z hz => by
    obtain ⟨y, hy, rfl⟩ := List.mem_map.mp hz
    exact ak y (List.mem_filter.mp hy).1
  refine xs_one (xs_ret (xe_if (xt_cm (xc_ne hr (xe_name (i := 4) rfl (xe_tupD (xa_nil ⟨[], rfl, by simp, _, _, .d _, .d _, (sh_ask ok2).ok (by decide), sh_nil.ok (by decide), ?_⟩)))))))
  rw [eqv_ask0]
  refine ⟨fun h2 => ?_, fun h2 => ?_⟩
  · refine xe_tupD (xa_cons (xe_str (xa_cons (xe_name (i := 4) rfl (xa_nil ⟨[.str "rather", eAsk (others b a)], rfl, by simp, [], List.nil_sublist _, ?_⟩)))))
    have ea : answer b a = (.rather, others b a) := by
      unfold answer
      rw [if_neg (fun z => z es), if_pos (fun z => by rw [z] at h2; cases h2)]
    rw [ea] at q
    exact q
  · refine xe_tupD (xa_cons (xe_str (xa_cons (xe_name (i := 1) rfl (xa_nil ⟨[.str "yes", eAsk a], rfl, by simp, [], List.nil_sublist _, ?_⟩)))))
    have eo : others b a = [] := by
      cases hs : others b a with
      | nil => rfl
      | cons x r => rw [hs] at h2; cases h2
    have ea : answer b a = (.yes, a) := by
      unfold answer
      rw [if_neg (fun z => z es), if_neg (fun z => z eo)]
    rw [ea] at q
    exact q
end
end Wk

/-! text Wk6 -/
/-! The walk: refusals, what is left behind. -/
namespace Wk
open PySem PySem.Spec PyProof.Rows L2 Ds Cw
theorem cutR_tail {α : Type} (xs : List α) : cutR xs (some 1) none = xs.tail := by
  unfold cutR
  rw [HT.sIx_none]
  have e : HT.sIx xs.length 0 (some 1) = min 1 xs.length := HT.sIx_nat xs.length 0 1
  rw [e]
  cases xs with
  | nil => rfl
  | cons x r =>
    have : min 1 (x :: r).length = 1 := by simp
    rw [this]
    show r.take ((r.length + 1) - 1) = r
    rw [Nat.add_sub_cancel, List.take_length]
section
variable {X : Cx} {F : Fm} {δ : De} {μ : Mu} {a : Expr} {j : Nat} {p1 p2 pos : Pos} {Q : Rv → Mu → Prop}
/-- t[1:] -/
theorem xe_tailD (h : XE X F δ μ a fun ra μ1 => ∃ ds, ra = .d (.tuple ds) ∧ Q (.d (.tuple ds.tail)) μ1) : XE X F δ μ (.Subscript a (.Slice (some (.Constant (.int 1) j p1)) none none p2) pos) Q := by
  refine XE.data (xe_slT (h.mono fun ra μ1 ⟨ds, e, q⟩ => ?_))
  subst e
  show XE X F δ μ1 _ _
  refine xe_int ⟨1, rfl, ?_⟩
  refine (show Exists _ from ⟨ds.map Rv.d, trivial, .tup _, ?_⟩)
  rw [cutR_tail]
  exact ⟨ds.tail, by rw [List.map_tail], q⟩
theorem xe_tailL (h : XE X F δ μ a fun ra μ1 => ∃ p xs, ra = .r (.ref p) ∧ (p, Ob.lst xs) ∈ μ1 ∧ ∀ p, Q (.r (.ref p)) ((p, .lst xs.tail) :: μ1)) : XE X F δ μ (.Subscript a (.Slice (some (.Constant (.int 1) j p1)) none none p2) pos) Q := by
  refine xe_slL (h.mono fun ra μ1 ⟨p, xs, e, hm, q⟩ => ?_)
  show XE X F δ μ1 _ _
  refine xe_int ⟨1, rfl, ?_⟩
  refine (show Exists _ from ⟨p, xs, e, hm, ?_⟩)
  rw [cutR_tail]
  exact q
end
def sLeftBehind : Sc := fun args μ Q => ∃ (w : Wd) (x : Int) (l : List Int), args = [.d (.str (tWd w)), .d (.int x), .d (eInts l)] ∧ l.length ≤ 1000 ∧ μ = [] ∧ Q (.d (eInts (leftBehind w x l))) []
def sAreRefusals : Sc := fun args μ Q => ∃ (w : Wd) (ps a : Ask), args = [.d (.str (tWd w)), .d (eAsk ps), .d (eAsk a)] ∧ ps.length ≤ 1000 ∧ a.length ≤ 1000 ∧ (∀ p ∈ ps, KOk p.1) ∧ (∀ p ∈ a, KOk p.1) ∧ μ = [] ∧ Q (.d (.bool (areRefusals w ps a))) []
theorem tWd_no : tWd .no = ("no" : Str) := rfl
theorem isNo (w : Wd) : PyData.eqv (.str (tWd w)) (.str ("no" : Str)) = decide (w = .no) := by
  rw [eqv_str, ← tWd_no, wd_inj]
theorem k_no : KOk ("no" : Str) := ok_wd .no
theorem rising_zip : ∀ l : List Nat, ((l.zip l.tail).map fun z => decide (z.1 < z.2)).all id = risingB l
  | [] => rfl
  | [_] => rfl
  | a :: b :: r => by
    have ih := rising_zip (b :: r)
    show (decide (a < b) && (((b :: r).zip r).map fun z => decide (z.1 < z.2)).all id) = _
    have ih2 : (((b :: r).zip r).map fun z => decide (z.1 < z.2)).all id = risingB (b :: r) := ih
    rw [ih2]
    rfl
theorem findIdx_at {ks : List Str} {x : Str} (h : x ∈ ks) : ks[ks.findIdx fun j => decide (j = x)]? = some x ∧ ∀ m, m < (ks.findIdx fun j => decide (j = x)) → ks[m]? ≠ some x := by
  have hl : (ks.findIdx fun j => decide (j = x)) < ks.length := List.findIdx_lt_length_of_exists ⟨x, h, decide_eq_true rfl⟩
  refine ⟨?_, fun m hm e => ?_⟩
  · rw [List.getElem?_eq_getElem hl]
    have := List.findIdx_getElem (w := hl)
    rw [of_decide_eq_true this]
  · have hm2 : m < ks.length := Nat.lt_trans hm hl
    rw [List.getElem?_eq_getElem hm2] at e
    cases e
    have := List.not_of_lt_findIdx hm
    simp at this
theorem all_map_id {α : Type} (f : α → Bool) (l : List α) : (l.map f).all id = l.all f := by rw [List.all_map]; rfl
section
variable {P : Program} {w : World} {K : PySem.W.Frag} {mg : Str → Option Value} {base : Heap} {f : Addr} {fd : FuncData} {k : Nat} {kws : List (Str × V)}
theorem sc_left_behind : FnScope ["word", "worth", "left", "rest", "one"] ["word", "worth", "left"] (defScope (top 46)) := ⟨rfl, rfl, rfl, by decide +kernel, rfl, by decide +kernel, by decide +kernel⟩
theorem d_left_behind (gT : mg "tuple" = none) (F : FnP K "left_behind" (top 46) f fd) : Df P w K mg base (k + 1) f ["word", "worth", "left"] sLeftBehind := by
  have nd := sc_left_behind.nd
  refine df_by F sc_left_behind (fun _ _ _ _ _ _ us hl => match us, hl with | [_, _, _], _ => rfl) (fun args μ Q ⟨_, _, _, e, _⟩ => by rw [e]; rfl) fun cdv A outer s H E hr F args μ Q h => ?_
  obtain ⟨wd, x, l, rfl, hl, rfl, q⟩ := h
  refine xs_cons (xs_if (xt_cm (xc_eq hr (xe_name (i := 0) rfl (xe_str ⟨_, _, .d _, .d _, (sh_str (ok_wd wd)).ok (by decide), (sh_str k_no).ok (by decide), ?_⟩)))))
  rw [isNo]
  refine ⟨fun h1 => ?_, fun h1 => xs_nil ?_⟩
  · refine xs_one (xs_ret (xe_tupD (xa_nil ⟨[], rfl, by simp, [], List.nil_sublist _, ?_⟩)))
    unfold leftBehind at q
    rw [if_pos (of_decide_eq_true h1)] at q
    exact q
  unfold leftBehind at q
  rw [if_neg (of_decide_eq_false h1)] at q
  refine xs_cons (xs_set (i := 3) (xe_tailD (xe_name (i := 2) rfl ⟨_, rfl, ?_⟩)) nd)
  have et : (l.map PyData.int).tail = l.tail.map PyData.int := by rw [List.map_tail]
  rw [et]
  refine xs_cons (xs_if (xt_cm (xc_notin hr (xe_name (i := 1) rfl (xe_name (i := 3) rfl ⟨_, _, .d _, .tup _, (sh_int _).ok (by decide), (sh_ints l.tail).ok (by decide), ?_⟩)))))
  rw [ap_int.mem]
  refine ⟨fun h2 => ?_, fun h2 => xs_nil ?_⟩
  · have h2' : ¬ x ∈ l.tail := by simpa using h2
    rw [if_neg h2'] at q
    exact xs_one (xs_ret (xe_name (i := 3) rfl ⟨[], .refl _, q⟩))
  have h2' : x ∈ l.tail := by simpa using h2
  rw [if_pos h2'] at q
  refine xs_one (xs_ret (XE.data (xe_cat (xe_tupD (xa_cons (xe_name (i := 1) rfl (xa_nil ⟨[.int x], rfl, by simp, ?_⟩)))))))
  refine xe_tupleD gT (xa_cons ?_)
  refine xe_mapF l.tail (fun y => .d (.int y)) (fun y => .d (.int y)) (fun y => !decide (y = x)) nd (own := [("one", 4)]) (by kernel_rfl) ?_
  have ll : l.tail.length ≤ 1000 := by rw [List.length_tail]; omega
  refine xi_tup (xe_name (i := 3) rfl ⟨trivial, _, .tup _, by rw [List.map_map]; rfl, trivial, by omega, fun y hy F' s H C cl fp => ?_, fun p2 => ?_⟩)
  · refine xg_name (i := 4) (fun s H C cl fp => ?_) nd
    refine xt_cm (xc_ne hr (xe_name (i := 4) rfl (xe_name (i := 1) rfl ⟨_, _, .d _, .d _, (sh_int _).ok (by decide), (sh_int _).ok (by decide), ?_, fun _ s H C cl fp => xe_name (i := 4) rfl ⟨rfl, .refl _⟩, fun _ => .refl _⟩)))
    rw [eqv_int]
  · refine xa_nil ⟨p2, (l.tail.filter fun y => !decide (y = x)).map PyData.int, rfl, ?_, ?_⟩
    · rw [List.map_map]
      exact List.mem_cons_self
    · have fl : (l.tail.filter fun y => !decide (y = x)).length ≤ l.tail.length := List.length_filter_le _ _
      refine ⟨_, _, trivial, .tup _, trivial, .tup _, by simp only [List.length_map, List.length_cons, List.length_nil]; omega, ?_⟩
      refine ⟨(x :: l.tail.filter fun y => !decide (y = x)).map PyData.int, ?_, [], List.nil_sublist _, q⟩
      rfl
theorem sc_are_refusals : FnScope ["word", "pairs", "ask", "kinds", "places", "kind", "place", "later", "pair"] ["word", "pairs", "ask"] (defScope (top 45)) := ⟨rfl, rfl, rfl, by decide +kernel, rfl, by decide +kernel, by decide +kernel⟩
theorem d_are_refusals (gA : mg "all" = none) (gZ : mg "zip" = none) (F : FnP K "are_refusals" (top 45) f fd) {fI : Addr} (DI : Df P w K mg base k fI ["pairs"] sKindsIn) (gI : mg "kinds_in" = some (.ref fI)) : Df P w K mg base (k + 1) f ["word", "pairs", "ask"] sAreRefusals := by
  have nd := sc_are_refusals.nd
  refine df_by F sc_are_refusals (fun _ _ _ _ _ _ us hl => match us, hl with | [_, _, _], _ => rfl) (fun args μ Q ⟨_, _, _, e, _⟩ => by rw [e]; rfl) fun cdv A outer s H E hr F args μ Q h => ?_
  obtain ⟨wd, ps, a, rfl, pl, al, pk, ak, rfl, q⟩ := h
  refine xs_cons (xs_set (i := 3) (xe_call DI hr gI (xa_cons (xe_name (i := 2) rfl (xa_nil ⟨[], [], .nil, a, rfl, al, rfl, fun p => ?_⟩)))) nd)
  have ek : (a.map fun p => Rv.d (.str p.1)) = (a.map (·.1)).map fun b => Rv.d (.str b) := by rw [List.map_map]; rfl
  have ek2 : ((a.map (·.1)).map fun b => Rv.d (.str b)) = ((a.map (·.1)).map PyData.str).map Rv.d := by simp only [List.map_map]; rfl
  rw [ek]
  have kk : ∀ x ∈ a.map (·.1), KOk x := fun x hx => by
    obtain ⟨z, hz, rfl⟩ := List.mem_map.mp hx
    exact ak z hz
  generalize hks : a.map (·.1) = ks at ek ek2 kk ⊢
  have shk : Sh 1 (.tuple (ks.map PyData.str)) := sh_map fun x hx => sh_str (kk x hx)
  have dec : areRefusals wd ps a = (((!ps.isEmpty && (ps.all fun p => decide (p.1 ∈ ks))) && risingB (places ks (ps.map (·.1)))) && ps.all fun p => decide (p ∈ a) == decide (wd = .no)) := by
    unfold areRefusals
    rw [hks]
  refine xs_cons (xs_if (xt_w (xw_or (xt_cm (xc_eq hr (xe_name (i := 1) rfl (xe_tupD (xa_nil ⟨[], rfl, by simp, _, _, .d _, .d _, (sh_ask pk).ok (by decide), sh_nil.ok (by decide), ?_⟩))))))))
  rw [eqv_ask0]
  refine ⟨fun h1 => ⟨fun _ => ?_, (fun z => by cases z)⟩, fun h1 => xw_or1 (xt_not (xt_val (xe_all gA (xa_cons ?_))))⟩
  · have : areRefusals wd ps a = false := by rw [dec, h1]; rfl
    rw [this] at q
    exact xs_one (xs_ret (xe_bl ⟨[], List.nil_sublist _, q⟩))
  refine xe_map ps (fun y => .d (.str y.1)) (fun y => .d (.bool (decide (y.1 ∈ ks)))) nd (own := [("kind", 5)]) (by kernel_rfl) ?_
  refine xi_lst (xe_call DI hr gI (xa_cons (xe_name (i := 1) rfl (xa_nil ⟨[], [_], .refl _, ps, rfl, pl, rfl, fun p2 => ?_⟩))))
  refine ⟨p2, _, rfl, List.mem_cons_self, rfl, List.mem_cons_self, by omega, fun y hy F' s H C cl fp => ?_, fun p3 => ?_⟩
  · refine xg_name (i := 5) (fun s H C cl fp => ?_) nd
    refine xe_cm (xc_in hr (xe_name (i := 5) rfl (xe_name (i := 3) rfl ⟨_, ks.map PyData.str, .d _, .lst ?_, (sh_str (pk y hy)).ok (by decide), shk.ok (by decide), ?_, .refl _⟩)))
    · rw [← ek2]
      exact List.mem_cons_of_mem _ List.mem_cons_self
    · rw [ap_str.mem]
  refine xa_nil ⟨p3, ps.map fun y => decide (y.1 ∈ ks), rfl, by rw [List.map_map]; exact List.mem_cons_self, ?_⟩
  rw [all_map_id]
  refine ⟨_, rfl, fun h2 => ?_, fun h2 => xs_nil ?_⟩
  · have h2' : (ps.all fun p => decide (p.1 ∈ ks)) = false := by simpa using h2
    have : areRefusals wd ps a = false := by rw [dec, h2', Bool.and_false]; rfl
    rw [this] at q
    exact xs_one (xs_ret (xe_bl ⟨[], List.nil_sublist _, q⟩))
  have h2' : (ps.all fun p => decide (p.1 ∈ ks)) = true := by simpa using h2
  refine XSs.at_ (.cons _ (.cons _ (.refl _))) ?_
  refine xs_cons (xs_setMap (i := 4) ps (fun y => .d (.str y.1)) (fun y => .d (.int ((ks.findIdx fun j => decide (j = y.1) : Nat)))) nd (own := [("kind", 5)]) (by kernel_rfl) ?_)
  refine xi_lst (xe_call DI hr gI (xa_cons (xe_name (i := 1) rfl (xa_nil ⟨[], [_], .refl _, ps, rfl, pl, rfl, fun p2 => ?_⟩))))
  refine ⟨p2, _, rfl, List.mem_cons_self, rfl, List.mem_cons_self, by omega, fun y hy F' s H C cl fp => ?_, fun p3 => ?_⟩
  · refine xg_name (i := 5) (fun s H C cl fp => ?_) nd
    have hin : y.1 ∈ ks := of_decide_eq_true (List.all_eq_true.mp h2' y hy)
    obtain ⟨f1, f2⟩ := findIdx_at hin
    exact xe_index (xe_name (i := 3) rfl ⟨p, _, rfl, List.mem_cons_of_mem _ List.mem_cons_self, xe_name (i := 5) rfl ⟨ks, y.1, _, rfl, List.mem_cons_of_mem _ List.mem_cons_self, f1, f2, rfl, .refl _⟩⟩)
  have epl : (ps.map fun y => Rv.d (.int ((ks.findIdx fun j => decide (j = y.1) : Nat)))) = (places ks (ps.map (·.1))).map fun n : Nat => Rv.d (.int (n : Nat)) := by
    unfold places
    rw [List.map_map, List.map_map]
    rfl
  rw [epl]
  have lpl : (places ks (ps.map (·.1))).length ≤ 1000 := by unfold places; rw [List.length_map, List.length_map]; exact pl
  generalize hpl : places ks (ps.map (·.1)) = L at epl lpl dec ⊢
  refine xs_cons (xs_if (xt_not (xt_val (xe_all gA (xa_cons ?_)))))
  refine xe_map (L.zip L.tail) (fun z => .z [.d (.int (z.1 : Nat)), .d (.int (z.2 : Nat))]) (fun z => .d (.bool (decide (z.1 < z.2)))) nd (own := [("place", 6), ("later", 7)]) (by kernel_rfl) ?_
  refine xi_zipL gZ (xe_name (i := 4) rfl (xe_tailL (xe_name (i := 4) rfl ⟨p3, _, rfl, List.mem_cons_self, fun p5 => ?_⟩)))
  refine ⟨p3, _, p5, _, rfl, List.mem_cons_of_mem _ List.mem_cons_self, rfl, List.mem_cons_self, ?_, ⟨List.mem_cons_of_mem _ List.mem_cons_self, List.mem_cons_self⟩, ?_, fun y hy F' s H C cl fp => ?_, fun p6 => ?_⟩
  · rw [← List.map_tail, List.zip_map, List.map_map]
    rfl
  · rw [List.length_zip]
    omega
  · refine xg_z (xgs_cons (xg_name (i := 6) (xgs_cons (xg_name (i := 7) (xgs_nil fun s H C cl fp => ?_) nd)) nd))
    refine xe_cm (xc_lt (xe_name (i := 6) rfl (xe_name (i := 7) rfl ⟨_, _, rfl, rfl, ?_, .refl _⟩)))
    have : decide ((y.1 : Int) < (y.2 : Int)) = decide (y.1 < y.2) := by
      by_cases h : y.1 < y.2
      · rw [decide_eq_true h, decide_eq_true (by omega)]
      · rw [decide_eq_false h, decide_eq_false (by omega)]
    rw [this]
  refine xa_nil ⟨p6, (L.zip L.tail).map fun z => decide (z.1 < z.2), rfl, by rw [List.map_map]; exact List.mem_cons_self, ?_⟩
  rw [rising_zip]
  refine ⟨_, rfl, fun h3 => ?_, fun h3 => xs_nil ?_⟩
  · have h3' : risingB L = false := by simpa using h3
    have : areRefusals wd ps a = false := by rw [dec, h3', Bool.and_false]; rfl
    rw [this] at q
    exact xs_one (xs_ret (xe_bl ⟨[], List.nil_sublist _, q⟩))
  have h3' : risingB L = true := by simpa using h3
  refine xs_one (xs_ret (xe_all gA (xa_cons ?_)))
  refine xe_map ps (fun y => .d (eP y)) (fun y => .d (.bool (decide (y ∈ a) == decide (wd = .no)))) nd (own := [("pair", 8)]) (by kernel_rfl) ?_
  refine xi_tup (xe_name (i := 1) rfl ⟨trivial, _, .tup _, by rw [List.map_map]; rfl, trivial, by omega, fun y hy F' s H C cl fp => ?_, fun p7 => ?_⟩)
  · refine xg_name (i := 8) (fun s H C cl fp => ?_) nd
    refine xe_cm (xc_eq hr (xe_cm (xc_in hr (xe_name (i := 8) rfl (xe_name (i := 2) rfl ⟨_, _, .d _, .tup _, (sh_pair (pk y hy)).ok (by decide), (sh_ask ak).ok (by decide), xe_cm (xc_eq hr (xe_name (i := 0) rfl (xe_str ⟨_, _, .d _, .d _, (sh_str (ok_wd wd)).ok (by decide), (sh_str k_no).ok (by decide), ?_⟩)))⟩)))))
    refine ⟨_, _, .d _, .d _, (sh_bool _).ok (by decide), (sh_bool _).ok (by decide), ?_, .refl _⟩
    have hx : ((a.map eP).any fun z => PyData.eqv z (eP y)) = decide (y ∈ a) := by
      rw [ap_pair.mem]
      exact decide_eq_decide.mpr Iff.rfl
    rw [eqv_bool, hx, isNo]
  · refine xa_nil ⟨p7, ps.map fun y => decide (y ∈ a) == decide (wd = .no), rfl, by rw [List.map_map]; exact List.mem_cons_self, ?_⟩
    rw [all_map_id]
    have : areRefusals wd ps a = ps.all fun y => decide (y ∈ a) == decide (wd = .no) := by
      rw [dec, h1, h2', h3']
      rfl
    rw [this] at q
    exact ⟨[], List.nil_sublist _, q⟩
end
end Wk

/-! text Wk7 -/
/-! The walk: letters heard. -/
namespace Wk
open PySem PySem.Spec PyProof.Rows L2 Ds Cw
def sLetterBack : Sc := fun args μ Q => ∃ (l : Letter) (n : Bool), args = [.d (eLetter l), .d (.str (tNm n))] ∧ μ = [] ∧ Q (.d (eLetter (backL n l))) []
def backs (e : Cw.End) (l : Letter) : List Letter := if l.yours = 0 ∨ l.yours ≠ e.turn ∨ l.word = .bye then [] else [backL e.name l]
def sHeardClosed : Sc := fun args μ Q => ∃ (p : Addr) (st : Str) (e : Cw.End) (l : Letter), args = [.r (.ref p), .d (eLetter l)] ∧ μ = [(p, .dic (Kv st e))] ∧ ∀ q, Q (.r (.ref q)) [(q, .lst ((backs e l).map fun l => .d (eLetter l))), (p, .dic (Kv st e))]
def sHeardAsk : Sc := fun args μ Q => ∃ (p : Addr) (st : Str) (e : Cw.End) (l : Letter) (b : Bounds), args = [.r (.ref p), .d (eLetter l), .d (ePlan b)] ∧ BdOk b ∧ l.pairs.length ≤ 1000 ∧ (∀ z ∈ l.pairs, KOk z.1) ∧ (l.number = e.heard → ∃ m, e.last = some m) ∧ μ = [(p, .dic (Kv st e))] ∧
  ∀ q, Q (.r (.ref q)) [(q, .lst ((heardAsk e l b).2.map fun l => .d (eLetter l))), (p, .dic (Kv st (heardAsk e l b).1))]
def unst : Expr → Expr
  | .Starred e _ => e
  | e => e
theorem xg_starU {X : Cx} {F : Fm} {δ : De} {μ : Mu} {tgs : List Expr} {r : Rv} {js : List Nat} {N : De → Mu → Prop} {pos : Pos} {k : Nat} (i : Nat) (xs : List Rv) (hs : IsT r) (hq : Sq μ r xs) (hi : i < tgs.length) (hn : tgs.length ≤ xs.length + 1) (hz : xs.length ≤ 10000)
    (h : ∀ D, XGs X F δ ((D, .lst ((xs.drop i).take (xs.length + 1 - tgs.length))) :: μ) (tgs.map unst) (xs.take i ++ .r (.ref D) :: (xs.drop i).drop (xs.length + 1 - tgs.length)) js N)
    (hc : X.calm = true := by rfl) (hlen : (assignEach tgs X.env).length = tgs.length := by rfl) (hst : (assignEach tgs X.env).findIdx? (·.1) = some i := by rfl) (he : (assignEach tgs X.env).map (·.2) = (assignEach (tgs.map unst) X.env).map (·.2) := by rfl) : XG X F δ μ (.Tuple tgs k pos) r js N :=
  xg_star i (tgs.map unst) xs hs hq hi hn hz h hc hlen hst he
theorem isBye (w : Wd) : PyData.eqv (.str (tWd w)) (.str ("bye" : Str)) = decide (w = .bye) := by
  rw [eqv_str, ← wd_inj]
  rfl
theorem isYes (w : Wd) : PyData.eqv (.str (tWd w)) (.str ("yes" : Str)) = decide (w = .yes) := by
  rw [eqv_str, ← wd_inj]
  rfl
theorem k_bye : KOk ("bye" : Str) := ok_wd .bye
theorem k_yes : KOk ("yes" : Str) := ok_wd .yes
theorem put_heard (st : Str) (e : Cw.End) (n : Int) (t : Option Ask) : dmerge (Kv st e) (dmerge [] [("heard", .d (.int n)), ("took", .d (eOAsk t))]) = Kv st { e with heard := n, took := t } := by kernel_rfl
section
variable {P : Program} {w : World} {K : PySem.W.Frag} {mg : Str → Option Value} {base : Heap} {f : Addr} {fd : FuncData} {k : Nat} {kws : List (Str × V)}
theorem sc_letter_back : FnScope ["letter", "other", "who", "word", "mine", "yours", "number", "pairs"] ["letter", "other"] (defScope (top 49)) := ⟨rfl, rfl, rfl, by decide +kernel, rfl, by decide +kernel, by decide +kernel⟩
theorem d_letter_back (F : FnP K "letter_back" (top 49) f fd) : Df P w K mg base (k + 1) f ["letter", "other"] sLetterBack := by
  have nd := sc_letter_back.nd
  refine df_by F sc_letter_back (fun _ _ _ _ _ _ us hl => match us, hl with | [_, _], _ => rfl) (fun args μ Q ⟨_, _, e, _⟩ => by rw [e]; rfl) fun cdv A outer s H E hr F args μ Q h => ?_
  obtain ⟨l, n, rfl, rfl, q⟩ := h
  refine xs_cons (xs_asg [2, 3, 4, 5, 6, 7] (xe_name (i := 0) rfl ?_))
  refine xg_tupD (xgs_cons (xg_name (i := 2) (xgs_cons (xg_name (i := 3) (xgs_cons (xg_name (i := 4) (xgs_cons (xg_name (i := 5) (xgs_cons (xg_name (i := 6) (xgs_cons (xg_name (i := 7) (xgs_nil ?_) nd)) nd)) nd)) nd)) nd)) nd))
  refine xs_one (xs_ret (xe_tupD ?_))
  refine xa_cons (xe_name (i := 1) rfl (xa_cons (xe_str (xa_cons (xe_name (i := 5) rfl (xa_cons (xe_name (i := 4) rfl ?_)))))))
  refine xa_cons (xe_int (xa_cons (xe_tupD (xa_nil ⟨[], rfl, by simp, xa_nil ?_⟩))))
  exact ⟨[.str (tNm n), .str "bye", .int l.yours, .int l.mine, .int 0, .tuple []], rfl, by simp, [], .refl _, q⟩
theorem sc_heard_closed : FnScope ["known", "letter", "who", "word", "mine", "yours", "rest"] ["known", "letter"] (defScope (top 53)) := ⟨rfl, rfl, rfl, by decide +kernel, rfl, by decide +kernel, by decide +kernel⟩
theorem d_heard_closed (F : FnP K "heard_closed" (top 53) f fd) {fB : Addr} (B : Df P w K mg base k fB ["letter", "other"] sLetterBack) (gB : mg "letter_back" = some (.ref fB)) : Df P w K mg base (k + 1) f ["known", "letter"] sHeardClosed := by
  have nd := sc_heard_closed.nd
  refine df_by F sc_heard_closed (fun _ _ _ _ _ _ us hl => match us, hl with | [_, _], _ => rfl) (fun args μ Q ⟨_, _, _, _, e, _⟩ => by rw [e]; rfl) fun cdv A outer s H E hr F args μ Q h => ?_
  obtain ⟨p, st, e, l, rfl, rfl, q⟩ := h
  refine xs_cons (xs_asg [2, 3, 4, 5, 6] (xe_name (i := 1) rfl ?_))
  refine xg_starU 4 _ (show IsT (.d (eLetter l)) from trivial) (.tup _) (by decide) (by simp) (by simp) fun D => ?_
  refine xgs_cons (xg_name (i := 2) (xgs_cons (xg_name (i := 3) (xgs_cons (xg_name (i := 4) (xgs_cons (xg_name (i := 5) (xgs_cons (xg_name (i := 6) (xgs_nil ?_) nd)) nd)) nd)) nd)) nd)
  refine XSs.at_ (.cons _ (.refl _)) ?_
  refine xs_cons (xs_if (XT.mono (Q := fun k μ1 => k = decide (l.yours = 0 ∨ l.yours ≠ e.turn ∨ l.word = .bye) ∧ μ1 = [(p, .dic (Kv st e))]) ?_ fun k μ1 ⟨ek, em⟩ => ?_))
  · refine xt_w (xw_or (xt_cm (xc_eq hr (xe_name (i := 5) rfl (xe_int ⟨_, _, .d _, .d _, (sh_int _).ok (by decide), (sh_int _).ok (by decide), ?_⟩)))))
    rw [eqv_int]
    refine ⟨fun h1 => ⟨(decide_eq_true (.inl (of_decide_eq_true h1))).symm, rfl⟩, fun h1 => ?_⟩
    have h1' := of_decide_eq_false h1
    refine xw_or (xt_cm (xc_ne hr (xe_name (i := 5) rfl (xe_dget hr (xe_name (i := 0) rfl (xe_str ⟨p, _, _, _, rfl, List.mem_cons_self, rfl, kv_turn st e, _, _, .d _, .d _, (sh_int _).ok (by decide), (sh_int _).ok (by decide), ?_⟩))))))
    rw [eqv_int]
    refine ⟨fun h2 => ⟨(decide_eq_true (.inr (.inl (by simpa using h2)))).symm, rfl⟩, fun h2 => ?_⟩
    have h2' : l.yours = e.turn := by simpa using h2
    refine xw_or1 (xt_cm (xc_eq hr (xe_name (i := 3) rfl (xe_str ⟨_, _, .d _, .d _, (sh_str (ok_wd l.word)).ok (by decide), (sh_str k_bye).ok (by decide), ?_, rfl⟩))))
    rw [isBye]
    refine decide_eq_decide.mpr ⟨fun h => .inr (.inr h), fun h => ?_⟩
    rcases h with h | h | h
    · exact absurd h h1'
    · exact absurd h2' h
    · exact h
  subst ek em
  refine ⟨fun h1 => ?_, fun h1 => xs_nil ?_⟩
  · refine xs_one (xs_ret (xe_lst (xa_nil ⟨by simp, fun q' => ?_⟩)))
    have := q q'
    unfold backs at this
    rw [if_pos (of_decide_eq_true h1)] at this
    exact ⟨_, .refl _, this⟩
  · refine xs_one (xs_ret (xe_lst (xa_cons ?_)))
    refine xe_call B hr gB (xa_cons (xe_name (i := 1) rfl (xa_cons (xe_dget hr (xe_name (i := 0) rfl (xe_str ⟨p, _, _, _, rfl, List.mem_cons_self, rfl, kv_name st e, ?_⟩))))))
    refine xa_nil ⟨[], _, .refl _, l, e.name, rfl, rfl, xa_nil ⟨by simp, fun q' => ?_⟩⟩
    have := q q'
    unfold backs at this
    rw [if_neg (of_decide_eq_false h1)] at this
    exact ⟨_, .refl _, this⟩
theorem sc_heard_ask : FnScope ["known", "letter", "bounds", "ahead", "number", "pairs", "word", "told"] ["known", "letter", "bounds"] (defScope (top 54)) := ⟨rfl, rfl, rfl, by decide +kernel, rfl, by decide +kernel, by decide +kernel⟩
theorem d_heard_ask (F : FnP K "heard_ask" (top 54) f fd) (W : Wr P w K mg base k) {fA : Addr} (DA : Df P w K mg base k fA ["bounds", "ask"] sAnswer) (gA : mg "answer" = some (.ref fA)) : Df P w K mg base (k + 1) f ["known", "letter", "bounds"] sHeardAsk := by
  have nd := sc_heard_ask.nd
  refine df_by F sc_heard_ask (fun _ _ _ _ _ _ us hl => match us, hl with | [_, _, _], _ => rfl) (fun args μ Q ⟨_, _, _, _, _, e, _⟩ => by rw [e]; rfl) fun cdv A outer s H E hr F args μ Q h => ?_
  obtain ⟨p, st, e, l, b, rfl, hb, hl, hk, hlast, rfl, q⟩ := h
  obtain ⟨fW, gW, DW, _⟩ := W.ex
  refine xs_cons (xs_asg [3, 4, 5] (xe_name (i := 1) rfl ?_))
  refine xg_starU 0 _ (show IsT (.d (eLetter l)) from trivial) (.tup _) (by decide) (by simp) (by simp) fun D => ?_
  refine xgs_cons (xg_name (i := 3) (xgs_cons (xg_name (i := 4) (xgs_cons (xg_name (i := 5) (xgs_nil ?_) nd)) nd)) nd)
  refine XSs.at_ (.cons _ (.refl _)) ?_
  refine xs_cons (xs_if (xt_cm (xc_lt (xe_name (i := 4) rfl (xe_dget hr (xe_name (i := 0) rfl (xe_str ⟨p, _, _, _, rfl, List.mem_cons_self, rfl, kv_heard st e, _, _, rfl, rfl, ?_⟩)))))))
  refine ⟨fun h1 => ?_, fun h1 => xs_nil ?_⟩
  · refine xs_one (xs_ret (xe_lst (xa_nil ⟨by simp, fun q' => ?_⟩)))
    have := q q'
    unfold heardAsk at this
    rw [if_pos (of_decide_eq_true h1)] at this
    exact ⟨_, .refl _, this⟩
  have h1' := of_decide_eq_false h1
  refine xs_cons (xs_if (xt_cm (xc_gt (xe_name (i := 4) rfl (xe_dget hr (xe_name (i := 0) rfl (xe_str ⟨p, _, _, _, rfl, List.mem_cons_self, rfl, kv_heard st e, _, _, rfl, rfl, ?_⟩)))))))
  refine ⟨fun h2 => ?_, fun h2 => xs_nil ?_⟩
  · have h2' := of_decide_eq_true h2
    have eh : heardAsk e l b = ({ e with heard := l.number, took := if (answer b l.pairs).1 = .yes then some l.pairs else none, last := some ⟨e.name, (answer b l.pairs).1, e.turn, e.yours, l.number, (answer b l.pairs).2⟩ }, [⟨e.name, (answer b l.pairs).1, e.turn, e.yours, l.number, (answer b l.pairs).2⟩]) := by
      unfold heardAsk
      rw [if_neg h1', if_pos h2']
    rw [eh] at q
    refine xs_cons (xs_asg [6, 7] (xe_call DA hr gA (xa_cons (xe_name (i := 2) rfl (xa_cons (xe_name (i := 5) rfl (xa_nil ?_)))))))
    refine ⟨[], _, .refl _, b, l.pairs, rfl, hb, hl, hk, rfl, ?_⟩
    refine xg_tupD (xgs_cons (xg_name (i := 6) (xgs_cons (xg_name (i := 7) (xgs_nil ?_) nd)) nd))
    generalize answer b l.pairs = z at q ⊢
    refine xs_cons (xs_expr (XE.sub (xe_upd (xe_name (i := 0) rfl ⟨p, _, rfl, List.mem_cons_self, xa_cons ?_⟩))))
    refine xe_disp fun F' => ?_
    refine xe_str ⟨_, rfl, xe_name (i := 4) rfl (xe_str ⟨_, rfl, XE.to (r0 := .d (eOAsk (if z.1 = .yes then some l.pairs else none))) (μ0 := [(p, .dic (Kv st e))]) ?_ ?_⟩)⟩
    · refine xe_if (xt_cm (xc_eq hr (xe_name (i := 6) rfl (xe_str ⟨_, _, .d _, .d _, (sh_str (ok_wd z.1)).ok (by decide), (sh_str k_yes).ok (by decide), ?_⟩))))
      rw [isYes]
      refine ⟨fun h3 => xe_name (i := 5) rfl ⟨?_, .refl _⟩, fun h3 => xe_non ⟨?_, .refl _⟩⟩
      · rw [if_pos (of_decide_eq_true h3)]
        rfl
      · rw [if_neg (of_decide_eq_false h3)]
        rfl
    refine (show ∀ p2, _ from fun p2 => xa_nil ?_)
    refine ⟨p2, Kv st e, _, _, rfl, .inr (.refl _), ?_, .there .here, [(p, .dic (Kv st { e with heard := l.number, took := if z.1 = .yes then some l.pairs else none }))], ?_, ?_⟩
    · exact Nat.le_trans (Nat.add_le_add_left (dmerge_le _ _) _) (by rw [kv_len]; simp)
    · rw [← put_heard]
      exact .cons _ (.refl _)
    refine xs_one (xs_dput hr (xe_callKw DW hr gW ?_))
    refine xa_cons (xe_name (i := 0) rfl (xa_cons (xe_name (i := 6) rfl (xa_nil ?_))))
    refine xk_cons (xe_name (i := 4) rfl (xk_cons (xe_name (i := 7) rfl (xk_nil ⟨rfl, rfl, _, [], by rw [List.append_nil], ?_⟩))))
    refine ⟨p, st, { e with heard := l.number, took := if z.1 = .yes then some l.pairs else none }, z.1, _, _, rfl, rfl, ?_⟩
    refine xe_name (i := 0) rfl (xe_str ⟨p, _, _, _, rfl, rfl, by rw [kv_len]; decide, .here, ?_⟩)
    refine XSs.at_ (μ' := [(p, .dic (Kv st { e with heard := l.number, took := if z.1 = .yes then some l.pairs else none, last := some ⟨e.name, z.1, e.turn, e.yours, l.number, z.2⟩ }))]) ?_ ?_
    · rw [← put_last st { e with heard := l.number, took := if z.1 = .yes then some l.pairs else none } (some ⟨e.name, z.1, e.turn, e.yours, l.number, z.2⟩)]
      exact .refl _
    refine xs_one (xs_ret (xe_lst (xa_cons ?_)))
    refine xe_dget hr (xe_name (i := 0) rfl (xe_str ⟨p, _, _, _, rfl, List.mem_cons_self, rfl, kv_last st _, xa_nil ⟨by simp, fun q' => ?_⟩⟩))
    exact ⟨_, .refl _, q q'⟩
  have h2' := of_decide_eq_false h2
  obtain ⟨m, em⟩ := hlast (by omega)
  have eh : heardAsk e l b = (e, [m]) := by
    unfold heardAsk
    rw [if_neg h1', if_neg h2', em]
    rfl
  rw [eh] at q
  refine xs_one (xs_ret (xe_lst (xa_cons ?_)))
  refine xe_dget hr (xe_name (i := 0) rfl (xe_str ⟨p, _, _, _, rfl, List.mem_cons_self, rfl, kv_last st _, xa_nil ⟨by simp, fun q' => ?_⟩⟩))
  rw [em]
  exact ⟨_, .refl _, q q'⟩
end
end Wk

/-! text Wk8 -/
/-! The walk: a word heard, a letter heard. -/
namespace Wk
open PySem PySem.Spec PyProof.Rows L2 Ds Cw
/-- what hearing asks of an open end, a letter and the bounds -/
structure HOk (e : Cw.End) (l : Letter) (b : Bounds) : Prop where
  ws : WsOk e.wishes
  bd : BdOk b
  len : l.pairs.length ≤ 1000
  prs : ∀ z ∈ l.pairs, PairOk z
  last : l.word = .ask → l.number = e.heard → ∃ m, e.last = some m
  keys : e.plan.map (·.1) = e.wishes.map (·.kind)
  nod : (e.wishes.map (·.kind)).Nodup
  left : ∀ x ∈ e.plan, x.2.length ≤ 1000
  ref : e.refused.length ≤ 30 ∧ ∀ z ∈ e.refused, KOk z.1
  few : e.wishes.length ≤ 30
def StOk (st : Str) (e : Cw.End) : Prop := KOk st ∧ decide (st = "closed") = e.closed
def sHeardAnswer : Sc := fun args μ Q => ∃ (p : Addr) (st : Str) (e : Cw.End) (l : Letter) (b : Bounds), args = [.r (.ref p), .d (eLetter l), .d (.int 3)] ∧ HOk e l b ∧ StOk st e ∧ (l.word = .yes ∨ l.word = .no ∨ l.word = .rather) ∧ μ = [(p, .dic (Kv st e))] ∧
  ∀ q st', StOk st' (heardAnswer e l).1 → Q (.r (.ref q)) [(q, .lst ((heardAnswer e l).2.map fun l => .d (eLetter l))), (p, .dic (Kv st' (heardAnswer e l).1))]
def sHeardWord : Sc := fun args μ Q => ∃ (p : Addr) (st : Str) (e : Cw.End) (l : Letter) (b : Bounds), args = [.r (.ref p), .d (eLetter l), .d (ePlan b), .d (.int 3)] ∧ HOk e l b ∧ StOk st e ∧ μ = [(p, .dic (Kv st e))] ∧
  ∀ q st', StOk st' (heardWord e l b).1 → Q (.r (.ref q)) [(q, .lst ((heardWord e l b).2.map fun l => .d (eLetter l))), (p, .dic (Kv st' (heardWord e l b).1))]
def sHeard : Sc := fun args μ Q => ∃ (e : Cw.End) (l : Letter) (b : Bounds), args = [.d (eEnd e), .d (eLetter l), .d (ePlan b), .d (.int 3)] ∧ l.who ≠ e.name ∧ WsOk e.wishes ∧ (e.closed = false → HOk (learn e l).1 l b) ∧ μ = [] ∧
  ∀ q, Q (.t [.d (eEnd (heard e l b).1), .r (.ref q)]) [(q, .lst ((heard e l b).2.map fun l => .d (eLetter l)))]
theorem isW (w v : Wd) : PyData.eqv (.str (tWd w)) (.str (tWd v)) = decide (w = v) := by rw [eqv_str, wd_inj]
theorem XS.nxm {X : Cx} {F : Fm} {δ : De} {μ : Mu} {st : Stmt} {D : Dn} (N : De → Mu → Prop) (h : XS X F δ μ st { D with nx := N }) (k : ∀ δ' μ', N δ' μ' → D.nx δ' μ') : XS X F δ μ st D := fun σ H lo ow fk pins s I =>
  thn (h σ H lo ow fk pins s I) fun f s' z => sp_mono z (fun _ _ ⟨t, δ', μ', l, o, f, q⟩ => ⟨t, δ', μ', l, o, f, k _ _ q⟩) (fun _ _ q => q) (fun _ _ q => q) (fun _ _ q => q)
theorem heardAsk_closed (e : Cw.End) (l : Letter) (b : Bounds) : (heardAsk e l b).1.closed = e.closed := by
  unfold heardAsk
  split
  · rfl
  · split
    · rfl
    · rfl
theorem heardWord_len (e : Cw.End) (l : Letter) (b : Bounds) : (heardWord e l b).2.length ≤ 1 := by
  have h1 : (heardAsk e l b).2.length ≤ 1 := by
    unfold heardAsk
    split
    · exact Nat.zero_le 1
    · split
      · exact Nat.le_refl 1
      · show e.last.toList.length ≤ 1
        cases e.last with
        | none => exact Nat.zero_le 1
        | some m => exact Nat.le_refl 1
  have h2 : (heardAnswer e l).2.length ≤ 1 := by
    unfold heardAnswer
    split
    · exact Nat.zero_le 1
    · split
      · exact Nat.zero_le 1
      · exact Nat.le_refl 1
      · exact Nat.zero_le 1
      · exact Nat.le_refl 1
  unfold heardWord
  split
  · exact h1
  · exact Nat.zero_le 1
  · exact Nat.le_refl 1
  · exact Nat.zero_le 1
  · exact h2
section
variable {P : Program} {w : World} {K : PySem.W.Frag} {mg : Str → Option Value} {base : Heap} {f : Addr} {fd : FuncData} {k : Nat} {kws : List (Str × V)}
theorem sc_heard_word : FnScope ["known", "letter", "bounds", "tries", "word"] ["known", "letter", "bounds", "tries"] (defScope (top 56)) := ⟨rfl, rfl, rfl, by decide +kernel, rfl, by decide +kernel, by decide +kernel⟩
theorem d_heard_word (F : FnP K "heard_word" (top 56) f fd) (N : En1 P w K mg base k) {fA : Addr} (DA : Df P w K mg base k fA ["known", "letter", "bounds"] sHeardAsk) (gA : mg "heard_ask" = some (.ref fA)) {fB : Addr} (DB : Df P w K mg base k fB ["known", "letter", "tries"] sHeardAnswer) (gB : mg "heard_answer" = some (.ref fB)) :
    Df P w K mg base (k + 1) f ["known", "letter", "bounds", "tries"] sHeardWord := by
  have nd := sc_heard_word.nd
  refine df_by F sc_heard_word (fun _ _ _ _ _ _ us hl => match us, hl with | [_, _, _, _], _ => rfl) (fun args μ Q ⟨_, _, _, _, _, e, _⟩ => by rw [e]; rfl) fun cdv A outer s H E hr F args μ Q h => ?_
  obtain ⟨p, st, e, l, b, rfl, ok, hs, rfl, q⟩ := h
  obtain ⟨fS, gS, _, DS⟩ := N.shut
  obtain ⟨fW, gW, _, DW⟩ := N.wr.ex
  refine xs_cons (xs_set (i := 4) (xe_ix (xe_name (i := 1) rfl (xe_int ⟨_, 1, .d (.str (tWd l.word)), .tup _, rfl, rfl, ?_⟩))) nd)
  refine xs_cons (xs_if (xt_cm (xc_eq hr (xe_name (i := 4) rfl (xe_str ⟨_, _, .d _, .d _, (sh_str (ok_wd l.word)).ok (by decide), (sh_str (ok_wd .ask)).ok (by decide), ?_⟩)))))
  rw [show PyData.eqv (.str (tWd l.word)) (.str ("ask" : Str)) = decide (l.word = .ask) from isW l.word .ask]
  refine ⟨fun h1 => ?_, fun h1 => xs_nil ?_⟩
  · have h1' := of_decide_eq_true h1
    have ew : heardWord e l b = heardAsk e l b := by unfold heardWord; rw [h1']
    rw [ew] at q
    refine xs_one (xs_ret (xe_call DA hr gA (xa_cons (xe_name (i := 0) rfl (xa_cons (xe_name (i := 1) rfl (xa_cons (xe_name (i := 2) rfl (xa_nil ?_)))))))))
    refine ⟨_, [], by rw [List.append_nil], p, st, e, l, b, rfl, ok.bd, ok.len, fun z hz => (ok.prs z hz).1.k, ok.last h1', rfl, fun q' => ?_⟩
    exact ⟨_, .refl _, q q' st ⟨hs.1, by rw [heardAsk_closed]; exact hs.2⟩⟩
  have n1 := of_decide_eq_false h1
  refine xs_cons (xs_if (xt_cm (xc_eq hr (xe_name (i := 4) rfl (xe_str ⟨_, _, .d _, .d _, (sh_str (ok_wd l.word)).ok (by decide), (sh_str (ok_wd .bye)).ok (by decide), ?_⟩)))))
  rw [show PyData.eqv (.str (tWd l.word)) (.str ("bye" : Str)) = decide (l.word = .bye) from isW l.word .bye]
  refine ⟨fun h1 => ?_, fun h1 => xs_nil ?_⟩
  · have h1' := of_decide_eq_true h1
    have ew : heardWord e l b = (shut e "bye", []) := by unfold heardWord; rw [h1']
    rw [ew] at q
    refine xs_one (xs_ret (xe_callKw DS hr gS (xa_cons (xe_name (i := 0) rfl (xa_cons (xe_str (xa_nil ?_)))))))
    refine xk_cons (xe_bl (xk_nil ⟨rfl, rfl, _, [], by rw [List.append_nil], p, st, e, "bye", false, rfl, rfl, fun q' => ?_⟩))
    exact ⟨_, .refl _, q q' "closed" ⟨k_closed, c_closed⟩⟩
  have n2 := of_decide_eq_false h1
  refine xs_cons (xs_if (xt_cm (xc_eq hr (xe_name (i := 4) rfl (xe_str ⟨_, _, .d _, .d _, (sh_str (ok_wd l.word)).ok (by decide), (sh_str (ok_wd .here)).ok (by decide), ?_⟩)))))
  rw [show PyData.eqv (.str (tWd l.word)) (.str ("here" : Str)) = decide (l.word = .here) from isW l.word .here]
  refine ⟨fun h1 => ?_, fun h1 => xs_nil ?_⟩
  · have h1' := of_decide_eq_true h1
    have ew : heardWord e l b = (e, [bareL e .there]) := by unfold heardWord; rw [h1']
    rw [ew] at q
    refine xs_one (xs_ret (xe_lst (xa_cons ?_)))
    refine xe_callD DW hr gW (xa_cons (xe_name (i := 0) rfl (xa_cons (xe_str (xa_nil ?_)))))
    refine ⟨_, [], by rw [List.append_nil], p, st, e, .there, 0, [], rfl, rfl, xa_nil ⟨by simp, fun q' => ?_⟩⟩
    exact ⟨_, .refl _, q q' st hs⟩
  have n3 := of_decide_eq_false h1
  refine xs_cons (xs_if (xt_cm (xc_eq hr (xe_name (i := 4) rfl (xe_str ⟨_, _, .d _, .d _, (sh_str (ok_wd l.word)).ok (by decide), (sh_str (ok_wd .there)).ok (by decide), ?_⟩)))))
  rw [show PyData.eqv (.str (tWd l.word)) (.str ("there" : Str)) = decide (l.word = .there) from isW l.word .there]
  refine ⟨fun h1 => ?_, fun h1 => xs_nil ?_⟩
  · have h1' := of_decide_eq_true h1
    have ew : heardWord e l b = ({ e with tries := 3 }, []) := by unfold heardWord; rw [h1']
    rw [ew] at q
    refine xs_cons (xs_dput hr (xe_name (i := 3) rfl (xe_name (i := 0) rfl (xe_str ⟨p, _, _, _, rfl, rfl, by rw [kv_len]; decide, .here, ?_⟩))))
    rw [put_tries]
    exact xs_one (xs_ret (xe_lst (xa_nil ⟨by simp, fun q' => ⟨_, .refl _, q q' st hs⟩⟩)))
  have n4 := of_decide_eq_false h1
  have three : l.word = .yes ∨ l.word = .no ∨ l.word = .rather := by
    cases hw : l.word with
    | yes => exact .inl rfl
    | no => exact .inr (.inl rfl)
    | rather => exact .inr (.inr rfl)
    | ask => exact absurd hw n1
    | bye => exact absurd hw n2
    | here => exact absurd hw n3
    | there => exact absurd hw n4
  have ew : heardWord e l b = heardAnswer e l := by
    unfold heardWord
    rcases three with h | h | h <;> rw [h]
  rw [ew] at q
  refine xs_one (xs_ret (xe_call DB hr gB (xa_cons (xe_name (i := 0) rfl (xa_cons (xe_name (i := 1) rfl (xa_cons (xe_name (i := 3) rfl (xa_nil ?_)))))))))
  exact ⟨_, [], by rw [List.append_nil], p, st, e, l, b, rfl, ok, hs, three, rfl, fun q' st' hst => ⟨_, .refl _, q q' st' hst⟩⟩
theorem ne_nm {a b : Bool} (h : a ≠ b) : PyData.eqv (.str (tNm a)) (.str (tNm b)) = false := by
  rw [eqv_str, nm_inj]
  exact decide_eq_false h
theorem learn_of (e : Cw.End) (l : Letter) : (e.yours < l.mine → learn e l = (begun { e with yours := l.mine }, [askL (begun { e with yours := l.mine })])) ∧ (¬ e.yours < l.mine → learn e l = (e, [])) := by
  unfold learn
  exact ⟨fun h => by rw [if_pos h], fun h => by rw [if_neg h]⟩
theorem sc_heard : FnScope ["end", "letter", "bounds", "tries", "known", "who", "word", "mine", "yours", "rest", "letters"] ["end", "letter", "bounds", "tries"] (defScope (top 57)) := ⟨rfl, rfl, rfl, by decide +kernel, rfl, by decide +kernel, by decide +kernel⟩
theorem f_heard (F : FnK K "heard" (top 57) kws f fd) (N : En1 P w K mg base k) {fC : Addr} (DC : Df P w K mg base k fC ["known", "letter"] sHeardClosed) (gC : mg "heard_closed" = some (.ref fC)) {fW : Addr} (DW : Df P w K mg base k fW ["known", "letter", "bounds", "tries"] sHeardWord) (gW : mg "heard_word" = some (.ref fW)) :
    FnOk P w K mg base CX0 (k + 1) f fd ["end", "letter", "bounds", "tries"] (spOf K sHeard) := by
  have nd := sc_heard.nd
  refine fn_by F sc_heard (fun args μ Q ⟨_, _, _, e, _⟩ => by rw [e]; rfl) fun cdv A outer s H E hr F args μ Q h => ?_
  obtain ⟨e, l, b, rfl, hwho, hws, hok, rfl, q⟩ := h
  obtain ⟨fK, gK, DK⟩ := N.known
  obtain ⟨fE, gE, DE⟩ := N.as_end
  obtain ⟨fB, gB, DB⟩ := N.begin
  refine xs_cons (xs_set (i := 4) (xe_call DK hr gK (xa_cons (xe_name (i := 0) rfl (xa_nil ⟨[], [], .nil, e, rfl, rfl, fun p => ?_⟩)))) nd)
  refine xs_cons (xs_asg [5, 6, 7, 8, 9] (xe_name (i := 1) rfl ?_))
  refine xg_starU 4 _ (show IsT (.d (eLetter l)) from trivial) (.tup _) (by decide) (by simp) (by simp) fun D => ?_
  refine xgs_cons (xg_name (i := 5) (xgs_cons (xg_name (i := 6) (xgs_cons (xg_name (i := 7) (xgs_cons (xg_name (i := 8) (xgs_cons (xg_name (i := 9) (xgs_nil ?_) nd)) nd)) nd)) nd)) nd)
  refine XSs.at_ (.cons _ (.refl _)) ?_
  refine xs_cons (xs_ifF (xt_cm (xc_eq hr (xe_name (i := 5) rfl (xe_dget hr (xe_name (i := 4) rfl (xe_str ⟨p, _, _, _, rfl, List.mem_cons_self, rfl, kv_name _ e, _, _, .d _, .d _, (sh_str (ok_nm l.who)).ok (by decide), (sh_str (ok_nm e.name)).ok (by decide), ne_nm hwho, xs_nil ?_⟩)))))))
  refine xs_cons (xs_if (xt_cm (xc_eq hr (xe_dget hr (xe_name (i := 4) rfl (xe_str ⟨p, _, _, _, rfl, List.mem_cons_self, rfl, kv_stand _ e, xe_str ⟨_, _, .d _, .d _, (sh_str (ok_stand e)).ok (by decide), (sh_str k_closed).ok (by decide), ?_⟩⟩))))))
  rw [ne_closed]
  refine ⟨fun hc => ?_, fun hc => xs_nil ?_⟩
  · have eh : heard e l b = (e, backs e l) := by
      unfold heard backs
      rw [if_pos hc]
    rw [eh] at q
    refine xs_one (xs_ret (xe_tup (xa_cons (xe_name (i := 0) rfl (xa_cons (xe_call DC hr gC (xa_cons (xe_name (i := 4) rfl (xa_cons (xe_name (i := 1) rfl (xa_nil ?_)))))))))))
    exact ⟨_, [], by rw [List.append_nil], p, _, e, l, rfl, rfl, fun q' => xa_nil ⟨by simp, _, .cons_cons _ (List.nil_sublist _), q q'⟩⟩
  have ok := hok hc
  refine xs_cons (xs_set (i := 10) (xe_lst (xa_nil ⟨by simp, fun q0 => ?_⟩)) nd)
  refine xs_cons (XS.nxm (fun δ' μ' => ∃ q1 st1, StOk st1 (learn e l).1 ∧ δ' = [some (.d (eEnd e)), some (.d (eLetter l)), some (.d (ePlan b)), some (.d (.int 3)), some (.r (.ref p)), some (.d (.str (tNm l.who))), some (.d (.str (tWd l.word))), some (.d (.int l.mine)), some (.d (.int l.yours)), some (.r (.ref D)), some (.r (.ref q1))] ∧
    μ' = [(q1, .lst ((learn e l).2.map fun l => .d (eLetter l))), (p, .dic (Kv st1 (learn e l).1))]) ?_ ?_)
  · refine xs_if (xt_cm (xc_gt (xe_name (i := 7) rfl (xe_dget hr (xe_name (i := 4) rfl (xe_str ⟨p, _, _, _, rfl, List.mem_cons_of_mem _ List.mem_cons_self, rfl, kv_yours _ e, _, _, rfl, rfl, ?_⟩))))))
    refine ⟨fun h1 => ?_, fun h1 => xs_nil ?_⟩
    · have el := (learn_of e l).1 (of_decide_eq_true h1)
      rw [el]
      refine xs_cons (xs_dput hr (xe_name (i := 7) rfl (xe_name (i := 4) rfl (xe_str ⟨p, _, _, _, rfl, rfl, by rw [kv_len]; decide, .there .here, ?_⟩))))
      rw [put_yours]
      refine XSs.at_ (.cons _ (.refl _)) ?_
      refine xs_one (xs_set (i := 10) (xe_call DB hr gB (xa_cons (xe_name (i := 4) rfl (xa_cons (xe_name (i := 3) rfl (xa_nil ?_)))))) nd)
      exact ⟨[_], [], .refl _, p, tStand e, { e with yours := l.mine }, rfl, hws, rfl, fun q1 => ⟨q1, "asking", ⟨k_asking, a_closed⟩, rfl, rfl⟩⟩
    · have el := (learn_of e l).2 (of_decide_eq_false h1)
      rw [el]
      exact ⟨q0, tStand e, ⟨ok_stand e, stand_closed e⟩, rfl, rfl⟩
  rintro δ' μ' ⟨q1, st1, hs1, rfl, rfl⟩
  have eh : heard e l b = if l.mine = (learn e l).1.yours ∧ l.yours = (learn e l).1.turn then ((heardWord (learn e l).1 l b).1, (learn e l).2 ++ (heardWord (learn e l).1 l b).2) else learn e l := by
    unfold heard
    rw [if_neg (by rw [hc]; exact Bool.false_ne_true)]
  rw [eh] at q
  clear eh
  have lz : (learn e l).2.length ≤ 1 := by
    unfold learn
    split
    · exact Nat.le_refl 1
    · exact Nat.zero_le 1
  generalize learn e l = z at q hs1 ok lz ⊢
  refine xs_cons (XS.nxm (fun δ' μ' => ∃ (st2 : Str) (z2 : Cw.End) (ls : List Letter), StOk st2 z2 ∧ δ' = [some (.d (eEnd e)), some (.d (eLetter l)), some (.d (ePlan b)), some (.d (.int 3)), some (.r (.ref p)), some (.d (.str (tNm l.who))), some (.d (.str (tWd l.word))), some (.d (.int l.mine)), some (.d (.int l.yours)), some (.r (.ref D)), some (.r (.ref q1))] ∧
    (∃ μ2 : Mu, μ2.Sublist μ' ∧ (μ2 = [(q1, .lst (ls.map fun l => .d (eLetter l))), (p, .dic (Kv st2 z2))] ∨ μ2 = [(p, .dic (Kv st2 z2)), (q1, .lst (ls.map fun l => .d (eLetter l)))])) ∧ (∀ q', Q (.t [.d (eEnd z2), .r (.ref q')]) [(q', .lst (ls.map fun l => .d (eLetter l)))])) ?_ ?_)
  · refine xs_if (XT.mono (Q := fun k μ1 => k = decide (l.mine = z.1.yours ∧ l.yours = z.1.turn) ∧ μ1 = [(q1, .lst (z.2.map fun l => .d (eLetter l))), (p, .dic (Kv st1 z.1))]) ?_ fun k μ1 ⟨ek, em⟩ => ?_)
    · refine xt_w (xw_and (xt_cm (xc_eq hr (xe_name (i := 7) rfl (xe_dget hr (xe_name (i := 4) rfl (xe_str ⟨p, _, _, _, rfl, List.mem_cons_of_mem _ List.mem_cons_self, rfl, kv_yours _ z.1, _, _, .d _, .d _, (sh_int _).ok (by decide), (sh_int _).ok (by decide), ?_⟩)))))))
      rw [eqv_int]
      refine ⟨fun h1 => ?_, fun h1 => ⟨(decide_eq_false fun h => of_decide_eq_false h1 h.1).symm, rfl⟩⟩
      have h1' := of_decide_eq_true h1
      refine xw_and1 (xt_cm (xc_eq hr (xe_name (i := 8) rfl (xe_dget hr (xe_name (i := 4) rfl (xe_str ⟨p, _, _, _, rfl, List.mem_cons_of_mem _ List.mem_cons_self, rfl, kv_turn _ z.1, _, _, .d _, .d _, (sh_int _).ok (by decide), (sh_int _).ok (by decide), ?_, rfl⟩))))))
      rw [eqv_int]
      exact decide_eq_decide.mpr ⟨fun h => ⟨h1', h⟩, fun h => h.2⟩
    subst ek em
    refine ⟨fun h1 => ?_, fun h1 => xs_nil ?_⟩
    · rw [if_pos (of_decide_eq_true h1)] at q
      refine xs_one (xs_expr (xe_extend (xe_name (i := 10) rfl ⟨q1, _, rfl, List.mem_cons_self, ?_⟩)))
      refine xe_call DW hr gW (xa_cons (xe_name (i := 4) rfl (xa_cons (xe_name (i := 1) rfl (xa_cons (xe_name (i := 2) rfl (xa_cons (xe_name (i := 3) rfl (xa_nil ?_)))))))))
      refine ⟨[_], [_], .swap _ _ _, p, st1, z.1, l, b, rfl, ok, hs1, rfl, fun q2 st2 hst2 => ?_⟩
      refine ⟨q2, _, _, _, rfl, List.mem_cons_self, ?_, .there (.there .here), st2, (heardWord z.1 l b).1, z.2 ++ (heardWord z.1 l b).2, hst2, rfl, ⟨_, ?_, .inr rfl⟩, q⟩
      · rw [List.length_map, List.length_map]
        have := heardWord_len z.1 l b
        omega
      · rw [List.map_append]
        exact .cons _ (.refl _)
    · rw [if_neg (of_decide_eq_false h1)] at q
      exact ⟨st1, z.1, z.2, hs1, rfl, ⟨_, .refl _, .inl rfl⟩, q⟩
  · rintro δ' μ' ⟨st2, z2, ls, hs2, rfl, ⟨μ2, sb, hm⟩, q⟩
    refine XSs.at_ sb ?_
    refine xs_one (xs_ret (xe_tup (xa_cons (xe_call DE hr gE (xa_cons (xe_name (i := 4) rfl (xa_nil ?_)))))))
    refine ⟨[(p, .dic (Kv st2 z2))], [(q1, .lst (ls.map fun l => .d (eLetter l)))], ?_, p, st2, z2, rfl, hs2.1, hs2.2, rfl, xa_cons (xe_name (i := 10) rfl (xa_nil ⟨by simp, ?_⟩))⟩
    · rcases hm with rfl | rfl
      · exact .swap _ _ _
      · exact .refl _
    · exact ⟨_, .cons _ (.refl _), q q1⟩
end
end Wk

/-! text Wk9 -/
/-! The walk: how ends stand. -/
namespace Wk
open PySem PySem.Spec PyProof.Rows L2 Ds Cw
/-- a, b = x, y: plain local names -/
theorem xs_par {X : Cx} {F : Fm} {δ : De} {μ : Mu} {D : Dn} {i j : Nat} {x y : Str} {a b : Expr} {px py pt pt2 pos : Pos} {kt k2 : Nat} (h : XA X F δ μ [a, b] fun rs μ1 => ∃ r1 r2, rs = [r1, r2] ∧ D.nx ((δ.set i (some r1)).set j (some r2)) μ1) (hN : X.N.Nodup)
    (hi : X.N[i]? = some x := by rfl) (hj : X.N[j]? = some y := by rfl) (hij : i ≠ j := by decide) (hx : X.env.scope.names.lookup x = some .local := by rfl) (hy : X.env.scope.names.lookup y = some .local := by rfl)
    (hw : swappedStores [.Tuple [.Name x px, .Name y py] kt pt] (.Tuple [a, b] k2 pt2) X.env = pure (some [x, y]) := by first | rfl | with_unfolding_all rfl | kernel_rfl)
    (hs : swapsWithSole [.Tuple [.Name x px, .Name y py] kt pt] (.Tuple [a, b] k2 pt2) pos.line X.env = pure false := by rfl) (hc : X.calm = true := by rfl) : XS X F δ μ (.Assign [.Tuple [.Name x px, .Name y py] kt pt] (.Tuple [a, b] k2 pt2) pos) D := fun σ H lo ow fk =>
  ws_of (ps_par hc hN hi hj hij hx hy pa_w hw hs) (h.run lo ow fk fun vs H' rs μ' t lo' h1 h2 h3 ⟨r1, r2, e, q⟩ => by
    subst e
    cases h1 with
    | cons g1 g2 =>
      cases g2 with
      | cons g2 g3 =>
        cases g3
        exact ⟨_, _, rfl, t, _, μ', (lo'.set g1 i).set g2 j, h2, h3, q⟩)
def sGivenTo : Sc := fun args μ Q => ∃ e : Cw.End, args = [.d (eEnd e)] ∧ μ = [] ∧ Q (.d (eOAsk e.given)) []
def sTookBy : Sc := fun args μ Q => ∃ e : Cw.End, args = [.d (eEnd e)] ∧ μ = [] ∧ Q (.d (eOAsk e.took)) []
def sIsPlace : Sc := fun args μ Q => ∃ n : Int, args = [.d (.int n)] ∧ 0 ≤ n ∧ μ = [] ∧ Q (.d (.bool true)) []
def sStandWord : Sc := fun args μ Q => ∃ e : Cw.End, args = [.d (eEnd e)] ∧ μ = [] ∧ Q (.d (.str (tStand e))) []
def sOpenWith : Sc := fun args μ Q => ∃ x y : Cw.End, args = [.d (eEnd x), .d (eEnd y)] ∧ μ = [] ∧ Q (.d (.bool (openWith x y))) []
theorem stand_open (e : Cw.End) : decide (tStand e = "open") = isOpen e := by
  unfold tStand isOpen
  cases e.closed with
  | true =>
    rw [if_pos rfl]
    exact (by decide +kernel : decide (("closed" : Str) = "open") = false)
  | false =>
    rw [if_neg Bool.false_ne_true]
    cases e.given.isSome <;> cases e.took.isSome <;> decide +kernel
section
variable {P : Program} {w : World} {K : PySem.W.Frag} {mg : Str → Option Value} {base : Heap} {f : Addr} {fd : FuncData} {k : Nat} {kws : List (Str × V)}
theorem sc_given_to : FnScope ["end"] ["end"] (defScope (top 71)) := ⟨rfl, rfl, rfl, by decide +kernel, rfl, by decide +kernel, by decide +kernel⟩
theorem d_given_to (F : FnP K "given_to" (top 71) f fd) : Df P w K mg base (k + 1) f ["end"] sGivenTo := by
  refine df_by F sc_given_to (fun _ _ _ _ _ _ us hl => match us, hl with | [_], _ => rfl) (fun args μ Q ⟨_, e, _⟩ => by rw [e]; rfl) fun cdv A outer s H E hr F args μ Q h => ?_
  obtain ⟨e, rfl, rfl, q⟩ := h
  exact xs_one (xs_ret (xe_ix (xe_name (i := 0) rfl (xe_int ⟨_, 8, .d (eOAsk e.given), .tup _, rfl, rfl, [], .refl _, q⟩))))
theorem sc_stand_word : FnScope ["end"] ["end"] (defScope (top 72)) := ⟨rfl, rfl, rfl, by decide +kernel, rfl, by decide +kernel, by decide +kernel⟩
theorem d_stand_word (F : FnP K "stand_word" (top 72) f fd) : Df P w K mg base (k + 1) f ["end"] sStandWord := by
  refine df_by F sc_stand_word (fun _ _ _ _ _ _ us hl => match us, hl with | [_], _ => rfl) (fun args μ Q ⟨_, e, _⟩ => by rw [e]; rfl) fun cdv A outer s H E hr F args μ Q h => ?_
  obtain ⟨e, rfl, rfl, q⟩ := h
  exact xs_one (xs_ret (xe_ix (xe_name (i := 0) rfl (xe_int ⟨_, 2, .d (.str (tStand e)), .tup _, rfl, rfl, [], .refl _, q⟩))))
theorem sc_open_with : FnScope ["one", "other", "mine", "theirs"] ["one", "other"] (defScope (top 58)) := ⟨rfl, rfl, rfl, by decide +kernel, rfl, by decide +kernel, by decide +kernel⟩
theorem d_open_with (F : FnP K "stands_open_with" (top 58) f fd) {fK : Addr} (DK : Df P w K mg base k fK ["end"] sKnownOf) (gK : mg "known_of" = some (.ref fK)) : Df P w K mg base (k + 1) f ["one", "other"] sOpenWith := by
  have nd := sc_open_with.nd
  refine df_by F sc_open_with (fun _ _ _ _ _ _ us hl => match us, hl with | [_, _], _ => rfl) (fun args μ Q ⟨_, _, e, _⟩ => by rw [e]; rfl) fun cdv A outer s H E hr F args μ Q h => ?_
  obtain ⟨x, y, rfl, rfl, q⟩ := h
  refine xs_cons (xs_par (i := 2) (j := 3) ?_ nd)
  refine xa_cons (xe_call DK hr gK (xa_cons (xe_name (i := 0) rfl (xa_nil ⟨[], [], .nil, x, rfl, rfl, fun p => ?_⟩))))
  refine xa_cons (xe_call DK hr gK (xa_cons (xe_name (i := 1) rfl (xa_nil ⟨[], [_], .refl _, y, rfl, rfl, fun p2 => ?_⟩))))
  refine xa_nil ⟨_, _, rfl, ?_⟩
  refine xs_cons (xs_if (XT.mono (Q := fun k μ1 => k = !(isOpen x && isOpen y) ∧ μ1 = [(p2, .dic (Kv (tStand y) y)), (p, .dic (Kv (tStand x) x))]) ?_ fun k μ1 ⟨ek, em⟩ => ?_))
  · refine xt_w (xw_or (xt_cm (xc_ne hr (xe_dget hr (xe_name (i := 2) rfl (xe_str ⟨p, _, _, _, rfl, .tail _ (.head _), rfl, kv_stand _ x, xe_str ⟨_, _, .d _, .d _, (sh_str (ok_stand x)).ok (by decide), (sh_str k_open).ok (by decide), ?_⟩⟩))))))
    rw [eqv_str, stand_open]
    cases isOpen x with
    | false => exact ⟨fun _ => ⟨rfl, rfl⟩, (fun z => by cases z)⟩
    | true =>
      refine ⟨(fun z => by cases z), fun _ => xw_or1 (xt_cm (xc_ne hr (xe_dget hr (xe_name (i := 3) rfl (xe_str ⟨p2, _, _, _, rfl, .head _, rfl, kv_stand _ y, xe_str ⟨_, _, .d _, .d _, (sh_str (ok_stand y)).ok (by decide), (sh_str k_open).ok (by decide), ?_, rfl⟩⟩)))))⟩
      rw [eqv_str, stand_open]
      rfl
  subst ek em
  refine ⟨fun h1 => ?_, fun h1 => xs_nil ?_⟩
  · have h1' : (isOpen x && isOpen y) = false := by rw [← Bool.not_eq_true']; exact h1
    have e : openWith x y = false := by unfold openWith; rw [h1']; rfl
    rw [e] at q
    exact xs_one (xs_ret (xe_bl ⟨_, List.nil_sublist _, q⟩))
  have h1' : (isOpen x && isOpen y) = true := by rw [← Bool.not_eq_false']; exact h1
  have e : openWith x y = (decide (x.yours = y.turn) && decide (y.yours = x.turn)) := by unfold openWith; rw [h1']; rfl
  rw [e] at q
  refine xs_one (xs_ret (xe_and (xe_cm (xc_eq hr (xe_dget hr (xe_name (i := 2) rfl (xe_str ⟨p, _, _, _, rfl, .tail _ (.head _), rfl, kv_yours _ x, ?_⟩)))))))
  refine xe_dget hr (xe_name (i := 3) rfl (xe_str ⟨p2, _, _, _, rfl, .head _, rfl, kv_turn _ y, _, _, .d _, .d _, (sh_int _).ok (by decide), (sh_int _).ok (by decide), _, rfl, ?_, ?_⟩))
  · intro h2
    rw [eqv_int] at h2
    rw [h2] at q
    refine xe_one (xe_cm (xc_eq hr (xe_dget hr (xe_name (i := 3) rfl (xe_str ⟨p2, _, _, _, rfl, .head _, rfl, kv_yours _ y, ?_⟩)))))
    refine xe_dget hr (xe_name (i := 2) rfl (xe_str ⟨p, _, _, _, rfl, .tail _ (.head _), rfl, kv_turn _ x, _, _, .d _, .d _, (sh_int _).ok (by decide), (sh_int _).ok (by decide), ?_⟩))
    rw [eqv_int]
    exact ⟨_, List.nil_sublist _, q⟩
  · intro h2
    rw [eqv_int] at h2
    rw [h2] at q
    exact ⟨_, List.nil_sublist _, q⟩
theorem sc_took_by : FnScope ["end"] ["end"] (defScope (top 79)) := ⟨rfl, rfl, rfl, by decide +kernel, rfl, by decide +kernel, by decide +kernel⟩
theorem d_took_by (F : FnP K "took_by" (top 79) f fd) : Df P w K mg base (k + 1) f ["end"] sTookBy := by
  refine df_by F sc_took_by (fun _ _ _ _ _ _ us hl => match us, hl with | [_], _ => rfl) (fun args μ Q ⟨_, e, _⟩ => by rw [e]; rfl) fun cdv A outer s H E hr F args μ Q h => ?_
  obtain ⟨e, rfl, rfl, q⟩ := h
  exact xs_one (xs_ret (xe_ix (xe_name (i := 0) rfl (xe_int ⟨_, 10, .d (eOAsk e.took), .tup _, rfl, rfl, [], .refl _, q⟩))))
theorem sc_is_place : FnScope ["thing"] ["thing"] (defScope (top 67)) := ⟨rfl, rfl, rfl, by decide +kernel, rfl, by decide +kernel, by decide +kernel⟩
theorem d_is_place (g : Gm mg) (F : FnP K "is_place" (top 67) f fd) : Df P w K mg base (k + 1) f ["thing"] sIsPlace := by
  refine df_by F sc_is_place (fun _ _ _ _ _ _ us hl => match us, hl with | [_], _ => rfl) (fun args μ Q ⟨_, e, _⟩ => by rw [e]; rfl) fun cdv A outer s H E hr F args μ Q h => ?_
  obtain ⟨n, rfl, hn, rfl, q⟩ := h
  refine xs_one (xs_ret ?_)
  refine xe_andT (xe_isi g.b_isinstance g.b_int (T := "int") (by decide +kernel) (xe_name (i := 0) rfl ⟨"int", true, rfl, by decide, rfl, ?_⟩))
  refine xe_andT (xe_not (xe_isi g.b_isinstance g.b_bool (T := "bool") (by decide +kernel) (xe_name (i := 0) rfl ⟨"int", false, rfl, by decide, false, rfl, rfl, ?_⟩)))
  refine xe_one (xe_cm (xc_ge (xe_name (i := 0) rfl (xe_int ⟨_, _, rfl, rfl, ?_⟩))))
  rw [decide_eq_true hn]
  exact ⟨_, .refl _, q⟩
end
end Wk

/-! text Ds13 -/
/-! Code over data: dict comprehensions. -/
namespace Ds
open PySem PySem.Spec PyProof.Rows L2
theorem dmerge_snoc (kvs l : List (Str × Rv)) (p : Str × Rv) : dmerge kvs (l ++ [p]) = dput (dmerge kvs l) p.1 p.2 := by
  unfold dmerge
  rw [List.foldl_append]
  rfl
section
variable {X : Cx} {F : Fm} {δ : De} {μ : Mu} {tg iter kx vx : Expr} {pos : Pos} {Q : Rv → Mu → Prop} {scope : Scope} {own : List (Str × Nat)} {vs : List Nat} {α : Type}
/-- what {kx: vx for tg in iter} asks, its items ys, their keys texts -/
def XDM (X : Cx) (F : Fm) (δ : De) (μ : Mu) (tg iter kx vx : Expr) (scope : Scope) (vs : List Nat) (ys : List α) (enc : α → Rv) (kf : α → Str) (vf : α → Rv) (Q : Rv → Mu → Prop) : Prop :=
  XI X F δ μ tg iter fun items S μ1 => items = ys.map enc ∧ S μ1 ∧ ys.length ≤ 100000 ∧ (∀ y ∈ ys, ∀ F', Blk X scope fun Y => XG Y F' δ μ1 tg (enc y) vs fun δ2 μ2 => Blk X scope fun Z => XE Z F' δ2 μ2 kx fun r μ3 => r = .d (.str (kf y)) ∧ Blk X scope fun Z => XE Z F' δ2 μ3 vx fun r μ4 => r = vf y ∧ μ1.Sublist μ4) ∧
    ∀ p, Q (.r (.ref p)) ((p, .dic (dmerge [] (ys.map fun y => (kf y, vf y)))) :: μ1)
theorem dc_ok (ys : List α) (enc : α → Rv) (kf : α → Str) (vf : α → Rv) (hown : (vs.all fun j => match δ[j]? with | some (some _) => false | _ => true) = true) {σ : L2.St} {H : Hp} {Q' : VK} (lo : Lo X.K H σ δ) (ow : Ow X.K H μ) (fk : Fk F H μ) (hQ : ∀ v H', Pe X.K F H Q v H' → Q' v H')
    (h : XDM X F δ μ tg iter kx vx scope vs ys enc kf vf Q) : tDc (WI X tg iter) (gC X scope tg) tYes (eC X scope kx) (eC X scope vx) vs σ H Q' := by
  intro pins s Inv0
  refine thn (h σ H lo ow fk pins s Inv0) fun v s1 h1 => thn h1 fun itv s2 h2 => ?_
  obtain ⟨it, fp, tn, J, H2, e, I2, T, st2, f2, t2, items, S, μ1, ow1, fk1, yd, eitems, hS, hlen, turn, fin⟩ := h2
  subst eitems
  refine ⟨it, fp, tn, J, H2, e, I2, T, st2, f2, fun D hD => ?_⟩
  have hDM := fk1.new_or hD
  have hDn : D ∉ μ1.map (·.1) := fun z => by
    obtain ⟨q, hq, eq⟩ := List.mem_map.mp z
    obtain ⟨u, g1, _⟩ := (ow1 q hq).there
    rw [eq, hD] at g1
    cases g1
  have hown' : ∀ (j : Nat) (r : Rv), δ[j]? = some (some r) → j ∉ vs := fun j r e hj => by
    have := List.all_eq_true.mp hown j hj
    rw [e] at this
    cases this
  refine ⟨fun i m Hc => m = ys.length - i ∧ i ≤ ys.length ∧ TK H2 Hc ∧ ∃ kv, Hc D = some (.dK kv) ∧ DR X.K Hc kv (dmerge [] ((ys.take i).map fun y => (kf y, vf y))) ∧ kv.length ≤ i ∧ Ow X.K Hc μ1 ∧ Fk F Hc μ1,
    ⟨ys.length, by simp, Nat.zero_le _, TK.new hD _, [], upd_same, DR.nil, Nat.le_refl _, ow1.new hD _, fk1.new hD _⟩, ?_⟩
  rintro i m Hc ⟨rfl, hi, tk, kv, hDc, dr, hkv, ow', fk'⟩
  have P : TK H2 Hc ∧ ∃ μc, Ow X.K Hc μc ∧ S μc := ⟨tk, μ1, ow', hS⟩
  by_cases hlt : i < ys.length
  · have hy : ys[i]? = some ys[i] := List.getElem?_eq_getElem hlt
    have hx : (ys.map enc)[i]? = some (enc ys[i]) := by rw [List.getElem?_map, hy]; rfl
    obtain ⟨go, yl⟩ := yd.item i Hc _ P hx
    refine .inr ⟨go, fun Hn => TK H2 Hn ∧ ∃ kv, Hn D = some (.dK kv) ∧ DR X.K Hn kv (dmerge [] ((ys.take (i + 1)).map fun y => (kf y, vf y))) ∧ kv.length ≤ i + 1 ∧ Ow X.K Hn μ1 ∧ Fk F Hn μ1, fun Hn ⟨q1, q2⟩ => ⟨ys.length - (i + 1), by omega, rfl, hlt, q1, q2⟩, fun x H3 y => ?_⟩
    obtain ⟨gr, rk⟩ := yl x H3 y
    have t3 : TK Hc H3 := fun a o h _ => gr a o h
    have ow3 := ow'.grow gr
    have fk3 := fk'.grow gr
    have lo3 : Lo X.K H3 (wipe σ vs) δ := (lo.keep ((t2.trans tk).trans t3)).less (wipe_length σ vs) fun j r e => wipe_out (hown' j r e)
    have z := turn ys[i] (List.getElem_mem hlt) ⟨H3, μ1.map (·.1)⟩
    intro s4 H4' C cl fp'
    refine wg_mono (z s4 H4' C cl fp' (wipe σ vs) H3 x lo3 ow3 (Fk.start fk3.nd) rk) fun σ4 H4 ⟨l4, k4, t4, δ4, μ4, lo4, ow4, fk4, q4⟩ => ?_
    refine ⟨(wipe_eq l4 k4).trans (wipe_wipe vs σ), ?_⟩
    show eC X scope kx σ4 H4 _
    intro s5 H5' C5 cl5 fp5
    refine (q4 s5 H5' C5 cl5 fp5).run lo4 ow4 fk4 fun v5 H5 r5 μ5 t5 lo5 rk5 ow5 fk5 ⟨e5, q5⟩ => ?_
    subst e5
    intro s6 H6' C6 cl6 fp6
    refine (q5 s6 H6' C6 cl6 fp6).run lo5 ow5 fk5 fun v6 H6 r6 μ6 t6 lo6 rk6 ow6 fk6 ⟨e6, sb⟩ => ?_
    subst e6
    have d1 : H6 D = some (.dK kv) := fk6.kp D _ (gr D _ hDc) hDn
    have t7 : TK H6 (upd H6 D (.dK (putK kv (.inr (kf ys[i])) v6))) := TK.upd d1 fun z => z
    have ek : v5 = kV (.inr (kf ys[i])) := by
      cases rk5 with
      | d h => cases h; rfl
    have et : (ys.take (i + 1)).map (fun y => (kf y, vf y)) = (ys.take i).map (fun y => (kf y, vf y)) ++ [(kf ys[i], vf ys[i])] := by
      rw [List.take_succ, hy, List.map_append]
      rfl
    have hle := length_putK kv (.inr (kf ys[i])) v6
    have tall := ((((t3.trans t4).trans t5).trans t6).trans t7)
    refine ⟨kv, .inr (kf ys[i]), ek, d1, Nat.lt_of_le_of_lt hkv (Nat.lt_of_lt_of_le hlt (sz_of hlen)), (tk.trans tall), _, upd_same, ?_, by omega, ((ow6.sub sb).upd d1 (fun z => z) hDn), ((Fk.then fk3 ow3 fk6).sub sb).upd hDM⟩
    rw [et, dmerge_snoc]
    have z : DR X.K (upd H6 D (.dK (putK kv (.inr (kf ys[i])) v6))) kv (dmerge [] ((ys.take i).map fun y => (kf y, vf y))) := ⟨dr.1, dr.2.keep tall⟩
    exact z.put (rk6.keep t7)
  · have e : i = ys.length := by omega
    subst e
    rw [List.take_length] at dr
    refine .inl ⟨?_, hQ _ _ ⟨t2.trans tk, _, _, .r _, ow'.more (a := D) (o := .dic (dmerge [] (ys.map fun y => (kf y, vf y)))) ⟨kv, hDc, dr⟩, ⟨List.nodup_cons.mpr ⟨hDn, fk'.nd⟩, fk'.kp, fun q hq => ?_⟩, fin D⟩⟩
    · have := yd.done Hc P
      rw [List.length_map] at this
      exact this
    · rcases List.mem_cons.mp hq with rfl | hq
      · exact hDM
      · exact fk'.nw q hq
/-- {kx: vx for tg in iter} -/
theorem xe_dc (ys : List α) (enc : α → Rv) (kf : α → Str) (vf : α → Rv) (hN : X.N.Nodup) (ok : blkB X.N X.env.scope scope own = true) (h : XDM X F δ μ tg iter kx vx scope (own.map (·.2)) ys enc kf vf Q) (hown : ((own.map (·.2)).all fun j => match δ[j]? with | some (some _) => false | _ => true) = true := by rfl) (hc : X.calm = true := by rfl)
    (hs : ∀ x, foldedSetIterable iter X.env x = pure x := by intro _; rfl) : XE X F δ μ (.DictComp kx vx [⟨tg, iter, [], 0⟩] scope pos) Q := fun σ H lo ow fk =>
  we_of (pe_dc hc hN pi_w (blk_ok ok) pg_c (fun _ _ _ _ _ => pts_nil) pe_c pe_c hs) (dc_ok ys enc kf vf hown lo ow fk (fun _ _ q => q) h)
/-- y = {kx: vx for tg in iter}, at the hand layer -/
theorem ps_nameDc {i : Nat} {y : Str} {py spos : Pos} {ifs : List Expr} {wi : TI} {g : TG} {tt : TT} {tk tv : TE} (hc : X.calm = true) (hN : X.N.Nodup) (hy : X.N[i]? = some y) (hyl : X.env.scope.names.lookup y = some .local)
    (hsw : swapsWith (.DictComp kx vx [⟨tg, iter, ifs, 0⟩] scope pos) (some (.Name y py)) spos.line X.env = pure true) (hi : PI X tg iter wi) (ok : BlkOk X.N X.env.scope scope own)
    (hg : Blk X scope fun Y => PG Y tg g) (ht : Blk X scope fun Y => PTs Y ifs tt) (hk : Blk X scope fun Y => PE Y kx tk) (hv : Blk X scope fun Y => PE Y vx tv) (hs : ∀ x, foldedSetIterable iter X.env x = pure x) :
    PS X (.Assign [.Name y py] (.DictComp kx vx [⟨tg, iter, ifs, 0⟩] scope pos) spos) (tAsg (tDc wi g tt tk tv (own.map (·.2))) (gName i)) := ⟨fun pins s σ H D I h => by
  rw [exec_Assign_Name_used _ _ _ _ hsw]
  refine wpAny_bind (wpAny_standAt (wpAny_bind ?_))
  have tail : ∀ (u : Value) s', SP X pins D .next s' → SP X pins D .next s' := fun _ _ q => q
  refine wpAny_bind (thn (dc_core (use := some (assign (.Name y py) X.env)) (Qf := fun _ s' => SP X pins D .next s') hc hN I hi ok hg ht hk hv hs (show tDc wi g tt tk tv (own.map (·.2)) σ H (fun x H1 => gName i x σ H1 D.nx) from h) fun L C s' m H' I' q hn f => ?_) fun _ s' hq => wpAny_pure (wpAny_pure hq))
  obtain ⟨c0, c1, c2, c3, c4, c5⟩ := f
  refine wpAny_assign_Name (store_ok2 (v := V.ref L) I' hN hy (.inl hyl) rfl (fun s2 I2 ⟨a, sb, ha⟩ => ⟨m, hn.sameBut sb ?_, fun h3 sb3 => ⟨_, H', I2.turned (t' := s2.toks) (fun b o hb e => (sb3.2 b hb).trans e) c0 c1 c3 c4 c5, q⟩⟩) (.inr hyl))
  rcases ha with z | z
  · rw [z]; exact c1
  · exact fun e => c4 y a z e.symm⟩
/-- y = {kx: vx for tg in iter} -/
theorem xs_setDc {i : Nat} {y : Str} {py spos : Pos} {D : Dn} (ys : List α) (enc : α → Rv) (kf : α → Str) (vf : α → Rv) (hN : X.N.Nodup) (ok : blkB X.N X.env.scope scope own = true) (h : XDM X F δ μ tg iter kx vx scope (own.map (·.2)) ys enc kf vf fun r μ1 => D.nx (δ.set i (some r)) μ1)
    (hsw : swapsWith (.DictComp kx vx [⟨tg, iter, [], 0⟩] scope pos) (some (.Name y py)) spos.line X.env = pure true := by first | rfl | with_unfolding_all rfl | kernel_rfl) (hy : X.N[i]? = some y := by rfl) (hyl : X.env.scope.names.lookup y = some .local := by rfl)
    (hown : ((own.map (·.2)).all fun j => match δ[j]? with | some (some _) => false | _ => true) = true := by rfl) (hc : X.calm = true := by rfl)
    (hs : ∀ x, foldedSetIterable iter X.env x = pure x := by intro _; rfl) : XS X F δ μ (.Assign [.Name y py] (.DictComp kx vx [⟨tg, iter, [], 0⟩] scope pos) spos) D := fun σ H lo ow fk =>
  ws_of (ps_nameDc (i := i) hc hN hy hyl hsw pi_w (blk_ok ok) pg_c (fun _ _ _ _ _ => pts_nil) pe_c pe_c hs) (dc_ok ys enc kf vf hown lo ow fk (fun v H' ⟨t, r, μ', h1, h2, h3, q⟩ => ⟨t, _, μ', (lo.keep t).set h1 i, h2, h3, q⟩) h)
end
end Ds

/-! text Wp -/
/-! Sorted lists of pairs. -/
namespace Wk
open PySem PySem.Spec PyProof.Rows L2 Ds Cw
open PySem.W (dataLe dataLt dataLt_pair dataLt_str dataLt_int alike AllAlike Sortable EachIs)
theorem not_lt_lists {a b : List Nat} (h : a ≠ b) : (!decide (b < a)) = decide (a < b) := by
  by_cases h1 : a < b
  · have : ¬ b < a := fun h2 => List.lt_asymm h1 h2
    rw [decide_eq_true h1, decide_eq_false this]
    rfl
  · have : b < a := by
      rcases Nat.lt_trichotomy 0 0 with _ | _ | _
      all_goals exact Decidable.byContradiction fun h2 => h (List.le_antisymm (List.not_lt.mp h2) (List.not_lt.mp h1))
    rw [decide_eq_false h1, decide_eq_true this]
    rfl
theorem dataLe_pair : dataLe false eP = leP := by
  funext p q
  show (!dataLt (eP q) (eP p)) = leP p q
  show (!dataLt (.tuple [.str q.1, .int q.2]) (.tuple [.str p.1, .int p.2])) = leP p q
  rw [dataLt_pair (by simp [alike]) (by simp [alike]), dataLt_str, dataLt_int, eqv_str, eqv_int]
  unfold leP
  by_cases h1 : p.1 = q.1
  · rw [if_pos (decide_eq_true h1.symm), if_pos h1]
    by_cases h2 : q.2 = p.2
    · rw [if_pos (decide_eq_true h2), h2, decide_eq_true (Int.le_refl _)]
      rfl
    · rw [if_neg (by rw [decide_eq_false h2]; exact Bool.false_ne_true)]
      by_cases h3 : q.2 < p.2
      · rw [decide_eq_true h3, decide_eq_false (by omega)]
        rfl
      · rw [decide_eq_false h3, decide_eq_true (by omega)]
        rfl
  · rw [if_neg (by rw [decide_eq_false (fun z => h1 z.symm)]; exact Bool.false_ne_true), if_neg h1]
    refine not_lt_lists fun z => h1 ?_
    obtain ⟨⟨⟨a⟩⟩, _⟩ := p
    obtain ⟨⟨⟨b⟩⟩, _⟩ := q
    have z' : a = b := z
    rw [z']
section
variable {K : PySem.W.Frag} {H : Hp}
theorem each_of (f : Pair → Rv) : ∀ {l : List Pair} {us : List V} {its : List Value}, Vals us its → Rks K H us (l.map f) → EachIs (fun u b => ∃ v, RelV v u ∧ Rk K H v (f b)) its l
  | [], _, _, hv, hr => by
    cases hr
    cases hv
    exact .nil
  | b :: l, _, _, hv, hr => by
    cases hr with
    | cons r1 r2 =>
      cases hv with
      | cons v1 v2 => exact .cons ⟨_, v1, r1⟩ (each_of f v2 r2)
theorem of_each (f : Pair → Rv) : ∀ {l : List Pair} {its : List Value}, EachIs (fun u b => ∃ v, RelV v u ∧ Rk K H v (f b)) its l → ∃ us, Vals us its ∧ Rks K H us (l.map f)
  | _, _, .nil => ⟨[], .nil, .nil⟩
  | _, _, .cons ⟨v, h1, h2⟩ t => by
    obtain ⟨us, g1, g2⟩ := of_each f t
    exact ⟨v :: us, .cons h1 g1, .cons h2 g2⟩
end
def rSortP (K : PySem.W.Frag) : List V → Hp → VK → Prop := fun xs H Q => ∃ (a : Addr) (us : List V) (l : List Pair), xs = [.ref a] ∧ SqL K H a us ∧ Rks K H us (l.map fun b => .d (eP b)) ∧ l.length ≤ 1000 ∧
  ∀ us' p, Rks K H us' ((srt l).map fun b => .d (eP b)) → H p = none → Q (.ref p) (upd H p (.lst us'))
theorem cr_sortP {X : Cx} {k : Nat} (hr : Room k X.A) : CallR X (.builtin "sorted") (rSortP X.K) := by
  intro pins s σ H vs us Q I r h
  obtain ⟨a, ws, l, rfl, hs, hk, hl, q⟩ := h
  obtain ⟨its, rv, pl, _⟩ := I.list hs
  rw [Vals.ref1 r]
  have ei := each_of (fun b => .d (eP b)) rv hk
  have er : EachIs (fun v b => ∃ as, Reads s.heap v (eP b) as) its l := ei.mono fun u b ⟨v, h1, h2⟩ => by
    cases h2 with
    | d h2 => exact h2.dp.reads I _ _ _ h1
  have hsz : l.length ≤ sizeLine := by rw [sizeLine_eq]; omega
  refine PySem.W.sorted_data pl.isList ei er (AllAlike.of fun b b' => by simp [alike, PySem.W.alikeAll, eP]) (Sortable.tuples fun b => ⟨_, _, rfl⟩) hsz (fun b _ => ?_) fun out ho he => ?_
  · have := hr.un
    have hd : (eP b).depth ≤ 1 := by simp [eP, PyData.depth, PyData.depthAll]
    omega
  · rw [dataLe_pair] at he
    obtain ⟨us', v1, v2⟩ := of_each (fun b => .d (eP b)) he
    obtain ⟨ep, he'⟩ := PyProof.Rows.sortedAll_at s.heap its out.toArray
    have hlen : us'.length ≤ sizeLine := by
      rw [v1.length, ho]
      exact hsz
    exact ⟨.ref _, upd H (s.heap.objs.size + 1) (.lst us'), I.laid (t' := s.toks) (fun _ _ => PyProof.Rows.sortedAll_old) (Nat.le_succ _) ⟨hlen, out, ep, v1, he'⟩, rfl, q us' _ v2 (I.hok.fresh (Nat.le_succ _))⟩
section
variable {X : Cx} {F : Fm} {δ : De} {μ : Mu} {e : Expr} {pos p : Pos} {Q : Rv → Mu → Prop} {k : Nat}
/-- sorted(a list of pairs) -/
theorem xe_sortP (hr : Room k X.A) (hm : X.mg "sorted" = none) (h : XA X F δ μ [e] fun rs μ1 => ∃ (p : Addr) (l : List Pair), rs = [.r (.ref p)] ∧ (p, Ob.lst (l.map fun b => .d (eP b))) ∈ μ1 ∧ l.length ≤ 1000 ∧ ∀ p2, Q (.r (.ref p2)) ((p2, .lst ((srt l).map fun b => .d (eP b))) :: μ1)) (hg : Gl X "sorted" := by rfl) (he : starEach [e] X.env = (false, eval e X.env) :: starEach [] X.env := by rfl) : XE X F δ μ (.Call (.Name "sorted" p) [e] [] pos) Q :=
  xe_callB (cr_sortP hr) (fun _ _ _ _ k ⟨a, us, l, e, h1, h2, h3, q⟩ => ⟨a, us, l, e, h1, h2, h3, fun us' p a b => k _ _ (q us' p a b)⟩) hm (by decide +kernel) (fun σ H lo ow fk => h.run lo ow fk fun vs H1 rs μ1 t1 _ r ow1 fk1 ⟨p, l, e, hp, hl, q⟩ => ⟨t1, rs, μ1, r, ow1, fk1, fun vs' H' r' w f => by
    subst e
    cases r' with
    | cons r1 r2 =>
      cases r2
      cases r1
      obtain ⟨ws, h1, h2⟩ := w _ hp
      exact ⟨p, ws, l, rfl, SqL.of h1, h2, hl, fun us' p2 h3 hn => pe_newO (ob := .lst ((srt l).map fun b => .d (eP b))) hn ⟨us', upd_same, h3.keep (TK.new hn _)⟩ w f (q p2)⟩⟩) hg (by decide) (by decide) he rfl
end
end Wk

/-! text Wb -/
/-! The walk: behind. Plain facts first. -/
namespace Wk
open PySem PySem.Spec PyProof.Rows L2 Ds Cw
theorem lk_cons {α : Type} (q : Str × α) (m : List (Str × α)) (k : Str) : lk (q :: m) k = if q.1 = k then some q.2 else lk m k := by
  unfold lk
  rw [List.find?_cons]
  by_cases h : q.1 = k
  · rw [decide_eq_true h, if_pos h]
    rfl
  · rw [decide_eq_false h, if_neg h]
theorem lk_none {α : Type} {m : List (Str × α)} {k : Str} (h : k ∉ m.map (·.1)) : lk m k = none := by
  cases e : lk m k with
  | none => rfl
  | some v => exact absurd (List.mem_map.mpr ⟨(k, v), lk_mem e, rfl⟩) h
theorem lk_at {α : Type} : ∀ {m : List (Str × α)} {p : Str × α}, (m.map (·.1)).Nodup → p ∈ m → lk m p.1 = some p.2
  | [], _, _, h => by cases h
  | q :: m, p, nd, h => by
    rw [List.map_cons, List.nodup_cons] at nd
    rw [lk_cons]
    rcases List.mem_cons.mp h with rfl | h
    · rw [if_pos rfl]
    · rw [if_neg fun z => nd.1 (by rw [z]; exact List.mem_map.mpr ⟨p, h, rfl⟩)]
      exact lk_at nd.2 h
theorem lk_some {α : Type} {m : List (Str × α)} {k : Str} (h : k ∈ m.map (·.1)) : ∃ v, lk m k = some v := by
  cases e : lk m k with
  | some v => exact ⟨v, rfl⟩
  | none =>
    unfold lk at e
    rw [Option.map_eq_none_iff, List.find?_eq_none] at e
    obtain ⟨p, hp, rfl⟩ := List.mem_map.mp h
    exact absurd (decide_eq_true rfl) (e p hp)
theorem lk_map {α β : Type} (G : Str → α → β) (m : List (Str × α)) (k : Str) : lk (m.map fun y => (y.1, G y.1 y.2)) k = (lk m k).map (G k) := by
  induction m with
  | nil => rfl
  | cons q m ih =>
    rw [List.map_cons, lk_cons, lk_cons, ih]
    by_cases h : q.1 = k
    · rw [if_pos h, if_pos h, h]
      rfl
    · rw [if_neg h, if_neg h]
theorem dmerge_in : ∀ (m l : List (Str × Rv)), (m.map (·.1)).Nodup → (∀ k ∈ m.map (·.1), k ∈ l.map (·.1)) → dmerge l m = l.map fun p => (p.1, (lk m p.1).getD p.2)
  | [], l, _, _ => by
    show l = _
    have : (fun p : Str × Rv => (p.1, (lk ([] : List (Str × Rv)) p.1).getD p.2)) = id := rfl
    rw [this, List.map_id]
  | q :: m, l, nd, hk => by
    rw [List.map_cons, List.nodup_cons] at nd
    have hq : (l.any fun p => decide (p.1 = q.1)) = true := by
      obtain ⟨p, hp, e⟩ := List.mem_map.mp (hk q.1 List.mem_cons_self)
      exact List.any_eq_true.mpr ⟨p, hp, decide_eq_true e⟩
    have e1 : dput l q.1 q.2 = l.map fun p => if p.1 = q.1 then (p.1, q.2) else p := by
      unfold dput
      rw [if_pos hq]
    have keys : (dput l q.1 q.2).map (·.1) = l.map (·.1) := by
      rw [e1, List.map_map]
      refine List.map_congr_left fun p _ => ?_
      show (if p.1 = q.1 then (p.1, q.2) else p).1 = p.1
      split <;> rfl
    show dmerge (dput l q.1 q.2) m = _
    rw [dmerge_in m _ nd.2 (fun k h => by rw [keys]; exact hk k (List.mem_cons_of_mem _ h)), e1, List.map_map]
    refine List.map_congr_left fun p _ => ?_
    rw [lk_cons]
    show ((if p.1 = q.1 then (p.1, q.2) else p).1, (lk m (if p.1 = q.1 then (p.1, q.2) else p).1).getD (if p.1 = q.1 then (p.1, q.2) else p).2) = _
    by_cases h : p.1 = q.1
    · rw [if_pos h, if_pos h.symm, lk_none (by rw [h]; exact nd.1)]
      rfl
    · rw [if_neg h, if_neg fun z => h z.symm]
/-- what is left, as a dict -/
theorem left_kv {w : Wd} {ps : Ask} {pl : Plan} (nd : (ps.map (·.1)).Nodup) (np : (pl.map (·.1)).Nodup) (hk : ∀ k ∈ ps.map (·.1), k ∈ pl.map (·.1)) :
    dmerge (kvB pl) (dmerge [] (ps.map fun y => (y.1, Rv.d (eInts (leftBehind w y.2 ((lk pl y.1).getD [])))))) = kvB (leftNow w ps pl) := by
  have km : (ps.map fun y => (y.1, Rv.d (eInts (leftBehind w y.2 ((lk pl y.1).getD []))))).map (·.1) = ps.map (·.1) := by rw [List.map_map]; rfl
  have kb : (kvB pl).map (·.1) = pl.map (·.1) := by unfold kvB; rw [List.map_map]; rfl
  rw [dmerge_nodup _ [] (by rw [List.nil_append, km]; exact nd), List.nil_append, dmerge_in _ _ (by rw [km]; exact nd) (by rw [km, kb]; exact hk)]
  unfold kvB leftNow
  rw [List.map_map, List.map_map]
  refine List.map_congr_left fun p hp => ?_
  show (p.1, (lk (ps.map fun y => (y.1, Rv.d (eInts (leftBehind w y.2 ((lk pl y.1).getD []))))) p.1).getD (.d (eInts p.2))) = _
  rw [lk_map (fun k x => Rv.d (eInts (leftBehind w x ((lk pl k).getD [])))) ps p.1, lk_at np hp]
  show _ = (p.1, Rv.d (eInts (match lk ps p.1 with | some x => leftBehind w x p.2 | none => p.2)))
  cases lk ps p.1 <;> rfl
theorem rising_lt : ∀ (l : List Nat), risingB l = true → l.Pairwise (· < ·)
  | [], _ => .nil
  | [a], _ => by simp
  | a :: b :: r, h => by
    have h' : (decide (a < b) && risingB (b :: r)) = true := h
    rw [Bool.and_eq_true] at h'
    have ih := rising_lt (b :: r) h'.2
    have hab := of_decide_eq_true h'.1
    refine .cons (fun x hx => ?_) ih
    rcases List.mem_cons.mp hx with rfl | hx
    · exact hab
    · exact Nat.lt_trans hab ((List.pairwise_cons.mp ih).1 x hx)
theorem rising_nodup {ks l : List Str} (h : risingB (places ks l) = true) : l.Nodup := by
  have := rising_lt _ h
  unfold places at this
  rw [List.pairwise_map] at this
  exact this.imp fun {a b} h e => by rw [e] at h; exact Nat.lt_irrefl _ h
def eBeh : Option Beh → PyData
  | none => .none
  | some (.agreed a) => .tuple [.str "agreed", eAsk a]
  | some (.failed k) => .tuple [.str "failed", .str k]
  | some (.plan p r) => .tuple [.str "plan", ePlan p, eAsk r]
def sBehind : Sc := fun args μ Q => ∃ (ws : List Wish) (pl : Plan) (wd : Wd) (ps : Ask), args = [.d (eWishes ws), .d (ePlan pl), .d (.tuple [.str (tWd wd), eAsk ps])] ∧ WsOk ws ∧ pl.map (·.1) = ws.map (·.kind) ∧ (ws.map (·.kind)).Nodup ∧ (∀ x ∈ pl, x.2.length ≤ 1000) ∧ ps.length ≤ 1000 ∧ (∀ p ∈ ps, PairOk p) ∧ μ = [] ∧ Q (.d (eBeh (behind ws pl wd ps))) []
theorem ask_keys {ws : List Wish} {pl : Plan} : ∀ p ∈ askOf ws pl, p.1 ∈ ws.map (·.kind) :=
  askGo_ok (fun p : Pair => p.1 ∈ ws.map fun v : Wish => v.kind) (ws.zip pl) [] (fun p hp => absurd hp List.not_mem_nil) fun z hz x _ => List.mem_map.mpr ⟨z.1, (List.of_mem_zip hz).1, rfl⟩
theorem refusals_at {wd : Wd} {ps a : Ask} (h : areRefusals wd ps a = true) : (∀ p ∈ ps, p.1 ∈ a.map (·.1)) ∧ (ps.map (·.1)).Nodup := by
  unfold areRefusals at h
  rw [Bool.and_eq_true, Bool.and_eq_true, Bool.and_eq_true] at h
  exact ⟨fun p hp => of_decide_eq_true (List.all_eq_true.mp h.1.1.2 p hp), rising_nodup h.1.2⟩
theorem two_words (wd : Wd) : (!([PyData.str "no", PyData.str "rather"].any fun z => PyData.eqv z (.str (tWd wd)))) = !decide (wd = .no ∨ wd = .rather) := by
  have e1 : PyData.eqv (.str ("no" : Str)) (.str (tWd wd)) = decide (.no = wd) := isW .no wd
  have e2 : PyData.eqv (.str ("rather" : Str)) (.str (tWd wd)) = decide (.rather = wd) := isW .rather wd
  rw [List.any_cons, List.any_cons, e1, e2]
  cases wd <;> decide
theorem nd_t {p : Prop} [Decidable p] (h : (!decide p) = true) : ¬ p := fun z => by rw [decide_eq_true z] at h; cases h
theorem nd_f {p : Prop} [Decidable p] (h : (!decide p) = false) : p := Decidable.byContradiction fun z => by rw [decide_eq_false z] at h; cases h
theorem eqv_list0 (xs : List PyData) : PyData.eqv (.list xs) (.list []) = xs.isEmpty := by
  rw [eqv_lst]
  cases xs with
  | nil => exact eqvAll_nil
  | cons x xs => exact eqvAll_l x xs
theorem askGo_app : ∀ (l : List (Wish × (Str × List Int))) (found : Ask), ∃ r : Ask, askGo found l = found ++ r ∧ (r.map (·.1)).Sublist (l.map fun z => z.1.kind)
  | [], found => ⟨[], by rw [List.append_nil]; rfl, .refl _⟩
  | z :: l, found => by
    obtain ⟨r, e, sb⟩ := askGo_app l (askTurn found z.1 z.2.2)
    have ht : askTurn found z.1 z.2.2 = found ∨ ∃ x, askTurn found z.1 z.2.2 = found ++ [(z.1.kind, x)] := by
      rw [turn_cnd]
      split
      · exact .inr ⟨_, rfl⟩
      · exact .inl rfl
    show ∃ r, askGo (askTurn found z.1 z.2.2) l = found ++ r ∧ _
    rcases ht with h | ⟨x, h⟩
    · exact ⟨r, by rw [e, h], .cons _ sb⟩
    · exact ⟨(z.1.kind, x) :: r, by rw [e, h, List.append_assoc]; rfl, .cons_cons _ sb⟩
theorem zip_sub {α β : Type} : ∀ (xs : List α) (ys : List β), ((xs.zip ys).map Prod.fst).Sublist xs
  | [], _ => .slnil
  | _ :: _, [] => List.nil_sublist _
  | x :: xs, _ :: ys => .cons_cons _ (zip_sub xs ys)
theorem ask_nodup {ws : List Wish} {pl : Plan} (h : (ws.map (·.kind)).Nodup) : ((askOf ws pl).map (·.1)).Nodup := by
  obtain ⟨r, e, sb⟩ := askGo_app (ws.zip pl) []
  have e' : askOf ws pl = r := e
  rw [e']
  have s2 : ((ws.zip pl).map fun z => z.1.kind).Sublist (ws.map (·.kind)) := by
    have : ((ws.zip pl).map fun z => z.1.kind) = ((ws.zip pl).map Prod.fst).map (·.kind) := by rw [List.map_map]; rfl
    rw [this]
    exact (zip_sub ws pl).map _
  exact (sb.trans s2).nodup h
theorem keys_same {L pl : Plan} (h : L.map (·.1) = pl.map (·.1)) (nd : (L.map (·.1)).Nodup) : (pl.map fun y => (y.1, (lk L y.1).getD [])) = L := by
  have e : (pl.map fun y => (y.1, (lk L y.1).getD [])) = (pl.map (·.1)).map fun k => (k, (lk L k).getD []) := by rw [List.map_map]; rfl
  rw [e, ← h, List.map_map]
  have : ∀ p ∈ L, ((fun k => (k, (lk L k).getD [])) ∘ fun x : Str × List Int => x.1) p = id p := fun p hp => by
    show (p.1, (lk L p.1).getD []) = p
    rw [lk_at nd hp]
    rfl
  rw [List.map_congr_left this, List.map_id]
theorem left_keys (wd : Wd) (ps : Ask) (pl : Plan) : (leftNow wd ps pl).map (·.1) = pl.map (·.1) := by unfold leftNow; rw [List.map_map]; rfl
section
variable {P : Program} {w : World} {K : PySem.W.Frag} {mg : Str → Option Value} {base : Heap} {f : Addr} {fd : FuncData} {k : Nat} {kws : List (Str × V)}
structure Bh (P : Program) (w : World) (K : PySem.W.Frag) (mg : Str → Option Value) (base : Heap) (k : Nat) : Prop where
  said : ∃ f, mg "is_said" = some (.ref f) ∧ Df P w K mg base k f ["thing"] sIsSaid
  askof : ∃ f, mg "ask_of" = some (.ref f) ∧ Df P w K mg base k f ["wishes", "plan"] sAskOf
  refusals : ∃ f, mg "are_refusals" = some (.ref f) ∧ Df P w K mg base k f ["word", "pairs", "ask"] sAreRefusals
  left : ∃ f, mg "left_behind" = some (.ref f) ∧ Df P w K mg base k f ["word", "worth", "left"] sLeftBehind
  all : ∃ t, mg "ALL_wishes" = some (.int (-1) t)
  b_dict : mg "dict" = none
  b_tuple : mg "tuple" = none
  b_sorted : mg "sorted" = none
theorem sc_behind : FnScope ["wishes", "plan", "thing", "word", "pairs", "ask", "left", "lacking", "asked", "refused", "kind", "worth", "worths", "must", "needs", "old"] ["wishes", "plan", "thing"] (defScope (top 47)) := ⟨rfl, rfl, rfl, by decide +kernel, rfl, by decide +kernel, by decide +kernel⟩
theorem d_behind (F : FnP K "behind" (top 47) f fd) (B : Bh P w K mg base k) : Df P w K mg base (k + 1) f ["wishes", "plan", "thing"] sBehind := by
  have nd := sc_behind.nd
  refine df_by F sc_behind (fun _ _ _ _ _ _ us hl => match us, hl with | [_, _, _], _ => rfl) (fun args μ Q ⟨_, _, _, _, e, _⟩ => by rw [e]; rfl) fun cdv A outer s H E hr F args μ Q h => ?_
  obtain ⟨ws, pl, wd, ps, rfl, hw, hkeys, hnod, hlen, psl, psk, rfl, q⟩ := h
  obtain ⟨fS, gS, DS⟩ := B.said
  obtain ⟨fA, gA, DA⟩ := B.askof
  obtain ⟨fR, gR, DR'⟩ := B.refusals
  obtain ⟨fL, gL, DL⟩ := B.left
  refine xs_cons (xs_ifF (xt_not (xt_val (xe_call DS hr gS (xa_cons (xe_name (i := 2) rfl (xa_nil ⟨[], [], .nil, tWd wd, ps, rfl, psl, psk, rfl, true, rfl, rfl, xs_nil ?_⟩)))))))
  refine xs_cons (xs_asg [3, 4] (xe_name (i := 2) rfl ?_))
  refine xg_tupD (xgs_cons (xg_name (i := 3) (xgs_cons (xg_name (i := 4) (xgs_nil ?_) nd)) nd))
  refine xs_cons (xs_set (i := 5) (xe_call DA hr gA (xa_cons (xe_name (i := 0) rfl (xa_cons (xe_name (i := 1) rfl (xa_nil ⟨[], [], .nil, ws, pl, rfl, hw.1, fun v hv => ⟨(hw.2 v hv).1, (hw.2 v hv).2.2⟩, rfl, ?_⟩)))))) nd)
  have ak : ∀ p ∈ askOf ws pl, KOk p.1 := fun p hp => by
    obtain ⟨v, hv, e⟩ := List.mem_map.mp (ask_keys p hp)
    rw [← e]
    exact (hw.2 v hv).1
  have al : (askOf ws pl).length ≤ 1000 := by
    have h1 := askGo_len (ws.zip pl) []
    have h2 : (ws.zip pl).length ≤ ws.length := by rw [List.length_zip]; omega
    have h3 := hw.1
    simp only [List.length_nil] at h1
    show (askGo [] (ws.zip pl)).length ≤ 1000
    omega
  have akeys : ∀ p ∈ askOf ws pl, p.1 ∈ pl.map (·.1) := fun p hp => by rw [hkeys]; exact ask_keys p hp
  have eb : behind ws pl wd ps = (if wd = .yes then (if ps = askOf ws pl then some (.agreed (askOf ws pl)) else none) else if (wd = .no ∨ wd = .rather) ∧ areRefusals wd ps (askOf ws pl) = true then
    (match lacking ws (leftNow wd ps pl) with | some k => some (.failed k) | none => some (.plan (leftNow wd ps pl) (refusedBy wd ps (askOf ws pl)))) else none) := rfl
  rw [eb] at q
  clear eb
  have anod : ((askOf ws pl).map (·.1)).Nodup := ask_nodup hnod
  generalize askOf ws pl = a at q ak al akeys anod ⊢
  have pk : ∀ p ∈ ps, KOk p.1 := fun p hp => (psk p hp).1.k
  refine xs_cons (xs_if (xt_cm (xc_eq hr (xe_name (i := 3) rfl (xe_str ⟨_, _, .d _, .d _, (sh_str (ok_wd wd)).ok (by decide), (sh_str k_yes).ok (by decide), ?_⟩)))))
  rw [isYes]
  refine ⟨fun h1 => ?_, fun h1 => xs_nil ?_⟩
  · rw [if_pos (of_decide_eq_true h1)] at q
    refine xs_one (xs_ret (xe_if (xt_cm (xc_eq hr (xe_name (i := 4) rfl (xe_name (i := 5) rfl ⟨_, _, .d _, .d _, (sh_ask pk).ok (by decide), (sh_ask ak).ok (by decide), ?_⟩))))))
    rw [ap_ask]
    refine ⟨fun h2 => ?_, fun h2 => ?_⟩
    · rw [if_pos (of_decide_eq_true h2)] at q
      exact xe_tupD (xa_cons (xe_str (xa_cons (xe_name (i := 5) rfl (xa_nil ⟨[.str "agreed", eAsk a], rfl, by simp, [], .refl _, q⟩)))))
    · rw [if_neg (of_decide_eq_false h2)] at q
      exact xe_non ⟨[], .refl _, q⟩
  rw [if_neg (of_decide_eq_false h1)] at q
  refine xs_cons (xs_if (XT.mono (Q := fun k μ1 => k = !decide ((wd = .no ∨ wd = .rather) ∧ areRefusals wd ps a = true) ∧ μ1 = []) ?_ fun k μ1 ⟨ek, em⟩ => ?_))
  · refine xt_w (xw_or (xt_cm (xc_notin hr (xe_name (i := 3) rfl (xe_tupD ?_)))))
    refine xa_cons (xe_str (xa_cons (xe_str (xa_nil ⟨[.str "no", .str "rather"], rfl, by simp, _, _, .d _, .tup _, (sh_str (ok_wd wd)).ok (by decide), (sh_map (xs := [Wd.no, Wd.rather]) (enc := fun v => .str (tWd v)) fun v _ => sh_str (ok_wd v)).ok (by decide), ?_⟩))))
    rw [two_words]
    refine ⟨fun h2 => ⟨?_, rfl⟩, fun h2 => xw_or1 (xt_not (xt_val (xe_call DR' hr gR ?_)))⟩
    rotate_left
    · refine xa_cons (xe_name (i := 3) rfl (xa_cons (xe_name (i := 4) rfl (xa_cons (xe_name (i := 5) rfl (xa_nil ?_))))))
      refine ⟨[], [], .nil, wd, ps, a, rfl, psl, al, pk, ak, rfl, _, rfl, ?_, rfl⟩
      have h2' : wd = .no ∨ wd = .rather := nd_f h2
      cases areRefusals wd ps a with
      | true => rw [decide_eq_true ⟨h2', rfl⟩]
      | false => rw [decide_eq_false (fun z => Bool.false_ne_true z.2)]
    · have h2' : ¬ (wd = .no ∨ wd = .rather) := by simpa using h2
      rw [decide_eq_false fun z => h2' z.1]
      rfl
  subst ek em
  refine ⟨fun h2 => ?_, fun h2 => xs_nil ?_⟩
  · have h2' : ¬ ((wd = .no ∨ wd = .rather) ∧ areRefusals wd ps a = true) := nd_t h2
    rw [if_neg h2'] at q
    exact xs_one (xs_ret (xe_non ⟨[], .refl _, q⟩))
  have h2' : (wd = .no ∨ wd = .rather) ∧ areRefusals wd ps a = true := nd_f h2
  rw [if_pos h2'] at q
  obtain ⟨hin, pnd⟩ := refusals_at h2'.2
  have pnk : (pl.map (·.1)).Nodup := by rw [hkeys]; exact hnod
  have pin : ∀ y ∈ ps, ∃ l, lk pl y.1 = some l ∧ l.length ≤ 1000 := fun y hy => by
    obtain ⟨z, hz, e⟩ := List.mem_map.mp (hin y hy)
    obtain ⟨l, hl⟩ := lk_some (m := pl) (k := y.1) (by rw [← e]; exact akeys z hz)
    exact ⟨l, hl, hlen _ (lk_mem hl)⟩
  refine xs_cons (xs_set (i := 6) (xe_dictP B.b_dict (xa_cons (xe_name (i := 1) rfl (xa_nil ⟨_, _, kvB pl, rfl, .tup _, .inl trivial, prs_plan pl, fun p => ?_⟩)))) nd)
  rw [kvB_merge pnk]
  refine xs_cons (xs_expr (XE.sub (xe_upd (xe_name (i := 6) rfl ⟨p, _, rfl, List.mem_cons_self, xa_cons ?_⟩))))
  refine xe_dc ps (fun y => .d (eP y)) (fun y => y.1) (fun y => .d (eInts (leftBehind wd y.2 ((lk pl y.1).getD [])))) nd (own := [("kind", 10), ("worth", 11)]) (by kernel_rfl) ?_
  refine xi_tup (xe_name (i := 4) rfl ⟨trivial, _, .tup _, by rw [List.map_map]; rfl, trivial, by omega, fun y hy F' s H C cl fp => ?_, fun p2 => ?_⟩)
  · obtain ⟨l, hl, ll⟩ := pin y hy
    have hd : dk (kvB pl) y.1 = some (.d (eInts l)) := by rw [kvB_get, hl]; rfl
    refine xg_tupD (xgs_cons (xg_name (i := 10) (xgs_cons (xg_name (i := 11) (xgs_nil fun s H C cl fp => ?_) nd)) nd))
    refine xe_name (i := 10) rfl ⟨rfl, fun s H C cl fp => ?_⟩
    refine xe_call DL hr gL (xa_cons (xe_name (i := 3) rfl (xa_cons (xe_name (i := 11) rfl (xa_cons (xe_dget hr (xe_name (i := 6) rfl (xe_name (i := 10) rfl ⟨p, _, _, _, rfl, List.mem_cons_self, rfl, hd, ?_⟩))))))))
    refine xa_nil ⟨[], [_], .refl _, wd, y.2, l, rfl, ll, rfl, ?_, .refl _⟩
    show _ = Rv.d (eInts (leftBehind wd y.2 ((lk pl y.1).getD [])))
    rw [hl]
    rfl
  have hk2 : ∀ k ∈ ps.map (·.1), k ∈ pl.map (·.1) := fun k hk => by
    obtain ⟨y, hy, rfl⟩ := List.mem_map.mp hk
    obtain ⟨z, hz, e⟩ := List.mem_map.mp (hin y hy)
    rw [← e]
    exact akeys z hz
  have pll : pl.length ≤ 1000 := by
    have h1 : (pl.map (·.1)).length = (ws.map (·.kind)).length := by rw [hkeys]
    rw [List.length_map, List.length_map] at h1
    have := hw.1
    omega
  refine xa_nil ⟨p2, kvB pl, _, _, rfl, .inr (.refl _), ?_, .there .here, [(p, .dic (kvB (leftNow wd ps pl)))], ?_, ?_⟩
  · refine Nat.le_trans (Nat.add_le_add_left (dmerge_le _ _) _) ?_
    unfold kvB
    rw [List.length_map, List.length_map]
    simp only [List.length_nil]
    omega
  · rw [left_kv pnd pnk hk2]
    exact .cons _ (.refl _)
  have Lk : (leftNow wd ps pl).map (·.1) = ws.map (·.kind) := (left_keys wd ps pl).trans hkeys
  have Ln : (leftNow wd ps pl).length ≤ 1000 := by
    unfold leftNow
    rw [List.length_map]
    exact pll
  generalize leftNow wd ps pl = L at q Lk Ln ⊢
  have lw : ws.length ≤ 100000 := by have := hw.1; omega
  refine xs_cons (xs_setMapF (i := 7) ws (fun v => .d (eWish v)) (fun v => .d (.str v.kind)) (fun v => v.must && decide (lk L v.kind = some [])) nd (own := [("kind", 10), ("worths", 12), ("must", 13), ("needs", 14)]) (by kernel_rfl) ?_)
  refine xi_tup (xe_name (i := 0) rfl ⟨trivial, _, .tup _, by rw [List.map_map]; rfl, trivial, lw, fun y hy F' s H C cl fp => ?_, fun p3 => ?_⟩)
  · obtain ⟨l, hl⟩ := lk_some (m := L) (k := y.kind) (by rw [Lk]; exact List.mem_map.mpr ⟨y, hy, rfl⟩)
    have hd : dk (kvB L) y.kind = some (.d (eInts l)) := by rw [kvB_get, hl]; rfl
    refine xg_tupD (xgs_cons (xg_name (i := 10) (xgs_cons (xg_name (i := 12) (xgs_cons (xg_name (i := 13) (xgs_cons (xg_name (i := 14) (xgs_nil fun s H C cl fp => ?_) nd)) nd)) nd)) nd))
    refine xt_w (xw_and (xt_val (xe_name (i := 13) rfl ⟨y.must, rfl, fun hm => ?_, fun hm => ?_⟩)))
    · refine xw_and1 (xt_cm (xc_eq hr (xe_dget hr (xe_name (i := 6) rfl (xe_name (i := 10) rfl ⟨p, _, _, _, rfl, List.mem_cons_self, rfl, hd, ?_⟩)))))
      refine xe_tupD (xa_nil ⟨[], rfl, by simp, _, _, .d _, .d _, (sh_ints l).ok (by decide), sh_nil.ok (by decide), ?_⟩)
      rw [eqv_ints0]
      refine ⟨?_, fun _ s H C cl fp => xe_name (i := 10) rfl ⟨rfl, .refl _⟩, fun _ => .refl _⟩
      show _ = (y.must && decide (lk L y.kind = some []))
      rw [hm, hl]
      cases l <;> rfl
    · refine ⟨?_, (fun z => ?_), fun _ => .refl _⟩
      · show _ = (y.must && decide (lk L y.kind = some []))
        rw [hm]
        rfl
      · have z' : (y.must && decide (lk L y.kind = some [])) = true := z
        rw [hm] at z'
        cases z'
  have eh : lacking ws L = ((ws.filter fun v => v.must && decide (lk L v.kind = some [])).map (·.kind)).head? := by
    unfold lacking
    rw [List.head?_map, List.head?_filter]
  rw [eh] at q
  have hok : ∀ v ∈ ws.filter fun v => v.must && decide (lk L v.kind = some []), KOk v.kind := fun v hv => (hw.2 v (List.mem_filter.mp hv).1).1
  clear eh
  generalize (ws.filter fun v => v.must && decide (lk L v.kind = some [])) = lf at q hok ⊢
  have elf : (lf.map fun v => Rv.d (.str v.kind)) = (lf.map fun v => PyData.str v.kind).map Rv.d := by rw [List.map_map]; rfl
  rw [elf]
  refine xs_cons (xs_if (xt_cm (xc_ne hr (xe_name (i := 7) rfl (xe_lst (xa_nil ⟨by simp, fun p4 => ?_⟩))))))
  refine ⟨.list (lf.map fun v => PyData.str v.kind), .list [], .lst (List.mem_cons_of_mem _ List.mem_cons_self), .lst List.mem_cons_self, (sh_mapL fun v hv => sh_str (hok v hv)).ok (n := 1) (by decide), (sh_lst (n := 0) fun x h => by cases h).ok (by decide), ?_⟩
  rw [eqv_list0]
  refine ⟨fun h3 => ?_, fun h3 => xs_nil ?_⟩
  · cases lf with
    | nil => cases h3
    | cons v lf =>
      refine xs_one (xs_ret (xe_tupD (xa_cons (xe_str (xa_cons (xe_ix ?_))))))
      refine xe_name (i := 7) rfl (xe_int ⟨_, 0, .d (.str v.kind), .lst (List.mem_cons_of_mem _ List.mem_cons_self), rfl, atI_nat (j := 0) rfl, ?_⟩)
      exact xa_nil ⟨[.str "failed", .str v.kind], rfl, by simp, [], List.nil_sublist _, q⟩
  have e3 : lf = [] := by
    cases lf with
    | nil => rfl
    | cons v lf => cases h3
  subst e3
  refine XSs.at_ (.cons _ (.cons _ (.refl _))) ?_
  have pinA : ∀ y ∈ ps, ∃ v, lk a y.1 = some v := fun y hy => lk_some (hin y hy)
  refine xs_cons (xs_set (i := 8) (xe_dictP B.b_dict (xa_cons (xe_name (i := 5) rfl (xa_nil ⟨_, _, (a.map fun z => (z.1, .d (.int z.2))), rfl, .tup _, .inl trivial, prs_ask a, fun p5 => ?_⟩)))) nd)
  have am : dmerge [] (a.map fun z => (z.1, Rv.d (.int z.2))) = a.map fun z => (z.1, Rv.d (.int z.2)) := by
    rw [dmerge_nodup]
    · rfl
    · rw [List.nil_append, List.map_map]
      exact anod
  rw [am]
  refine xs_cons (xs_set (i := 9) (xe_sortP hr B.b_sorted (xa_cons ?_)) nd)
  refine xe_map ps (fun y => .d (eP y)) (fun y => .d (eP (y.1, if wd = .no then -1 else (lk a y.1).getD 0))) nd (own := [("kind", 10), ("worth", 11)]) (by kernel_rfl) ?_
  refine xi_tup (xe_name (i := 4) rfl ⟨trivial, _, .tup _, by rw [List.map_map]; rfl, trivial, by omega, fun y hy F' s H C cl fp => ?_, fun p6 => ?_⟩)
  · obtain ⟨v, hv⟩ := pinA y hy
    have hd : dk (a.map fun z => (z.1, Rv.d (.int z.2))) y.1 = some (.d (.int v)) := by
      have := lk_map (fun _ (i : Int) => Rv.d (.int i)) a y.1
      show lk (a.map fun z => (z.1, Rv.d (.int z.2))) y.1 = _
      rw [this, hv]
      rfl
    refine xg_tupD (xgs_cons (xg_name (i := 10) (xgs_cons (xg_name (i := 11) (xgs_nil fun s H C cl fp => ?_) nd)) nd))
    refine xe_tupD (xa_cons (xe_name (i := 10) rfl (xa_cons ?_)))
    refine xe_if (xt_cm (xc_eq hr (xe_name (i := 3) rfl (xe_str ⟨_, _, .d _, .d _, (sh_str (ok_wd wd)).ok (by decide), (sh_str k_no).ok (by decide), ?_⟩))))
    rw [isNo]
    refine ⟨fun h4 => xe_gint B.all (xa_nil ⟨[.str y.1, .int (-1)], rfl, by simp, ?_, .refl _⟩), fun h4 => xe_dget hr (xe_name (i := 8) rfl (xe_name (i := 10) rfl ⟨p5, _, _, _, rfl, List.mem_cons_self, rfl, hd, xa_nil ⟨[.str y.1, .int v], rfl, by simp, ?_, .refl _⟩⟩))⟩
    · show _ = Rv.d (eP (y.1, if wd = .no then -1 else (lk a y.1).getD 0))
      rw [if_pos (of_decide_eq_true h4)]
      rfl
    · show _ = Rv.d (eP (y.1, if wd = .no then -1 else (lk a y.1).getD 0))
      rw [if_neg (of_decide_eq_false h4), hv]
      rfl
  refine xa_nil ⟨p6, ps.map fun y => (y.1, if wd = .no then -1 else (lk a y.1).getD 0), rfl, by rw [List.map_map]; exact List.mem_cons_self, by rw [List.length_map]; exact psl, fun p7 => ?_⟩
  refine xs_one (xs_ret (xe_tupD (xa_cons (xe_str (xa_cons ?_)))))
  refine xe_tupleD B.b_tuple (xa_cons ?_)
  refine xe_map pl (fun y => .d (eEntry y)) (fun y => .d (eEntry (y.1, (lk L y.1).getD []))) nd (own := [("kind", 10), ("old", 15)]) (by kernel_rfl) ?_
  refine xi_tup (xe_name (i := 1) rfl ⟨trivial, _, .tup _, by rw [List.map_map]; rfl, trivial, by omega, fun y hy F' s H C cl fp => ?_, fun p8 => ?_⟩)
  · obtain ⟨l, hl⟩ := lk_some (m := L) (k := y.1) (by rw [Lk, ← hkeys]; exact List.mem_map.mpr ⟨y, hy, rfl⟩)
    have hd : dk (kvB L) y.1 = some (.d (eInts l)) := by rw [kvB_get, hl]; rfl
    refine xg_tupD (xgs_cons (xg_name (i := 10) (xgs_cons (xg_name (i := 15) (xgs_nil fun s H C cl fp => ?_) nd)) nd))
    refine xe_tupD (xa_cons (xe_name (i := 10) rfl (xa_cons (xe_dget hr (xe_name (i := 6) rfl (xe_name (i := 10) rfl ⟨p, _, _, _, rfl, ?_, rfl, hd, ?_⟩))))))
    · exact .tail _ (.tail _ (.tail _ (.head _)))
    · refine xa_nil ⟨[.str y.1, eInts l], rfl, by simp, ?_, .refl _⟩
      show _ = Rv.d (eEntry (y.1, (lk L y.1).getD []))
      rw [hl]
      rfl
  have eL : (pl.map fun y => Rv.d (eEntry (y.1, (lk L y.1).getD []))) = (L.map eEntry).map Rv.d := by
    have := congrArg (fun m => (m.map eEntry).map Rv.d) (keys_same (Lk.trans hkeys.symm) (by rw [Lk]; exact hnod))
    simp only [List.map_map] at this ⊢
    exact this
  rw [eL]
  refine xa_nil ⟨p8, L.map eEntry, rfl, List.mem_cons_self, ?_⟩
  refine xa_cons (xe_tupleD B.b_tuple (xa_cons (xe_name (i := 9) rfl (xa_nil ⟨p7, (srt (ps.map fun y => (y.1, if wd = .no then -1 else (lk a y.1).getD 0))).map eP, rfl, ?_, ?_⟩))))
  · have er : ∀ m : Ask, (m.map fun b => Rv.d (eP b)) = (m.map eP).map Rv.d := fun m => by rw [List.map_map]; rfl
    rw [← er]
    exact .tail _ (.head _)
  · exact xa_nil ⟨[.str "plan", ePlan L, eAsk (refusedBy wd ps a)], rfl, by simp, [], List.nil_sublist _, q⟩
end
end Wk

/-! text Wk10 -/
/-! The walk: what is unsafe. -/
namespace Wk
open PySem PySem.Spec PyProof.Rows L2 Ds Cw
def againB (e : Cw.End) : Bool := (askOf e.wishes e.plan).any fun p => decide (p ∈ e.refused) || decide ((p.1, -1) ∈ e.refused)
def sAsksAgain : Sc := fun args μ Q => ∃ e : Cw.End, args = [.d (eEnd e)] ∧ WsOk e.wishes ∧ (∀ z ∈ e.refused, KOk z.1) ∧ μ = [] ∧ Q (.d (.bool (!e.closed && againB e))) []
theorem any_map_id {α : Type} (f : α → Bool) (l : List α) : (l.map f).any id = l.any f := by rw [List.any_map]; rfl
theorem memP (p : Pair) (l : Ask) : ((l.map eP).any fun z => PyData.eqv z (eP p)) = decide (p ∈ l) := by
  rw [ap_pair.mem]
  exact decide_eq_decide.mpr Iff.rfl
section
variable {P : Program} {w : World} {K : PySem.W.Frag} {mg : Str → Option Value} {base : Heap} {f : Addr} {fd : FuncData} {k : Nat} {kws : List (Str × V)}
theorem sc_asks_again : FnScope ["end", "refused", "pair"] ["end"] (defScope (top 82)) := ⟨rfl, rfl, rfl, by decide +kernel, rfl, by decide +kernel, by decide +kernel⟩
theorem d_asks_again (gN : mg "any" = none) (gA : ∃ t, mg "ALL_unsafe" = some (.int (-1) t)) (F : FnP K "asks_again" (top 82) f fd) {fS : Addr} (DS : Df P w K mg base k fS ["end"] sStandWord) (gS : mg "stand_word" = some (.ref fS)) {fO : Addr} (DO : Df P w K mg base k fO ["wishes", "plan"] sAskOf) (gO : mg "ask_of" = some (.ref fO)) : Df P w K mg base (k + 1) f ["end"] sAsksAgain := by
  have nd := sc_asks_again.nd
  refine df_by F sc_asks_again (fun _ _ _ _ _ _ us hl => match us, hl with | [_], _ => rfl) (fun args μ Q ⟨_, e, _⟩ => by rw [e]; rfl) fun cdv A outer s H E hr F args μ Q h => ?_
  obtain ⟨e, rfl, hw, hrk, rfl, q⟩ := h
  refine xs_cons (xs_if (xt_cm (xc_eq hr (xe_call DS hr gS (xa_cons (xe_name (i := 0) rfl (xa_nil ⟨[], [], .nil, e, rfl, rfl, ?_⟩)))))))
  refine xe_str ⟨_, _, .d _, .d _, (sh_str (ok_stand e)).ok (by decide), (sh_str k_closed).ok (by decide), ?_⟩
  rw [ne_closed]
  refine ⟨fun hc => ?_, fun hc => xs_nil ?_⟩
  · rw [hc] at q
    exact xs_one (xs_ret (xe_bl ⟨[], .refl _, q⟩))
  rw [hc] at q
  refine xs_cons (xs_set (i := 1) (xe_ix (xe_name (i := 0) rfl (xe_int ⟨_, 7, .d (eAsk e.refused), .tup _, rfl, rfl, ?_⟩))) nd)
  refine xs_one (xs_ret (xe_any gN (xa_cons ?_)))
  have ak : ∀ p ∈ askOf e.wishes e.plan, KOk p.1 := fun p hp => by
    obtain ⟨v, hv, ee⟩ := List.mem_map.mp (ask_keys p hp)
    rw [← ee]
    exact (hw.2 v hv).1
  have al : (askOf e.wishes e.plan).length ≤ 1000 := by
    have h1 := askGo_len (e.wishes.zip e.plan) []
    have h2 : (e.wishes.zip e.plan).length ≤ e.wishes.length := by rw [List.length_zip]; omega
    have h3 := hw.1
    simp only [List.length_nil] at h1
    show (askGo [] (e.wishes.zip e.plan)).length ≤ 1000
    omega
  refine xe_map (askOf e.wishes e.plan) (fun p => .d (eP p)) (fun p => .d (.bool (decide (p ∈ e.refused) || decide ((p.1, -1) ∈ e.refused)))) nd (own := [("pair", 2)]) (by kernel_rfl) ?_
  refine xi_tup (xe_call DO hr gO (xa_cons (xe_ix (xe_name (i := 0) rfl (xe_int ⟨_, 1, .d (eWishes e.wishes), .tup _, rfl, rfl, ?_⟩)))))
  refine xa_cons (xe_ix (xe_name (i := 0) rfl (xe_int ⟨_, 6, .d (ePlan e.plan), .tup _, rfl, rfl, ?_⟩)))
  refine xa_nil ⟨[], [], .nil, e.wishes, e.plan, rfl, hw.1, fun v hv => ⟨(hw.2 v hv).1, (hw.2 v hv).2.2⟩, rfl, ?_⟩
  refine ⟨trivial, _, .tup _, by rw [List.map_map]; rfl, trivial, by omega, fun y hy F' s H C cl fp => ?_, fun p2 => ?_⟩
  · refine xg_name (i := 2) (fun s H C cl fp => ?_) nd
    refine xe_or (xe_cm (xc_in hr (xe_name (i := 2) rfl (xe_name (i := 1) rfl ⟨_, _, .d _, .tup _, (sh_pair (ak y hy)).ok (by decide), (sh_ask hrk).ok (by decide), _, rfl, ?_, ?_⟩))))
    · intro h1
      have h1' : decide (y ∈ e.refused) = true := (memP y e.refused).symm.trans h1
      refine ⟨?_, .refl _⟩
      show _ = Rv.d (.bool (decide (y ∈ e.refused) || decide ((y.1, -1) ∈ e.refused)))
      rw [h1']
      rfl
    · intro h1
      have h1' : decide (y ∈ e.refused) = false := (memP y e.refused).symm.trans h1
      refine xe_one (xe_cm (xc_in hr (xe_tupD (xa_cons (xe_ix (xe_name (i := 2) rfl (xe_int ⟨_, 0, .d (.str y.1), .tup _, rfl, rfl, ?_⟩)))))))
      refine xa_cons (xe_gint gA (xa_nil ⟨[.str y.1, .int (-1)], rfl, by simp, xe_name (i := 1) rfl ⟨_, _, .d (eP (y.1, -1)), .tup _, (sh_pair (p := (y.1, -1)) (ak y hy)).ok (by decide), (sh_ask hrk).ok (by decide), ?_, .refl _⟩⟩))
      show _ = Rv.d (.bool (decide (y ∈ e.refused) || decide ((y.1, -1) ∈ e.refused)))
      rw [h1']
      exact congrArg (fun b => Rv.d (.bool b)) (memP (y.1, -1) e.refused)
  · refine xa_nil ⟨p2, (askOf e.wishes e.plan).map fun p => decide (p ∈ e.refused) || decide ((p.1, -1) ∈ e.refused), rfl, by rw [List.map_map]; exact List.mem_cons_self, ?_⟩
    rw [any_map_id]
    exact ⟨[], List.nil_sublist _, q⟩
end
end Wk

/-! text Wk11 -/
/-! The walk: beyond. -/
namespace Wk
open PySem PySem.Spec PyProof.Rows L2 Ds Cw
def worthsOf (ws : List Wish) : List (Str × List Int) := ws.map fun w => (w.kind, w.worths)
def beyondB (e : Cw.End) (b : Bounds) (a : Ask) : Bool := a.any fun p => !decide (p.2 ∈ (lk (worthsOf e.wishes) p.1).getD []) || !decide (p.2 ∈ (lk b p.1).getD [])
def sIsBeyond : Sc := fun args μ Q => ∃ (e : Cw.End) (b : Bounds) (a : Ask), args = [.d (eEnd e), .d (ePlan b)] ∧ e.given = some a ∧ WsOk e.wishes ∧ (e.wishes.map (·.kind)).Nodup ∧ BdOk b ∧ a.length ≤ 1000 ∧ (∀ z ∈ a, KOk z.1) ∧ μ = [] ∧ Q (.d (.bool (beyondB e b a))) []
theorem get_kvB (b : List (Str × List Int)) (x : Str) : (dk (kvB b) x).getD (.d (.tuple [])) = .d (eInts ((lk b x).getD [])) := by
  rw [kvB_get]
  cases lk b x <;> rfl
section
variable {P : Program} {w : World} {K : PySem.W.Frag} {mg : Str → Option Value} {base : Heap} {f : Addr} {fd : FuncData} {k : Nat} {kws : List (Str × V)}
theorem sc_is_beyond : FnScope ["end", "bounds", "mine", "yours", "kind", "worths", "must", "needs", "worth"] ["end", "bounds"] (defScope (top 81)) := ⟨rfl, rfl, rfl, by decide +kernel, rfl, by decide +kernel, by decide +kernel⟩
theorem d_is_beyond (gN : mg "any" = none) (gD : mg "dict" = none) (F : FnP K "is_beyond" (top 81) f fd) {fG : Addr} (DG : Df P w K mg base k fG ["end"] sGivenTo) (gG : mg "given_to" = some (.ref fG)) : Df P w K mg base (k + 1) f ["end", "bounds"] sIsBeyond := by
  have nd := sc_is_beyond.nd
  refine df_by F sc_is_beyond (fun _ _ _ _ _ _ us hl => match us, hl with | [_, _], _ => rfl) (fun args μ Q ⟨_, _, _, e, _⟩ => by rw [e]; rfl) fun cdv A outer s H E hr F args μ Q h => ?_
  obtain ⟨e, b, a, rfl, hg, hw, hn, ⟨bn, bl, bk⟩, al, ak, rfl, q⟩ := h
  refine xs_cons (xs_set (i := 2) (xe_dc e.wishes (fun v => .d (eWish v)) (fun v => v.kind) (fun v => .d (eInts v.worths)) nd (own := [("kind", 4), ("worths", 5), ("must", 6), ("needs", 7)]) (by kernel_rfl) ?_) nd)
  have lw : e.wishes.length ≤ 100000 := by have := hw.1; omega
  refine xi_tup (xe_ix (xe_name (i := 0) rfl (xe_int ⟨_, 1, .d (eWishes e.wishes), .tup _, rfl, rfl, trivial, _, .tup _, by rw [List.map_map]; rfl, trivial, lw, fun y hy F' s H C cl fp => ?_, fun p => ?_⟩)))
  · refine xg_tupD (xgs_cons (xg_name (i := 4) (xgs_cons (xg_name (i := 5) (xgs_cons (xg_name (i := 6) (xgs_cons (xg_name (i := 7) (xgs_nil fun s H C cl fp => ?_) nd)) nd)) nd)) nd))
    exact xe_name (i := 4) rfl ⟨rfl, fun s H C cl fp => xe_name (i := 5) rfl ⟨rfl, .refl _⟩⟩
  have em : dmerge [] (e.wishes.map fun v => (v.kind, Rv.d (eInts v.worths))) = kvB (worthsOf e.wishes) := by
    rw [dmerge_nodup]
    · unfold kvB worthsOf
      rw [List.map_map]
      rfl
    · rw [List.nil_append, List.map_map]
      exact hn
  rw [em]
  refine xs_cons (xs_set (i := 3) (xe_dictP gD (xa_cons (xe_name (i := 1) rfl (xa_nil ⟨_, _, kvB b, rfl, .tup _, .inl trivial, prs_plan b, fun p2 => ?_⟩)))) nd)
  rw [kvB_merge bn]
  refine xs_one (xs_ret (xe_any gN (xa_cons ?_)))
  refine xe_map a (fun y => .d (eP y)) (fun y => .d (.bool (!decide (y.2 ∈ (lk (worthsOf e.wishes) y.1).getD []) || !decide (y.2 ∈ (lk b y.1).getD [])))) nd (own := [("kind", 4), ("worth", 8)]) (by kernel_rfl) ?_
  refine xi_tup (xe_call DG hr gG (xa_cons (xe_name (i := 0) rfl (xa_nil ⟨[], [_, _], .refl _, e, rfl, rfl, ?_⟩))))
  rw [hg]
  refine ⟨trivial, _, .tup _, by rw [List.map_map]; rfl, trivial, by omega, fun y hy F' s H C cl fp => ?_, fun p3 => ?_⟩
  · refine xg_tupD (xgs_cons (xg_name (i := 4) (xgs_cons (xg_name (i := 8) (xgs_nil fun s H C cl fp => ?_) nd)) nd))
    refine xe_or (xe_cm (xc_notin hr (xe_name (i := 8) rfl (xe_dgetD hr (by constructor <;> rfl) ?_))))
    refine xe_name (i := 2) rfl ⟨p, _, rfl, .tail _ (.head _), xe_name (i := 4) rfl (xe_tupD (xa_nil ⟨[], rfl, by simp, y.1, rfl, .tail _ (.head _), ?_⟩))⟩
    rw [get_kvB]
    refine ⟨_, _, .d _, .tup _, (sh_int _).ok (by decide), (sh_ints _).ok (by decide), _, rfl, fun h1 => ?_, fun h1 => ?_⟩
    · rw [ap_int.mem] at h1
      refine ⟨?_, .refl _⟩
      show _ = Rv.d (.bool (!decide (y.2 ∈ (lk (worthsOf e.wishes) y.1).getD []) || !decide (y.2 ∈ (lk b y.1).getD [])))
      rw [h1]
      rfl
    · rw [ap_int.mem] at h1
      refine xe_one (xe_cm (xc_notin hr (xe_name (i := 8) rfl (xe_dgetD hr (by constructor <;> rfl) ?_))))
      refine xe_name (i := 3) rfl ⟨p2, _, rfl, .head _, xe_name (i := 4) rfl (xe_tupD (xa_nil ⟨[], rfl, by simp, y.1, rfl, .head _, ?_⟩))⟩
      rw [get_kvB]
      refine ⟨_, _, .d _, .tup _, (sh_int _).ok (by decide), (sh_ints _).ok (by decide), ?_, .refl _⟩
      show _ = Rv.d (.bool (!decide (y.2 ∈ (lk (worthsOf e.wishes) y.1).getD []) || !decide (y.2 ∈ (lk b y.1).getD [])))
      rw [ap_int.mem, h1]
      rfl
  · refine xa_nil ⟨p3, a.map fun y => !decide (y.2 ∈ (lk (worthsOf e.wishes) y.1).getD []) || !decide (y.2 ∈ (lk b y.1).getD []), rfl, by rw [List.map_map]; exact List.mem_cons_self, ?_⟩
    rw [any_map_id]
    exact ⟨[], List.nil_sublist _, q⟩
end
end Wk

/-! text Wk12 -/
/-! The walk: are_unlike. -/
namespace Wk
open PySem PySem.Spec PyProof.Rows L2 Ds Cw
def unlikeB (x y : Cw.End) : Bool := openWith x y && (decide (x.given ≠ y.took) || decide (y.given ≠ x.took))
def sUnlike : Sc := fun args μ Q => ∃ x y : Cw.End, args = [.d (eEnd x), .d (eEnd y)] ∧ (∀ o ∈ [x.given, y.given, x.took, y.took], ∀ a, o = some a → ∀ z ∈ a, KOk z.1) ∧ μ = [] ∧ Q (.d (.bool (unlikeB x y))) []
theorem sh_oask {o : Option Ask} (h : ∀ a, o = some a → ∀ z ∈ a, KOk z.1) : Sh 2 (eOAsk o) := by
  cases o with
  | none => exact sh_none.mono (by decide)
  | some a => exact sh_ask (h a rfl)
theorem eqv_oask (o p : Option Ask) : PyData.eqv (eOAsk o) (eOAsk p) = decide (o = p) := by
  cases o with
  | none =>
    cases p with
    | none => exact eqv_none.trans rfl
    | some a => simp [eOAsk, eAsk, PyData.eqv]
  | some a =>
    cases p with
    | none => simp [eOAsk, eAsk, PyData.eqv]
    | some b =>
      show PyData.eqv (eAsk a) (eAsk b) = _
      rw [ap_ask]
      exact decide_eq_decide.mpr ⟨fun h => by rw [h], fun h => by cases h; rfl⟩
section
variable {P : Program} {w : World} {K : PySem.W.Frag} {mg : Str → Option Value} {base : Heap} {f : Addr} {fd : FuncData} {k : Nat} {kws : List (Str × V)}
theorem sc_unlike : FnScope ["one", "other"] ["one", "other"] (defScope (top 80)) := ⟨rfl, rfl, rfl, by decide +kernel, rfl, by decide +kernel, by decide +kernel⟩
theorem d_unlike (F : FnP K "are_unlike" (top 80) f fd) {fO fG fT : Addr} (DO : Df P w K mg base k fO ["one", "other"] sOpenWith) (gO : mg "stands_open_with" = some (.ref fO)) (DG : Df P w K mg base k fG ["end"] sGivenTo) (gG : mg "given_to" = some (.ref fG)) (DT : Df P w K mg base k fT ["end"] sTookBy) (gT : mg "took_by" = some (.ref fT)) :
    Df P w K mg base (k + 1) f ["one", "other"] sUnlike := by
  have nd := sc_unlike.nd
  refine df_by F sc_unlike (fun _ _ _ _ _ _ us hl => match us, hl with | [_, _], _ => rfl) (fun args μ Q ⟨_, _, e, _⟩ => by rw [e]; rfl) fun cdv A outer s H E hr F args μ Q h => ?_
  obtain ⟨x, y, rfl, hk, rfl, q⟩ := h
  have k1 := sh_oask (hk x.given (by simp))
  have k2 := sh_oask (hk y.given (by simp))
  have k3 := sh_oask (hk x.took (by simp))
  have k4 := sh_oask (hk y.took (by simp))
  unfold unlikeB at q
  refine xs_one (xs_ret (xe_and (xe_call DO hr gO (xa_cons (xe_name (i := 0) rfl (xa_cons (xe_name (i := 1) rfl (xa_nil ⟨[], [], .nil, x, y, rfl, rfl, openWith x y, rfl, fun h1 => ?_, fun h1 => ?_⟩))))))))
  rotate_left
  · rw [h1] at q
    exact ⟨[], .refl _, q⟩
  rw [h1] at q
  refine xe_one (xe_or (xe_cm (xc_ne hr (xe_call DG hr gG (xa_cons (xe_name (i := 0) rfl (xa_nil ⟨[], [], .nil, x, rfl, rfl, ?_⟩)))))))
  refine xe_call DT hr gT (xa_cons (xe_name (i := 1) rfl (xa_nil ⟨[], [], .nil, y, rfl, rfl, ?_⟩)))
  refine ⟨_, _, .d _, .d _, k1.ok (by decide), k4.ok (by decide), _, rfl, fun h2 => ?_, fun h2 => ?_⟩
  · rw [eqv_oask] at h2
    have h2' : decide (x.given ≠ y.took) = true := decide_eq_true (nd_t h2)
    rw [h2'] at q
    exact ⟨[], .refl _, q⟩
  · rw [eqv_oask] at h2
    have h2' : decide (x.given ≠ y.took) = false := decide_eq_false fun z => z (nd_f h2)
    rw [h2'] at q
    refine xe_one (xe_cm (xc_ne hr (xe_call DG hr gG (xa_cons (xe_name (i := 1) rfl (xa_nil ⟨[], [], .nil, y, rfl, rfl, ?_⟩))))))
    refine xe_call DT hr gT (xa_cons (xe_name (i := 0) rfl (xa_nil ⟨[], [], .nil, x, rfl, rfl, ?_⟩)))
    refine ⟨_, _, .d _, .d _, k2.ok (by decide), k3.ok (by decide), ?_⟩
    rw [eqv_oask]
    have h3 : (!decide (y.given = x.took)) = decide (y.given ≠ x.took) := by
      by_cases h : y.given = x.took
      · rw [decide_eq_true h, decide_eq_false fun z => z h]
        rfl
      · rw [decide_eq_false h, decide_eq_true h]
        rfl
    rw [h3]
    exact ⟨[], .refl _, q⟩
end
end Wk

/-! text Wk13 -/
/-! The walk: as_end of a dict in any order. -/
namespace Wk
open PySem PySem.Spec PyProof.Rows L2 Ds Cw
def sAsEndG : Sc := fun args μ Q => ∃ (p : Addr) (st : Str) (e : Cw.End) (kvs : List (Str × Rv)), args = [.r (.ref p)] ∧ KOk st ∧ decide (st = "closed") = e.closed ∧ (∀ x ∈ PARTS, dk kvs x = dk (Kv st e) x) ∧ μ = [(p, .dic kvs)] ∧ Q (.d (eEnd e)) μ
section
variable {P : Program} {w : World} {K : PySem.W.Frag} {mg : Str → Option Value} {base : Heap} {f : Addr} {fd : FuncData} {k : Nat}
theorem d_as_endG (g : Gx P w K mg) (F : FnP K "as_end" (top 30) f fd) : Df P w K mg base (k + 1) f ["known"] sAsEndG := by
  have nd := sc_as_end.nd
  refine df_by F sc_as_end (fun _ _ _ _ _ _ us hl => match us, hl with | [_], _ => rfl) (fun args μ Q ⟨_, _, _, _, e, _⟩ => by rw [e]; rfl) fun cdv A outer s H E hr F args μ Q h => ?_
  obtain ⟨p, st, e, kvs, rfl, hk, hst, hd, rfl, q⟩ := h
  obtain ⟨aP, gP, rP⟩ := g.parts
  -- stand
  refine xs_cons (xs_set (i := 1) (XE.to (r0 := .d (.str (if e.given.isSome && e.took.isSome then ("open" : Str) else ("asking" : Str)))) (μ0 := [(p, .dic kvs)]) ?_ ?_) nd)
  · refine xe_if (xt_w (xw_and (xt_cm (xc_notN (xe_dget hr (xe_name (i := 0) rfl (xe_str ⟨p, _, _, _, rfl, List.mem_cons_self, rfl, ((hd "given" (by decide +kernel)).trans (kv_given st e)), .inl ⟨_, rfl, ?_⟩⟩)))))))
    rw [notN_oask]
    refine ⟨fun h1 => xw_and1 (xt_cm (xc_notN (xe_dget hr (xe_name (i := 0) rfl (xe_str ⟨p, _, _, _, rfl, List.mem_cons_self, rfl, ((hd "took" (by decide +kernel)).trans (kv_took st e)), .inl ⟨_, rfl, ?_⟩⟩))))), fun h1 => ⟨(fun z => by cases z), fun _ => xe_str ⟨by rw [h1]; rfl, .refl _⟩⟩⟩
    rw [notN_oask]
    exact ⟨fun h2 => xe_str ⟨by rw [h1, h2]; rfl, .refl _⟩, fun h2 => xe_str ⟨by rw [h1, h2]; rfl, .refl _⟩⟩
  -- now
  refine xs_cons (xs_set (i := 2) (XE.to (r0 := .d (.str (tStand e))) (μ0 := [(p, .dic kvs)]) ?_ ?_) nd)
  · refine xe_if (xt_cm (xc_eq hr (xe_dget hr (xe_name (i := 0) rfl (xe_str ⟨p, _, _, _, rfl, List.mem_cons_self, rfl, ((hd "stand" (by decide +kernel)).trans (kv_stand st e)), xe_str ⟨_, _, .d _, .d _, (sh_str hk).ok (by decide), (sh_str k_closed).ok (by decide), ?_⟩⟩)))))
    rw [eqv_str, hst]
    refine ⟨fun hc => xe_dget hr (xe_name (i := 0) rfl (xe_str ⟨p, _, _, _, rfl, List.mem_cons_self, rfl, ((hd "stand" (by decide +kernel)).trans (kv_stand st e)), ?_, .refl _⟩)), fun hc => xe_name (i := 1) rfl ⟨?_, .refl _⟩⟩
    · rw [hc] at hst
      have : tStand e = st := by
        unfold tStand
        rw [if_pos hc, of_decide_eq_true hst]
      rw [this]
    · have : tStand e = if e.given.isSome && e.took.isSome then ("open" : Str) else ("asking" : Str) := by
        unfold tStand
        rw [if_neg (show ¬ e.closed = true by rw [hc]; exact Bool.false_ne_true)]
      rw [this]
  -- the tuple
  refine xs_one (xs_ret (xe_tupleD g.b_tuple (xa_cons ?_)))
  refine xe_map (partsV e) (fun y => .d (.str y.1)) (fun y => .d y.2) nd (own := [("part", 3)]) (by kernel_rfl) ?_
  refine xi_tup (xe_glob (v := .ref aP) rfl gP rfl rP ⟨trivial, _, .tup _, rfl, trivial, by simp [partsV], fun y hy F' s H C cl fp => ?_, fun p2 => ?_⟩)
  · refine xg_name (i := 3) (fun s H C cl fp => ?_) nd
    refine xe_if (xt_cm (xc_eq hr (xe_name (i := 3) rfl (xe_str ⟨_, _, .d _, .d _, (sh_str (parts_ok _ (by rw [← parts_names e]; exact List.mem_map.mpr ⟨y, hy, rfl⟩))).ok (by decide), (sh_str k_stand).ok (by decide), ?_⟩))))
    rw [eqv_str]
    rcases parts_at st e y hy with ⟨h1, h2⟩ | ⟨h1, h2⟩
    · rw [h1]
      exact ⟨fun _ => xe_name (i := 2) rfl ⟨by show _ = Rv.d y.2; rw [h2], .refl _⟩, (fun z => by cases z)⟩
    · rw [h1]
      exact ⟨(fun z => by cases z), fun _ => xe_dget hr (xe_name (i := 0) rfl (xe_name (i := 3) rfl ⟨p, _, _, _, rfl, List.mem_cons_self, rfl, (hd y.1 (by rw [← parts_names e]; exact List.mem_map.mpr ⟨y, hy, rfl⟩)).trans h2, rfl, .refl _⟩))⟩
  · refine xa_nil ⟨p2, (partsV e).map Prod.snd, rfl, ?_, [(p, .dic kvs)], .cons _ (.refl _), (show Q (.d (.tuple ((partsV e).map Prod.snd))) _ from q)⟩
    rw [List.map_map]
    exact List.mem_cons_self
def sNewEnd : Sc := fun args μ Q => ∃ (n : Bool) (ws : List Wish), args = [.d (.str (tNm n)), .d (eWishes ws)] ∧ μ = [] ∧ Q (.d (eEnd (newEnd n ws))) []
def newK (n : Bool) (ws : List Wish) : List (Str × Rv) := dmerge restK (dmerge [] [("name", .d (.str (tNm n))), ("wishes", .d (eWishes ws)), ("turn", .d (.int 0)), ("yours", .d (.int 0)), ("echoes", .d (.int 0)), ("why", .d (.str "new"))])
theorem new_at (n : Bool) (ws : List Wish) : ∀ x ∈ PARTS, dk (newK n ws) x = dk (Kv "closed" (newEnd n ws)) x := by
  intro x hx
  simp only [PARTS, List.mem_cons, List.not_mem_nil, or_false] at hx
  rcases hx with rfl | rfl | rfl | rfl | rfl | rfl | rfl | rfl | rfl | rfl | rfl | rfl | rfl | rfl | rfl <;> kernel_rfl
theorem sc_new_end : FnScope ["name", "wishes", "known"] ["name", "wishes"] (defScope (top 28)) := ⟨rfl, rfl, rfl, by decide +kernel, rfl, by decide +kernel, by decide +kernel⟩
theorem d_new_end (g : Gx P w K mg) (F : FnP K "new_end" (top 28) f fd) {fE : Addr} (DE : Df P w K mg base k fE ["known"] sAsEndG) (gE : mg "as_end" = some (.ref fE)) : Df P w K mg base (k + 1) f ["name", "wishes"] sNewEnd := by
  have nd := sc_new_end.nd
  refine df_by F sc_new_end (fun _ _ _ _ _ _ us hl => match us, hl with | [_, _], _ => rfl) (fun args μ Q ⟨_, _, e, _⟩ => by rw [e]; rfl) fun cdv A outer s H E hr F args μ Q h => ?_
  obtain ⟨n, ws, rfl, rfl, q⟩ := h
  refine xs_cons (xs_set (i := 2) (xe_rest g rfl rfl fun p => ?_) nd)
  refine xs_cons (xs_expr (XE.sub (xe_upd (xe_name (i := 2) rfl ⟨p, _, rfl, List.mem_cons_self, xa_cons ?_⟩))))
  refine xe_disp fun F' => ?_
  refine xe_str ⟨_, rfl, xe_name (i := 0) rfl (xe_str ⟨_, rfl, xe_name (i := 1) rfl (xe_str ⟨_, rfl, xe_int (xe_str ⟨_, rfl, ?_⟩)⟩)⟩)⟩
  refine xe_int (xe_str ⟨_, rfl, xe_int (xe_str ⟨_, rfl, xe_str fun p2 => xa_nil ?_⟩)⟩)
  refine ⟨p2, restK, _, _, rfl, .inr (.refl _), ?_, .there .here, [(p, .dic (newK n ws))], .cons _ (.refl _), ?_⟩
  · exact Nat.le_trans (Nat.add_le_add_left (dmerge_le _ _) _) (by simp [restK])
  refine xs_one (xs_ret (xe_call DE hr gE (xa_cons (xe_name (i := 2) rfl (xa_nil ?_)))))
  exact ⟨[_], [], .refl _, p, "closed", newEnd n ws, newK n ws, rfl, k_closed, c_closed, new_at n ws, rfl, [], List.nil_sublist _, q⟩
end
end Wk

/-! text Ss1 -/
/-! Sets of tuples of ints and texts: small questions asked of the keys; the search. -/
namespace Ss
open PySem PySem.Spec PyProof.Rows L2
abbrev PK (P : Program) (w : World) (h : Heap) (k : List Key) (a : Addr) : Prop := IsTupleKey (mixKind P w) h k a
abbrev ph (P : Program) (w : World) (k : List Key) : Int := tupleKeyHash (mixKind P w) k
/-- ints and texts answer quietly -/
def Soft (v : Value) : Prop := (∀ n, ofAClassStatement n v = pure false) ∧ ∃ b : Bool, ∀ n, hashByValue n v = pure b
theorem soft_of {P : Program} {w : World} : ∀ {k : List Key} {vs : List Value}, ItemsAre (mixKind P w) k vs → ∀ v ∈ vs, Soft v
  | _, _, .nil, _, h => by cases h
  | _, _, .cons h1 t, v, h => by
    rcases List.mem_cons.mp h with rfl | h
    · rcases keyIs_shape h1 with ⟨i, t, _, rfl⟩ | ⟨x, t, _, rfl⟩
      · exact ⟨fun n => by cases n <;> rfl, true, fun n => by cases n <;> rfl⟩
      · exact ⟨fun n => by cases n <;> rfl, false, fun n => by cases n <;> rfl⟩
    · exact soft_of t v h
section
variable {P : Program} {w : World} {A : Around} {E : Value → Shared → Prop} {s : Shared} {k : List Key} {b : Addr} {Q : Bool → Shared → Prop}
/-- is its hash by value: be it so or not -/
theorem byValue_any (hk : PK P w s.heap k b) (h : ∀ r, Q r s) : wpAny (model P w) A (hashByValue 8 (.ref b)) Q E s := by
  have ty := hk.typeIs
  obtain ⟨o, its, n, ho, _, hd, hi⟩ := hk
  have soft := soft_of hi
  unfold hashByValue
  refine wpAny_bind (wpAny_specialOf ty F.slot_tuple_hash.lookup ?_)
  show wpAny (model P w) A (seqItems? (.ref b) >>= _) Q E s
  refine wpAny_bind (wpAny_seqItems ho hd (wpAny_bind ?_))
  show wpAny (model P w) A (forIn its _ _) _ E s
  rw [← Array.forIn_toList]
  refine wpAny_forIn_list _ (fun l r z => (r.1 = none ∧ z = s) ∧ ∀ v ∈ l, Soft v) _ ?_ ?_ _ _ ⟨⟨rfl, rfl⟩, soft⟩
  · rintro v l r z ⟨⟨hr, rfl⟩, all⟩
    obtain ⟨_, c, hc⟩ := all v List.mem_cons_self
    rw [hc]
    refine wpAny_bind (wpAny_pure ?_)
    cases c
    · simp only [Bool.not_false, if_true]
      exact wpAny_pure (wpAny_pure (h false))
    · simp only [Bool.not_true, Bool.false_eq_true, if_false]
      exact wpAny_pure ⟨⟨rfl, rfl⟩, fun u hu => all u (List.mem_cons_of_mem _ hu)⟩
  · rintro ⟨r1, r2⟩ z ⟨⟨hr, rfl⟩, _⟩
    cases hr
    exact wpAny_pure (h true)
/-- a tuple of such is of no class statement -/
theorem aClass_no (hk : PK P w s.heap k b) (h : Q false s) : wpAny (model P w) A (ofAClassStatement 8 (.ref b)) Q E s := by
  have ty := hk.typeIs
  obtain ⟨o, its, n, ho, _, hd, hi⟩ := hk
  have soft := soft_of hi
  unfold ofAClassStatement
  refine wpAny_bind (wpAny_typeOf ty ?_)
  dsimp only
  simp only [show (("tuple" : String) == "tuple") = true by decide, if_true, Bool.not_true, Bool.false_eq_true, if_false]
  try refine wpAny_bind (wpAny_pure ?_)
  try simp only [Bool.not_true, Bool.false_eq_true, if_false]
  show wpAny (model P w) A (seqItems? (.ref b) >>= _) Q E s
  refine wpAny_bind (wpAny_seqItems ho hd ?_)
  dsimp only
  refine wpAny_bind ?_
  show wpAny (model P w) A (forIn its _ _) _ E s
  rw [← Array.forIn_toList]
  refine wpAny_forIn_list _ (fun l r z => (r.1 = none ∧ z = s) ∧ ∀ v ∈ l, Soft v) _ ?_ ?_ _ _ ⟨⟨rfl, rfl⟩, soft⟩
  · rintro v l r z ⟨⟨hr, rfl⟩, all⟩
    rw [(all v List.mem_cons_self).1]
    refine wpAny_bind (wpAny_pure ?_)
    simp only [Bool.false_eq_true, if_false]
    exact wpAny_pure ⟨⟨rfl, rfl⟩, fun u hu => all u (List.mem_cons_of_mem _ hu)⟩
  · rintro ⟨r1, r2⟩ z ⟨⟨hr, rfl⟩, _⟩
    cases hr
    exact wpAny_pure h
/-- a search among such shows nothing -/
theorem unseen (hk : PK P w s.heap k b) {ys : List Value} (hy : ∀ y ∈ ys, ∃ j c, y = Value.ref c ∧ PK P w s.heap j c) (h : Q false s) : wpAny (model P w) A (searchCouldBeSeen (.ref b) ys) Q E s := by
  unfold searchCouldBeSeen
  refine wpAny_bind (wpAny_forIn_list _ (fun l r z => (r.1 = none ∧ z = s) ∧ ∀ y ∈ l, ∃ j c, y = Value.ref c ∧ PK P w s.heap j c) _ ?_ ?_ _ _ ⟨⟨rfl, rfl⟩, hy⟩)
  · rintro v l r z ⟨⟨hr, rfl⟩, all⟩
    obtain ⟨j, c, rfl, hc⟩ := all v List.mem_cons_self
    have more : ∀ y ∈ l, ∃ j c, y = Value.ref c ∧ PK P w z.heap j c := fun u hu => all u (List.mem_cons_of_mem _ hu)
    dsimp only
    by_cases hv : (b == c || (carriedByValue (.ref b) && carriedByValue (.ref c))) = true
    · exact wp_if_pos hv (wpAny_pure ⟨⟨rfl, rfl⟩, more⟩)
    · refine wp_if_neg hv (wpAny_bind (wpAny_eqIsQuiet_tuple hk ?_))
      simp only [Bool.not_true, Bool.false_eq_true, if_false]
      refine wpAny_bind (wpAny_eqIsQuiet_tuple hc ?_)
      simp only [Bool.not_true, Bool.false_eq_true, if_false]
      refine wpAny_bind (aClass_no hk ?_)
      simp only [Bool.false_eq_true, if_false]
      refine wpAny_bind (aClass_no hc ?_)
      simp only [Bool.false_eq_true, if_false]
      exact wpAny_pure ⟨⟨rfl, rfl⟩, more⟩
  · rintro ⟨r1, r2⟩ z ⟨⟨hr, rfl⟩, _⟩
    cases hr
    exact wpAny_pure h
end
/-- a key and where its tuple stands -/
abbrev KA := Addr × List Key
def rows (P : Program) (w : World) (L : List KA) : List (Int × Value) := L.map fun p => (ph P w p.2, Value.ref p.1)
/-- the set at a holds the tuples L, so laid -/
structure SP (P : Program) (w : World) (h : Heap) (a : Addr) (L : List KA) (es : Array (Int × Value)) (ep : Nat) (t : SetTable) : Prop where
  here : ∃ o, h.get? a = some o ∧ o.ExactSet ∧ o.data = .set es ep t
  row : es.toList = rows P w L
  tb : TabOk t (L.map fun p => ph P w p.2)
  nod : (L.map (·.2)).Nodup
  are : ∀ p ∈ L, PK P w h p.2 p.1
  ledd : w.params.followText "set-order" = true ∨ t.led = true
  wide : L.length * 5 < t.mask * 3
  low : L.length < 64
/-- the c-th step of a key's way -/
abbrev pr (P : Program) (w : World) (t : SetTable) (k : List Key) (c : Nat) : SetTable.Probe := nth t.mask (runAt t.mask (SetTable.bits (ph P w k) % (t.mask + 1)) (SetTable.bits (ph P w k))) c
section
variable {P : Program} {w : World} {A : Around} {E : Value → Shared → Prop} {s : Shared} {a x : Addr} {L : List KA} {es : Array (Int × Value)} {ep : Nat} {t : SetTable} {k : List Key}
theorem SP.sz (R : SP P w s.heap a L es ep t) : es.size = L.length := by
  rw [← Array.length_toList, R.row]
  exact List.length_map _
theorem SP.fit (R : SP P w s.heap a L es ep t) : t.fits es.size = true := by
  have e1 : t.place.size = L.length := by rw [R.tb.sz, List.length_map]
  have e2 := R.sz
  have e3 := R.wide
  have e4 : t.dummies.size = 0 := by rw [R.tb.dm]; rfl
  unfold SetTable.fits SetTable.fill
  rw [Bool.and_eq_true, beq_iff_eq, decide_eq_true_eq, e4]
  omega
theorem SP.ent (R : SP P w s.heap a L es ep t) {i : Nat} {p : KA} (h : L[i]? = some p) : es[i]? = some (ph P w p.2, Value.ref p.1) := by
  rw [← Array.getElem?_toList, R.row]
  exact (List.getElem?_map ..).trans (by rw [h]; rfl)
theorem SP.gaveNot (R : SP P w s.heap a L es ep t) : ¬ t.gaveWay = true := by
  have := mask_odd R.tb.mok
  unfold SetTable.gaveWay
  rw [this]
  exact Bool.false_ne_true
theorem nth_dummy (m : Nat) : ∀ (n : Nat) (p : SetTable.Probe), p.dummy = none → (nth m p n).dummy = none
  | 0, _, h => h
  | n + 1, p, h => nth_dummy m n (adv m p) (by unfold adv; split <;> exact h)
theorem pr_add (c q : Nat) : nth t.mask (pr P w t k c) q = pr P w t k (c + q) := (nth_add t.mask c _ q).symm
/-- behind a candidate that was met at the c-th step -/
theorem seek_at (R : SP P w s.heap a L es ep t) (hx : PK P w s.heap k x) (hu : A.units < cLine) {Q : SetFound → Shared → Prop} {f c i : Nat} {p : KA} (hp : L[i]? = some p) (hi : t.place.toList[i]? = some (pr P w t k c).j)
    (yes : p.2 = k → Q (.there none) s) (no : p.2 ≠ k → wpAny (model P w) A (setSearchFrom a (.ref x) (ph P w k) true f (some (pr P w t k (c + 1)))) Q E s) :
    wpAny (model P w) A (searchRest a (.ref x) (ph P w k) true f es t (pr P w t k c).j i (pr P w t k (c + 1))) Q E s := by
  obtain ⟨o, ho, hex, hd⟩ := R.here
  have hm : p ∈ L := List.mem_of_getElem? hp
  unfold searchRest
  rw [R.ent hp]
  dsimp only
  refine wpAny_bind (wpAny_holding (wpAny_eqBool_tuple hu (R.are p hm) hx (wpAny_bind (wpAny_setState_of ho hd R.fit ?_))))
  dsimp only
  by_cases hkk : p.2 = k
  · exact wp_if_pos (by simp [hkk]) (wpAny_pure (yes hkk))
  · refine wp_if_neg (by simp [hkk]) ?_
    try refine wpAny_bind (wpAny_pure ?_)
    rw [sameMem]
    dsimp only
    simp only [if_true, slot_live R.tb.ris hi, R.ent hp]
    refine wpAny_bind (wpAny_isSame_ref_self (wpAny_bind (wpAny_pure ?_)))
    simp only [if_true]
    exact wp_if_neg (by simp [hkk]) (no hkk)
/-- the search from the c-th step on; K the first empty one -/
theorem seek (R : SP P w s.heap a L es ep t) (hx : PK P w s.heap k x) (hu : A.units < cLine) {K : Nat} (hKf : K < 10 * SetTable.turns t.mask) (hK : (pr P w t k K).j ∉ t.place.toList) (hKb : ∀ c, c < K → (pr P w t k c).j ∈ t.place.toList)
    {Q : SetFound → Shared → Prop} (yes : k ∈ L.map (·.2) → Q (.there none) s) (no : k ∉ L.map (·.2) → Q (.free (pr P w t k K).j false) s) :
    ∀ (f c : Nat) (z : Option SetTable.Probe), z.getD (t.probeStart (ph P w k)) = pr P w t k c → c ≤ K → K - c < f → (∀ (i : Nat) (p : KA), L[i]? = some p → p.2 = k → ∃ d, c ≤ d ∧ d < K ∧ t.place.toList[i]? = some (pr P w t k d).j) →
      wpAny (model P w) A (setSearchFrom a (.ref x) (ph P w k) true f z) Q E s
  | 0, c, z, _, _, hf, _ => absurd hf (Nat.not_lt_zero _)
  | f + 1, c, z, hz, hc, hf, due => by
    obtain ⟨o, ho, hex, hd⟩ := R.here
    have hash : ∀ (i : Nat) (p : KA), L[i]? = some p → (es[i]?.map (·.1)).getD 0 = ph P w p.2 := fun i p hp => by rw [R.ent hp]; rfl
    have spec := go_spec t R.tb.ris R.tb.dm (fun i => (es[i]?.map (·.1)).getD 0) (ph P w k) (10 * SetTable.turns t.mask) (K - c) (pr P w t k c) (nth_dummy _ c _ rfl) (by omega)
      (fun q hq => by rw [pr_add]; exact hKb (c + q) (by omega)) (by rw [pr_add, Nat.add_sub_cancel' hc]; exact hK)
    rw [setSearchFrom_succ]
    refine wpAny_bind (wpAny_setState_of ho hd R.fit ?_)
    dsimp only
    refine wp_if_neg R.gaveNot ?_
    try refine wpAny_bind (wpAny_pure ?_)
    rcases spec with ⟨q, i, hq, hi, hh, least, got⟩ | ⟨least, got⟩
    · rw [pr_add, pr_add] at got
      rw [pr_add] at hi
      have il : i < L.length := by
        have h1 : i < t.place.toList.length := (List.getElem?_eq_some_iff.mp hi).1
        have h2 := R.tb.sz
        rw [List.length_map] at h2
        rw [Array.length_toList] at h1
        omega
      obtain ⟨p, hp⟩ : ∃ p, L[i]? = some p := ⟨_, List.getElem?_eq_getElem il⟩
      have got' : t.probe (fun i => (es[i]?.map (·.1)).getD 0) (ph P w k) (z.getD (t.probeStart (ph P w k))) = some (.candidate (pr P w t k (c + q)).j i (pr P w t k (c + (q + 1)))) := by rw [hz]; exact got
      rw [got']
      dsimp only
      have behind : wpAny (model P w) A (searchRest a (.ref x) (ph P w k) true f es t (pr P w t k (c + q)).j i (pr P w t k (c + q + 1))) Q E s := by
        refine seek_at R hx hu hp hi (fun e => yes (List.mem_map.mpr ⟨p, List.mem_of_getElem? hp, e⟩)) fun ne => ?_
        refine seek R hx hu hKf hK hKb yes no f (c + q + 1) _ rfl (by omega) (by omega) fun i0 p0 h0 k0 => ?_
        obtain ⟨d, d1, d2, d3⟩ := due i0 p0 h0 k0
        refine ⟨d, ?_, d2, d3⟩
        rcases Nat.lt_trichotomy d (c + q) with lt | eq | gt
        · refine absurd ((hash i0 p0 h0).trans (by rw [k0])) (least (d - c) i0 (by omega) ?_)
          rw [pr_add, Nat.add_sub_cancel' d1]
          exact d3
        · rw [eq] at d3
          have s1 := slot_live R.tb.ris d3
          rw [slot_live R.tb.ris hi] at s1
          injection s1 with s1
          rw [← s1, hp] at h0
          cases h0
          exact absurd k0 ne
        · exact gt
      by_cases hl : t.led = true
      · refine wp_if_neg (by simp [hl]) ?_
        try refine wpAny_bind (wpAny_pure ?_)
        exact behind
      · refine wp_if_pos (by simp [hl]) (wpAny_bind (unseen hx (fun y hy => ?_) ?_))
        · obtain ⟨e, he, rfl⟩ := List.mem_map.mp hy
          have h1 : e ∈ es ∧ e.1 = ph P w k := by simpa using he
          have h2 : e ∈ rows P w L := by rw [← R.row]; simpa using h1.1
          obtain ⟨p2, hp2, rfl⟩ := List.mem_map.mp h2
          exact ⟨p2.2, p2.1, rfl, R.are p2 hp2⟩
        · refine wp_if_neg Bool.false_ne_true ?_
          try refine wpAny_bind (wpAny_pure ?_)
          exact behind
    · rw [pr_add, Nat.add_sub_cancel' hc] at got
      have got' : t.probe (fun i => (es[i]?.map (·.1)).getD 0) (ph P w k) (z.getD (t.probeStart (ph P w k))) = some (.empty (pr P w t k K).j none) := by rw [hz]; exact got
      rw [got']
      refine wpAny_pure (no fun hm => ?_)
      obtain ⟨p0, h0, k0⟩ := List.mem_map.mp hm
      obtain ⟨i0, hi0, e0⟩ := List.getElem_of_mem h0
      have h00 : L[i0]? = some p0 := (List.getElem?_eq_getElem hi0).trans (congrArg some e0)
      obtain ⟨d, d1, d2, d3⟩ := due i0 p0 h00 k0
      refine least (d - c) i0 (by omega) ?_ ((hash i0 p0 h00).trans (by rw [k0]))
      rw [pr_add, Nat.add_sub_cancel' d1]
      exact d3
/-- the search as adding asks for it -/
theorem seek_add (R : SP P w s.heap a L es ep t) (hx : PK P w s.heap k x) (hu : A.units < cLine) {Q : SetFound → Shared → Prop} (yes : k ∈ L.map (·.2) → Q (.there none) s)
    (no : ∀ K, k ∉ L.map (·.2) → (pr P w t k K).j ∉ t.place.toList → (∀ c, c < K → (pr P w t k c).j ∈ t.place.toList) → Q (.free (pr P w t k K).j false) s) : wpAny (model P w) A (setSearch a (.ref x) (ph P w k) true) Q E s := by
  have big : 10 * SetTable.turns t.mask ≤ 1420 := by
    unfold SetTable.turns
    rcases R.tb.mok with e | e | e <;> omega
  obtain ⟨K, hKf, hK, hKb⟩ := R.tb.first (by have := R.wide; rw [List.length_map]; omega) (ph P w k)
  unfold setSearch
  refine seek R hx hu hKf hK hKb yes (fun hn => no K hn hK hKb) 100000 0 none rfl (Nat.zero_le _) (by omega) fun i p hp hk => ?_
  have h1 : (L.map fun p => ph P w p.2)[i]? = some (ph P w k) := (List.getElem?_map ..).trans (by rw [hp, ← hk]; rfl)
  have h2 : i < t.place.toList.length := by
    have e1 : i < L.length := (List.getElem?_eq_some_iff.mp hp).1
    have e2 := R.tb.sz
    rw [List.length_map] at e2
    rw [Array.length_toList]
    omega
  obtain ⟨c, hc, e⟩ := R.tb.before hK h1 (List.getElem?_eq_getElem h2)
  exact ⟨c, Nat.zero_le _, hc, by rw [List.getElem?_eq_getElem h2, ← e]⟩
end
end Ss

/-! text Ss2 -/
/-! Sets of tuples of ints and texts: adding. -/
namespace Ss
open PySem PySem.Spec PyProof.Rows L2
section
variable {P : Program} {w : World} {A : Around} {E : Value → Shared → Prop} {s : Shared} {a x : Addr} {L : List KA} {es : Array (Int × Value)} {ep : Nat} {t : SetTable} {k : List Key}
/-- what stands elsewhere stays -/
theorem pk_but {h h' : Heap} {b : Addr} {o : Obj} (hb : PK P w h k b) (ho : h.get? a = some o) (hd : o.data = .set es ep t) (hs : Heap.SameBut a h h') : PK P w h' k b := by
  obtain ⟨u, its, n, hu, r⟩ := hb
  refine ⟨u, its, n, (hs.2 b ?_).trans hu, r⟩
  rintro rfl
  rw [ho] at hu
  cases hu
  have := r.2.1
  rw [hd] at this
  cases this
theorem rows_len (L : List KA) : (rows P w L).length = L.length := List.length_map _
theorem rows_put (L : List KA) (p : Nat) (q : KA) : rows P w (L.take p ++ q :: L.drop p) = (rows P w L).take p ++ (ph P w q.2, Value.ref q.1) :: (rows P w L).drop p := by
  simp only [rows, List.map_append, List.map_cons, List.map_take, List.map_drop]
/-- rows in another order -/
theorem rows_order (es : Array (Int × Value)) (hr : es.toList = rows P w L) (l : List Nat) (hl : ∀ i ∈ l, i < L.length) :
    l.filterMap (fun i => es[i]?) = rows P w (l.filterMap fun i => L[i]?) ∧ (l.filterMap fun i => L[i]?).map (fun p => ph P w p.2) = l.map fun i => (es.map (·.1)).getD i 0 := by
  induction l with
  | nil => exact ⟨rfl, rfl⟩
  | cons i l ih =>
    obtain ⟨e1, e2⟩ := ih fun j hj => hl j (List.mem_cons_of_mem _ hj)
    have hi := hl i List.mem_cons_self
    have f1 : L[i]? = some L[i] := List.getElem?_eq_getElem hi
    have f2 : es[i]? = some (ph P w L[i].2, Value.ref L[i].1) := by
      rw [← Array.getElem?_toList, hr]
      exact (List.getElem?_map ..).trans (by rw [f1]; rfl)
    have f3 : (es.map (·.1)).getD i 0 = ph P w L[i].2 := by
      rw [Array.getD_eq_getD_getElem?, Array.getElem?_map, f2]
      rfl
    refine ⟨?_, ?_⟩
    · rw [List.filterMap_cons_some f2, List.filterMap_cons_some f1, e1]
      rfl
    · rw [List.filterMap_cons_some f1, List.map_cons, List.map_cons, e2, f3]
theorem range_all {α : Type} (L : List α) : (List.range L.length).filterMap (fun i => L[i]?) = L := by
  induction L with
  | nil => rfl
  | cons x L ih =>
    rw [List.length_cons, List.range_succ_eq_map, List.filterMap_cons_some (b := x) (by rfl), List.filterMap_map]
    exact congrArg (x :: ·) ih
/-- the table laid anew, larger -/
theorem relay {o : Obj} (ho : s.heap.get? a = some o) (hex : o.ExactSet) (hd : o.data = .set es ep t) (hr : es.toList = rows P w L) (hsz : t.place.size = es.size) (hdm : t.dummies = #[]) (hfl : es.size ≤ t.mask) (nd : (L.map (·.2)).Nodup)
    (are : ∀ p ∈ L, PK P w s.heap p.2 p.1) (ld : w.params.followText "set-order" = true ∨ t.led = true) (low : L.length < 64) {n M : Nat} (hw : SetTable.sizeAbove n - 1 = M) (hM : MaskOk M) (h128 : SetTable.sizeAbove n ≤ 128) (hn : L.length * 5 < M * 3)
    {Q : Unit → Shared → Prop} (hQ : ∀ h' L' es' ep' t', Heap.SameBut a s.heap h' → SP P w h' a L' es' ep' t' → L'.Perm L → Q () { s with heap := h' }) : wpAny (model P w) A (setRelay a n) Q E s := by
  have hsl : es.size = L.length := by rw [← Array.length_toList, hr, rows_len]
  have fits : t.fits es.size = true := by
    have e4 : t.dummies.size = 0 := by rw [hdm]; rfl
    unfold SetTable.fits SetTable.fill
    rw [Bool.and_eq_true, beq_iff_eq, decide_eq_true_eq, e4]
    omega
  obtain ⟨t2, order, e, hp, T, em, el, _, ed⟩ := relaid_ok t (hs := es.map (·.1)) (wanted := n) hw hM (by rw [Array.size_map, hsl]; omega)
  rw [Array.size_map, hsl] at hp
  obtain ⟨r1, r2⟩ := rows_order es hr order.toList fun i hi => List.mem_range.mp (hp.mem_iff.mp hi)
  have r3 : (order.toList.filterMap fun i => L[i]?).Perm L := by
    have := hp.filterMap fun i => L[i]?
    rw [range_all] at this
    exact this
  rw [← r2] at T
  generalize (order.toList.filterMap fun i => L[i]?) = L2 at r1 r3 T
  have r0 : (order.filterMap (es[·]?)).toList = rows P w L2 := by
    rw [Array.toList_filterMap]
    exact r1
  have hs2 : (order.filterMap (es[·]?)).size = es.size := by rw [← Array.length_toList, r0, rows_len, r3.length_eq, hsl]
  have sb : Heap.SameBut a s.heap (s.heap.update a (Obj.putSet (order.filterMap (es[·]?)) t2)) := Heap.SameBut.update ..
  rw [setRelay_eq]
  refine wpAny_bind (wpAny_setState_of ho hd fits ?_)
  dsimp only
  refine wp_if_neg (by rw [sizeLine_eq]; omega) ?_
  try refine wpAny_bind (wpAny_pure ?_)
  rw [e]
  dsimp only
  refine wpAny_bind (wp_if_neg (by rw [hs2]; simp) ?_)
  try refine wpAny_bind (wpAny_pure ?_)
  refine wpAny_pure ?_
  dsimp only
  refine wpAny_storeSet_of ho hd (hQ _ L2 (order.filterMap (es[·]?)) (ep + 1) t2 sb ?_ r3) (by rw [hs2, hsl, sizeLine_eq]; omega)
  exact ⟨⟨_, store_at ho hd, ⟨hex.1, hex.2.1, hex.2.2⟩, rfl⟩, r0, T, (r3.map (·.2)).nodup_iff.mpr nd, fun p hq => pk_but (are p (r3.mem_iff.mp hq)) ho hd sb, by rw [el]; exact ld, by rw [r3.length_eq, em]; exact hn, by rw [r3.length_eq]; exact low⟩
/-- where a table is too full, it is laid anew -/
theorem full_cases {m n : Nat} (hm : MaskOk m) (h1 : n * 5 < m * 3) (h2 : (n + 1) * 5 ≥ m * 3) (low : n + 1 < 64) : (m = 7 ∧ n = 4) ∨ (m = 31 ∧ n = 18) := by
  rcases hm with rfl | rfl | rfl <;> omega
/-- behind the store: laid anew, if it is too full -/
theorem grow_tail {o : Obj} {g : Bool} {n : Nat} (ho : s.heap.get? a = some o) (hex : o.ExactSet) (hd : o.data = .set es ep t) (hr : es.toList = rows P w L) (T : TabOk t (L.map fun p => ph P w p.2)) (nd : (L.map (·.2)).Nodup)
    (are : ∀ p ∈ L, PK P w s.heap p.2 p.1) (ld : w.params.followText "set-order" = true ∨ t.led = true) (low : L.length < 64) (hn : L.length = n + 1) (hfill : t.fill = n + 1) (was : n * 5 < t.mask * 3) (hg : g = (!false && t.tooFull))
    {Q : Bool → Shared → Prop} (hQ : ∀ h' L' es' ep' t', Heap.SameBut a s.heap h' → SP P w h' a L' es' ep' t' → L'.Perm L → Q true { s with heap := h' }) :
    wpAny (model P w) A (do
        if g = true then setRelay a (SetTable.grown (n + 1))
        return true) Q E s := by
  subst hg
  have sz : t.place.size = es.size := by rw [T.sz, List.length_map, ← Array.length_toList, hr, rows_len]
  have esz : es.size = n + 1 := by rw [← hn, ← Array.length_toList, hr, rows_len]
  by_cases hf : t.tooFull = true
  · have full : (n + 1) * 5 ≥ t.mask * 3 := by
      have := hf
      unfold SetTable.tooFull at this
      rw [decide_eq_true_eq, hfill] at this
      exact this
    have two := full_cases T.mok was full (by omega)
    have go : ∀ M, SetTable.sizeAbove (SetTable.grown (n + 1)) - 1 = M → MaskOk M → SetTable.sizeAbove (SetTable.grown (n + 1)) ≤ 128 → (n + 1) * 5 < M * 3 →
        wpAny (model P w) A (setRelay a (SetTable.grown (n + 1))) (fun _ s' => wpAny (model P w) A (pure true) Q E s') E s := fun M h1 h2 h3 h4 =>
      relay ho hex hd hr sz T.dm (by rw [esz]; rcases two with ⟨e, e2⟩ | ⟨e, e2⟩ <;> omega) nd are ld low h1 h2 h3 (by rw [hn]; exact h4) fun h' L' es' ep' t' sb R pm => wpAny_pure (hQ h' L' es' ep' t' sb R pm)
    have go2 : wpAny (model P w) A (setRelay a (SetTable.grown (n + 1))) (fun _ s' => wpAny (model P w) A (pure true) Q E s') E s := by
      rcases two with ⟨_, e2⟩ | ⟨_, e2⟩
      · subst e2
        exact go 31 (by rw [size_20]) (.inr (.inl rfl)) (by rw [size_20]; decide) (by decide)
      · subst e2
        exact go 127 (by rw [size_76]) (.inr (.inr rfl)) (by rw [size_76]; decide) (by decide)
    first
      | exact wp_if_pos (by simp [hf]) (wpAny_bind go2)
      | exact wpAny_bind (wp_if_pos (by simp [hf]) go2)
  · have room : (n + 1) * 5 < t.mask * 3 := by
      have := hf
      unfold SetTable.tooFull at this
      rw [decide_eq_true_eq, hfill] at this
      omega
    have fin : Q true s := by
      have := hQ s.heap L es ep t (Heap.SameBut.refl a s.heap) ⟨⟨o, ho, hex, hd⟩, hr, T, nd, are, ld, by rw [hn]; exact room, low⟩ (.refl _)
      exact this
    first
      | exact wp_if_neg (by simp [hf]) (wpAny_pure fin)
      | exact wpAny_bind (wp_if_neg (by simp [hf]) (wpAny_pure (wpAny_pure fin)))
/-- adding -/
theorem add (R : SP P w s.heap a L es ep t) (hx : PK P w s.heap k x) (hu : A.units < cLine) (low : L.length + 1 < 64) {Q : Bool → Shared → Prop}
    (hQ : ∀ r h' L' es' ep' t', Heap.SameBut a s.heap h' → SP P w h' a L' es' ep' t' → (k ∈ L.map (·.2) ∧ L' = L) ∨ (k ∉ L.map (·.2) ∧ L'.Perm ((x, k) :: L)) → Q r { s with heap := h' }) :
    wpAny (model P w) A (setAddHashed a (.ref x) (ph P w k)) Q E s := by
  obtain ⟨o, ho, hex, hd⟩ := R.here
  have hsl := R.sz
  unfold setAddHashed
  refine wpAny_holding ?_
  rw [show (100000 : Nat) = 99999 + 1 from rfl, setAddHashedIn_succ]
  refine wpAny_bind (wpAny_setState_of ho hd R.fit ?_)
  dsimp only
  refine wp_if_neg (by simp [byScan, Value.scannable]) ?_
  try refine wpAny_bind (wpAny_pure ?_)
  refine wpAny_bind (seek_add R hx hu (fun hm => ?_) fun K hm hK hb => ?_)
  · exact wpAny_pure (hQ false s.heap L es ep t (Heap.SameBut.refl a s.heap) R (.inl ⟨hm, rfl⟩))
  dsimp only
  refine wpAny_bind (wpAny_setState_of ho hd R.fit ?_)
  dsimp only
  obtain ⟨q1, q2, q3, q4, q5, _, _, _, q9⟩ := R.tb.put hK hb
  generalize hpt : t.put (pr P w t k K).j = pt at q1 q3 q4 q5 q9 ⊢
  obtain ⟨t1, p⟩ := pt
  dsimp only at q1 q3 q4 q5 q9 ⊢
  subst q1
  -- whatever its hash is by
  have tail : ∀ pl : Bool, wpAny (model P w) A (do
      storeSet a (SetTable.insertAt es (SetTable.below t.place (pr P w t k K).j) (ph P w k, Value.ref x)) (if pl = true then t1 else { t1 with plain := false })
      if (!false && (if pl = true then t1 else { t1 with plain := false } : SetTable).tooFull) = true then setRelay a (SetTable.grown (es.size + 1))
      return true) Q E s := fun pl => by
    have pm := put_perm L (SetTable.below t.place (pr P w t k K).j) (x, k)
    have hin : (SetTable.insertAt es (SetTable.below t.place (pr P w t k K).j) (ph P w k, Value.ref x)).toList = rows P w (L.take (SetTable.below t.place (pr P w t k K).j) ++ (x, k) :: L.drop (SetTable.below t.place (pr P w t k K).j)) := by
      rw [SetTable.toList_insertAt, rows_put, R.row]
    have hhs : (L.take (SetTable.below t.place (pr P w t k K).j) ++ (x, k) :: L.drop (SetTable.below t.place (pr P w t k K).j)).map (fun p => ph P w p.2) = (L.map fun p => ph P w p.2).take (SetTable.below t.place (pr P w t k K).j) ++ ph P w k :: (L.map fun p => ph P w p.2).drop (SetTable.below t.place (pr P w t k K).j) := by
      simp only [List.map_append, List.map_cons, List.map_take, List.map_drop]
    rw [← hhs] at q3
    generalize SetTable.insertAt es (SetTable.below t.place (pr P w t k K).j) (ph P w k, Value.ref x) = es1 at hin ⊢
    generalize L.take (SetTable.below t.place (pr P w t k K).j) ++ (x, k) :: L.drop (SetTable.below t.place (pr P w t k K).j) = L1 at pm q3 hin
    have len : L1.length = L.length + 1 := pm.length_eq
    have esz : es1.size = L.length + 1 := by rw [← Array.length_toList, hin, rows_len, len]
    generalize ht3 : (if pl = true then t1 else { t1 with plain := false } : SetTable) = t3
    have T3 : TabOk t3 (L1.map fun p => ph P w p.2) ∧ t3.mask = t.mask ∧ t3.led = t.led ∧ t3.fill = (L.map fun p => ph P w p.2).length + 1 := by
      rw [← ht3]
      cases pl
      · exact ⟨⟨q3.ris, q3.dm, q3.sz, q3.mok, q3.bd, q3.reach⟩, q4, q5, q9⟩
      · exact ⟨q3, q4, q5, q9⟩
    obtain ⟨T, m3, l3, f3⟩ := T3
    have nd1 : (L1.map (·.2)).Nodup := by
      refine (pm.map (·.2)).nodup_iff.mpr ?_
      rw [List.map_cons]
      exact List.nodup_cons.mpr ⟨hm, R.nod⟩
    have sb : Heap.SameBut a s.heap (s.heap.update a (Obj.putSet es1 t3)) := Heap.SameBut.update ..
    have ho1 := store_at (es' := es1) (t' := t3) ho hd
    refine wpAny_bind (wpAny_storeSet_of ho hd ?_ (by rw [esz, sizeLine_eq]; omega))
    generalize s.heap.update a (Obj.putSet es1 t3) = h1 at sb ho1 ⊢
    rw [hsl]
    refine grow_tail (s := { s with heap := h1 }) (n := L.length) ho1 ⟨hex.1, hex.2.1, hex.2.2⟩ rfl hin T nd1 (fun q hq => ?_) (by rw [l3]; exact R.ledd) (by rw [len]; exact low) len (by rw [f3, List.length_map]) (by rw [m3]; exact R.wide) rfl fun h2 L2 es2 ep2 t2 sb2 R2 pm2 => ?_
    · rcases List.mem_cons.mp (pm.mem_iff.mp hq) with e | hq
      · rw [e]
        exact pk_but hx ho hd sb
      · exact pk_but (R.are q hq) ho hd sb
    · exact hQ true h2 L2 es2 ep2 t2 (sb.trans sb2) R2 (.inr ⟨hm, pm2.trans pm⟩)
  by_cases hp : t1.plain = true
  · first
      | exact wpAny_bind (wp_if_pos hp (byValue_any hx fun r => tail r))
      | exact wp_if_pos hp (wpAny_bind (byValue_any hx fun r => tail r))
  · first
      | exact wpAny_bind (wp_if_neg hp (wpAny_pure (tail true)))
      | exact wp_if_neg hp (tail true)
      | exact wp_if_neg hp (wpAny_bind (wpAny_pure (tail true)))
end
end Ss

/-! text Ss3 -/
/-! Sets of tuples of ints and texts: set(a tuple of such). -/
namespace Ss
open PySem PySem.Spec PyProof.Rows L2
/-- what the set has from the first i things -/
structure Has (ks : List KA) (i : Nat) (L : List KA) : Prop where
  from_ : ∀ p ∈ L, p ∈ ks.take i
  each : ∀ p ∈ ks.take i, p.2 ∈ L.map (·.2)
  most : L.length ≤ i
theorem Has.none (ks : List KA) : Has ks 0 [] := ⟨fun _ h => (by cases h), fun _ h => (by cases h), Nat.zero_le _⟩
theorem Has.next {ks L L' : List KA} {i : Nat} {x : KA} (g : Has ks i L) (h : ks[i]? = some x) (c : (x.2 ∈ L.map (·.2) ∧ L' = L) ∨ (x.2 ∉ L.map (·.2) ∧ L'.Perm (x :: L))) : Has ks (i + 1) L' := by
  have e : ks.take (i + 1) = ks.take i ++ [x] := by rw [List.take_succ, h]; rfl
  rcases c with ⟨hm, rfl⟩ | ⟨_, pm⟩
  · refine ⟨fun p hp => by rw [e]; exact List.mem_append_left _ (g.from_ p hp), fun p hp => ?_, Nat.le_succ_of_le g.most⟩
    rw [e] at hp
    rcases List.mem_append.mp hp with z | z
    · exact g.each p z
    · rw [List.mem_singleton.mp z]
      exact hm
  · refine ⟨fun p hp => ?_, fun p hp => ?_, by rw [pm.length_eq]; exact Nat.succ_le_succ g.most⟩
    · rw [e]
      rcases List.mem_cons.mp (pm.mem_iff.mp hp) with rfl | z
      · exact List.mem_append_right _ List.mem_cons_self
      · exact List.mem_append_left _ (g.from_ p z)
    · rw [(pm.map (·.2)).mem_iff]
      rw [e] at hp
      rcases List.mem_append.mp hp with z | z
      · exact List.mem_cons_of_mem _ (g.each p z)
      · rw [List.mem_singleton.mp z]
        exact List.mem_cons_self
section
variable {P : Program} {w : World} {A : Around} {E : Value → Shared → Prop} {s : Shared}
theorem pk_keep {h h' : Heap} {k : List Key} {b : Addr} (x : PK P w h k b) (hk : ∀ c o, h.get? c = some o → h'.get? c = some o) : PK P w h' k b :=
  let ⟨o, its, n, ho, r⟩ := x; ⟨o, its, n, hk b o ho, r⟩
theorem SP.keep {h h' : Heap} {a : Addr} {L : List KA} {es : Array (Int × Value)} {ep : Nat} {t : SetTable} (R : SP P w h a L es ep t) (ha : ∀ o, h.get? a = some o → h'.get? a = some o) (ht : ∀ p ∈ L, PK P w h' p.2 p.1) : SP P w h' a L es ep t :=
  let ⟨o, ho, r⟩ := R.here; ⟨⟨o, ha o ho, r⟩, R.row, R.tb, R.nod, ht, R.ledd, R.wide, R.low⟩
/-- an empty set's object -/
abbrev oNew (w : World) : Obj := { cls := .type "set", dict := none, data := .set #[] 0 (.fresh 0 0 (!w.params.followText "set-order")) }
theorem sp_new {h : Heap} {a : Addr} (ho : h.get? a = some (oNew w)) : SP P w h a [] #[] 0 (.fresh 0 0 (!w.params.followText "set-order")) := by
  refine ⟨⟨_, ho, ⟨rfl, rfl, rfl⟩, rfl⟩, rfl, ⟨.nil, rfl, rfl, .inl rfl, fun x hx => (by cases hx), fun i h j hi => (by simp at hi)⟩, .nil, fun p hp => (by cases hp), ?_, (show 0 * 5 < 7 * 3 by decide), (show 0 < 64 by decide)⟩
  show w.params.followText "set-order" = true ∨ (!w.params.followText "set-order") = true
  cases w.params.followText "set-order"
  · exact .inr rfl
  · exact .inl rfl
/-- set.update's loop over such -/
theorem fill {I : Addr} {fp wr : List Addr} {G : Array GenState → Array GenState → Prop} {n : Nat} {Pv : Nat → Value → Prop} {St : Nat → Shared → Prop} {R : Result → Shared → Prop} (W : WalksS P w A.in1 I fp wr G n Pv St) (S : Addr) (hSf : S ∉ fp)
    (ks : List KA) (hn : n = ks.length) (low : ks.length < 64) (val : ∀ i v, Pv i v → ∃ p, ks[i]? = some p ∧ v = .ref p.1) (h0 : Heap) (hk : ∀ p ∈ ks, PK P w h0 p.2 p.1) (hS0 : h0.get? S = none) (hw0 : ∀ b ∈ wr, h0.get? b = none) (hu : A.in1.units < cLine) :
    ∀ (m i : Nat) (s : Shared), n - i = m → i ≤ n → St i s → (∀ b o, h0.get? b = some o → s.heap.get? b = some o) → (∃ L es ep t, SP P w s.heap S L es ep t ∧ Has ks i L) →
      (∀ s' L es ep t, Moved (S :: wr) G s s' → SP P w s'.heap S L es ep t → Has ks n L → (∀ b o, h0.get? b = some o → s'.heap.get? b = some o) → R (.ok (.ret .none)) s') →
      codeAny (model P w) A (.builtin "set.update.loop" ⟨[.ref S, .ref I], []⟩) R s := by
  have hSw : S ∉ wr := fun h => hSf (W.sub _ h)
  have sub : ∀ b ∈ wr, b ∈ S :: wr := fun b hb => List.mem_cons_of_mem _ hb
  have stay : ∀ {s s' : Shared}, Moved wr G s s' → (∀ b o, h0.get? b = some o → s.heap.get? b = some o) → ∀ b o, h0.get? b = some o → s'.heap.get? b = some o := fun mv kp b o e =>
    mv.heap b o (fun hb => by rw [hw0 b hb] at e; cases e) (kp b o e)
  intro m
  induction m with
  | zero =>
    intro i s hm hi st kp ⟨L, es, ep, t, sp, g⟩ out
    have e : i = n := by omega
    subst e
    refine codeAny_builtin F.entry_set_update_loop ?_
    rw [Around.under_plainId F.plain_set_update_loop _]
    show wpAny (model P w) A.in1 (pyNext (.ref I) >>= _) _ _ s
    refine wpAny_bind (W.done s _ _ st fun s' mv => ?_)
    show wpAny (model P w) A.in1 (ret Value.none) _ _ s'
    have kp' := stay mv kp
    exact wpAny_pure (out s' L es ep t (mv.mono sub) (sp.keep (fun o e => mv.heap S o hSw e) fun p hp => pk_keep (hk p (List.mem_of_mem_take (g.from_ p hp))) kp') g kp')
  | succ m ih =>
    intro i s hm hi st kp ⟨L, es, ep, t, sp, g⟩ out
    have lt : i < n := by omega
    refine codeAny_builtin F.entry_set_update_loop ?_
    rw [Around.under_plainId F.plain_set_update_loop _]
    show wpAny (model P w) A.in1 (pyNext (.ref I) >>= _) _ _ s
    refine wpAny_bind (W.item i s _ _ lt st fun v s' hP st' mv => ?_)
    obtain ⟨p, hp, rfl⟩ := val i v hP
    have kp' := stay mv kp
    have sp' : SP P w s'.heap S L es ep t := sp.keep (fun o e => mv.heap S o hSw e) fun q hq => pk_keep (hk q (List.mem_of_mem_take (g.from_ q hq))) kp'
    have hx : PK P w s'.heap p.2 p.1 := pk_keep (hk p (List.mem_of_getElem? hp)) kp'
    show wpAny (model P w) A.in1 (holding [Value.ref p.1] (setAdd S (.ref p.1)) >>= _) _ _ s'
    refine wpAny_bind (wpAny_holding ?_)
    unfold setAdd
    refine wpAny_holding (wpAny_bind (wpAny_pyHash_tuple hu hx ?_))
    refine add (s := { s' with toks := s'.toks + (p.2.length + 1) }) sp' hx hu (by have := g.most; omega) fun r h' L' es' ep' t' sb sp2 c => ?_
    have kp2 : ∀ b o, h0.get? b = some o → h'.get? b = some o := fun b o e => (sb.2 b (fun z => by rw [z, hS0] at e; cases e)).trans (kp' b o e)
    refine wpAny_pure ⟨plainId_quiet F.plain_set_update_loop _, ih (i + 1) _ (by omega) lt (W.frame _ s' _ _ st' (Nat.le_add_right _ _) fun b hb o e => ?_) kp2 ⟨L', es', ep', t', sp2, g.next hp c⟩ fun s2 L2 es2 ep2 t2 mv2 sp3 g3 kp3 => ?_⟩
    · exact (sb.2 b fun h : b = S => hSf (h ▸ hb)).trans e
    · refine out s2 L2 es2 ep2 t2 (Moved.trans W.gtrans ((mv.mono sub).then_heap (Nat.le_add_right _ _) fun b o hb e => ?_) mv2) sp3 g3 kp3
      exact (sb.2 b fun h : b = S => hb (h ▸ List.mem_cons_self)).trans e
/-- the making of a set of a tuple, but for what fills it -/
theorem fill_tup {l : Addr} {its : Array Value} (ks : List KA) {R : Result → Shared → Prop} (hh : A.handled = none) (hl : s.heap.IsTuple l its) (hit : its.toList = ks.map fun p => Value.ref p.1) (hk : ∀ p ∈ ks, PK P w s.heap p.2 p.1) (low : ks.length < 64) (hu : A.in1.units < cLine)
    (out : ∀ s' L es ep t, s'.gens = s.gens → s'.drawn = s.drawn → s'.os = s.os → SP P w s'.heap s.heap.objs.size L es ep t → Has ks ks.length L → (∀ b o, s.heap.get? b = some o → s'.heap.get? b = some o) → R (.ok (.ret .none)) s') :
    codeAny (model P w) A (.builtin "set.update.loop" ⟨[.ref s.heap.objs.size, .ref (s.heap.push (oNew w)).objs.size], []⟩) R
      { s with heap := (s.heap.push (oNew w)).push { cls := .type "tuple_iterator", data := .fields #[.ref l, .int 0 0] } } := by
  have isz : its.size = ks.length := by rw [← Array.length_toList, hit, List.length_map]
  have z1 : (s.heap.push (oNew w)).objs.size = s.heap.objs.size + 1 := Heap.size_push ..
  obtain ⟨ol, hol, _⟩ := id hl
  have lS : l < s.heap.objs.size := Heap.lt_size hol
  have gone : ∀ b, s.heap.objs.size ≤ b → s.heap.get? b = none := fun b hb => by
    cases q : s.heap.get? b with
    | none => rfl
    | some o => exact absurd (Nat.lt_of_lt_of_le (Heap.lt_size q) hb) (Nat.lt_irrefl _)
  have old : ∀ b o, s.heap.get? b = some o → ((s.heap.push (oNew w)).push { cls := .type "tuple_iterator", data := .fields #[.ref l, .int 0 0] }).get? b = some o := fun b o e => Heap.get?_push_of_some _ (Heap.get?_push_of_some _ e)
  have W := (Walks.tuple (prog := P) (w := w) (A := A.in1) (by simp [hh]) (s.heap.push (oNew w)).objs.size l (by rw [z1]; exact Nat.ne_of_lt (Nat.lt_succ_of_lt lS)) its).toS
  refine fill W s.heap.objs.size (by rw [z1]; simp only [List.mem_cons, List.not_mem_nil, or_false, not_or]; exact ⟨Nat.ne_of_lt (Nat.lt_succ_self _), Nat.ne_of_gt lS⟩) ks isz low (fun i v hv => ?_) s.heap hk (gone _ (Nat.le_refl _)) (fun b hb => gone b (by rw [List.mem_singleton.mp hb, z1]; exact Nat.le_succ _)) hu (its.size - 0) 0 _ (by omega) (Nat.zero_le _)
    ⟨⟨_, Heap.get?_push_size _ rfl, rfl, rfl⟩, ((hl.push _).push _)⟩ old ⟨[], #[], 0, _, sp_new (Heap.get?_push_of_some _ (Heap.get?_push_size _ rfl)), Has.none ks⟩ fun s' L es ep t mv sp g kp => ?_
  · have q : its.toList[i]? = some v := by rw [Array.getElem?_toList]; exact hv
    rw [hit, List.getElem?_map] at q
    obtain ⟨p, hp, e⟩ := Option.map_eq_some_iff.mp q
    exact ⟨p, hp, e.symm⟩
  · rw [isz] at g
    exact out s' L es ep t mv.gens mv.drawn mv.os sp g kp
end
end Ss

/-! text Ss4 -/
/-! Sets of tuples of ints and texts: set(t); what stands of it. -/
namespace Ss
open PySem PySem.Spec PyProof.Rows L2
section
variable {P : Program} {w : World} {A : Around} {E : Value → Shared → Prop} {s : Shared}
/-- what set(t) leaves -/
def Made (P : Program) (w : World) (s : Shared) (ks : List KA) (z : Shared) : Prop :=
  ∃ h' tk L es ep t, z = { s with heap := h', toks := tk } ∧ SP P w h' s.heap.objs.size L es ep t ∧ Has ks ks.length L ∧ (∀ b o, s.heap.get? b = some o → h'.get? b = some o)
theorem set_init {l : Addr} {its : Array Value} (ks : List KA) {Qf : PySem.Fin → Shared → Prop} (hh : A.handled = none) (hl : s.heap.IsTuple l its) (hit : its.toList = ks.map fun p => Value.ref p.1) (hk : ∀ p ∈ ks, PK P w s.heap p.2 p.1) (low : ks.length < 64) (hu : A.units + 1 < cLine)
    (h : ∀ z, Made P w s ks z → Qf (.done (.ret .none)) z) : wpAny (model P w) A (Builtin.«set.__init__» ⟨[.ref s.heap.objs.size, .ref l], []⟩) Qf E { s with heap := s.heap.push (oNew w) } := by
  have atS : (s.heap.push (oNew w)).get? s.heap.objs.size = some (oNew w) := Heap.get?_push_size _ rfl
  have tl2 : (s.heap.push (oNew w)).IsTuple l its := hl.push _
  obtain ⟨⟨oc, od, ot, os⟩, hol, hcl, nl, hdl⟩ := id tl2
  simp only at hcl hdl
  subst hcl; subst hdl
  have no1 := F.sub_tuple_set
  have no2 := F.sub_tuple_frozenset
  have no3 : (Value.type "tuple" == Value.type "dict") = false := by decide
  unfold Builtin.«set.__init__» noKeywords Builtin.Frozenset.updateFrom
  generalize hPI : pyIter = PI
  wp_walk
  subst hPI
  refine wpAny_pyIter_tuple tl2 (wpAny_bind (wpAny_runValue ?_))
  refine fill_tup ks hh hl hit hk low hu fun z L es ep t g1 g2 g3 sp g kp => ?_
  obtain ⟨h', gens', d', tk', os'⟩ := z
  obtain rfl : gens' = s.gens := g1
  obtain rfl : d' = s.drawn := g2
  obtain rfl : os' = s.os := g3
  refine wpAny_pure ?_
  show wpAny (model P w) A (ret Value.none) _ _ _
  exact wpAny_pure (h _ ⟨h', tk', L, es, ep, t, rfl, sp, g, kp⟩)
set_option maxRecDepth 100000 in
theorem call_set {l : Addr} {its : Array Value} (ks : List KA) {Q : Value → Shared → Prop} (hh : A.handled = none) (hl : s.heap.IsTuple l its) (hit : its.toList = ks.map fun p => Value.ref p.1) (hk : ∀ p ∈ ks, PK P w s.heap p.2 p.1) (low : ks.length < 64) (hu : A.units + 3 < cLine)
    (h : ∀ z, Made P w s ks z → Q (.ref s.heap.objs.size) z) : wpAny (model P w) A (call (.type "set") [.ref l]) Q E s := by
  have made := F.called_set.made
  have sub := F.called_set.sub
  obtain ⟨c, tl, mro⟩ := F.called_set.mro
  refine wpAny_call (codeAny_of_tree ?_)
  show wpAny (model P w) _ (callAny (.type "set") _) _ _ s
  refine wpAny_pure ⟨Code.quiet_builtin _ (by decide +kernel), codeAny_builtin F.entry_type_call ?_⟩
  rw [Around.under_plain (weight_type_call_type "set" [.ref l] []) rfl]
  have notType := F.called_set.notType
  have canCreate := F.called_set.canCreate
  have tcall := F.typeCall_set_1 (.ref l)
  repeat (any_goals (first | assumption | wp_step))
  refine codeAny_mono (code_set_led1 (.ref l) (E := E) (Q₁ := fun v z => v = .ref s.heap.objs.size ∧ z = { s with heap := s.heap.push (oNew w) }) ⟨rfl, rfl⟩) fun r z hr => ?_
  match r, hr with
  | .error _, hr => exact hr
  | .ok .next, hr => exact hr.elim
  | .ok .brk, hr => exact hr.elim
  | .ok .cont, hr => exact hr.elim
  | .ok (.ret v), hr =>
    obtain ⟨rfl, rfl⟩ := hr
    have atS : (s.heap.push (oNew w)).get? s.heap.objs.size = some (oNew w) := Heap.get?_push_size _ rfl
    have ty : Shared.TypeIs { s with heap := s.heap.push (oNew w) } (.ref s.heap.objs.size) "set" := ⟨_, atS, rfl⟩
    have look := F.called_set.init.lookup
    have bind := F.called_set.init.bind (.ref s.heap.objs.size)
    repeat (any_goals (first | assumption | wp_step))
    refine codeAny_mono (codeAny_call_builtin (R := wants (fun v z => v = .none ∧ Made P w s ks z) E) F.called_set.init.plain F.entry_set_init (check_set_init_1 ty ?_)) fun r₂ z₂ hr₂ => ?_
    · exact set_init ks (by simp [hh]) hl hit hk low (by simp; omega) fun z md => ⟨rfl, md⟩
    · match r₂, hr₂ with
      | .error _, hr₂ => exact hr₂
      | .ok .next, hr₂ => exact hr₂.elim
      | .ok .brk, hr₂ => exact hr₂.elim
      | .ok .cont, hr₂ => exact hr₂.elim
      | .ok (.ret u), hr₂ =>
        obtain ⟨rfl, md⟩ := hr₂
        repeat (any_goals (first | assumption | wp_step))
        exact h _ md
end
end Ss

/-! text Ss5 -/
/-! sorted(set(a tuple of pairs)). -/
namespace Ss
open PySem PySem.Spec PyProof.Rows L2 Ds Cw Wk
open PySem.W (alike AllAlike Sortable EachIs)
/-! ### sorted lists of the same things -/
abbrev sg (x : Str) : List Nat := x.cps.toList
theorem sg_inj {x y : Str} (h : sg x = sg y) : x = y := by
  obtain ⟨⟨a⟩⟩ := x
  obtain ⟨⟨b⟩⟩ := y
  have z : a = b := h
  rw [z]
theorem sg_or {x y : Str} (h : x ≠ y) : sg x < sg y ∨ sg y < sg x := by
  by_cases h1 : sg x < sg y
  · exact .inl h1
  · exact .inr (Decidable.byContradiction fun h2 => h (sg_inj (List.le_antisymm (List.not_lt.mp h2) (List.not_lt.mp h1))))
theorem leP_iff {p q : Pair} : leP p q = true ↔ (p.1 = q.1 ∧ p.2 ≤ q.2) ∨ (p.1 ≠ q.1 ∧ sg p.1 < sg q.1) := by
  unfold leP
  by_cases h : p.1 = q.1
  · rw [if_pos h]
    exact ⟨fun z => .inl ⟨h, of_decide_eq_true z⟩, fun z => decide_eq_true (z.elim (·.2) fun y => absurd h y.1)⟩
  · rw [if_neg h]
    exact ⟨fun z => .inr ⟨h, of_decide_eq_true z⟩, fun z => decide_eq_true (z.elim (fun y => absurd y.1 h) (·.2))⟩
theorem leP_total (p q : Pair) : (leP p q || leP q p) = true := by
  rw [Bool.or_eq_true, leP_iff, leP_iff]
  by_cases h : p.1 = q.1
  · rcases Int.le_total p.2 q.2 with z | z
    · exact .inl (.inl ⟨h, z⟩)
    · exact .inr (.inl ⟨h.symm, z⟩)
  · rcases sg_or h with z | z
    · exact .inl (.inr ⟨h, z⟩)
    · exact .inr (.inr ⟨fun y => h y.symm, z⟩)
theorem leP_trans (p q r : Pair) (h1 : leP p q = true) (h2 : leP q r = true) : leP p r = true := by
  rw [leP_iff] at h1 h2 ⊢
  rcases h1 with ⟨a, b⟩ | ⟨a, b⟩
  · rcases h2 with ⟨c, d⟩ | ⟨c, d⟩
    · exact .inl ⟨a.trans c, Int.le_trans b d⟩
    · exact .inr ⟨by rw [a]; exact c, by rw [a]; exact d⟩
  · rcases h2 with ⟨c, d⟩ | ⟨c, d⟩
    · exact .inr ⟨by rw [← c]; exact a, by rw [← c]; exact b⟩
    · exact .inr ⟨fun z => List.lt_asymm b (by rw [z]; exact d), List.lt_trans b d⟩
theorem leP_anti (p q : Pair) (h1 : leP p q = true) (h2 : leP q p = true) : p = q := by
  rw [leP_iff] at h1 h2
  rcases h1 with ⟨a, b⟩ | ⟨a, b⟩
  · rcases h2 with ⟨c, d⟩ | ⟨c, d⟩
    · exact Prod.ext a (Int.le_antisymm b d)
    · exact absurd a.symm c
  · rcases h2 with ⟨c, d⟩ | ⟨c, d⟩
    · exact absurd c.symm a
    · exact absurd d (List.lt_asymm b)
theorem srt_perm {l m : List Pair} (h : l.Perm m) : srt l = srt m := by
  have t := fun a b c (h1 : leP a b = true) (h2 : leP b c = true) => leP_trans a b c h1 h2
  refine List.Perm.eq_of_pairwise (le := fun a b => leP a b = true) (fun a b _ _ => leP_anti a b) (List.pairwise_mergeSort t leP_total l) (List.pairwise_mergeSort t leP_total m) ?_
  exact ((List.mergeSort_perm l leP).trans h).trans (List.mergeSort_perm m leP).symm
theorem dups_nodup : ∀ (n : Nat) (l : List Pair), l.length ≤ n → l.eraseDups.Nodup
  | _, [], _ => by simp
  | 0, _ :: _, h => absurd h (Nat.not_succ_le_zero _)
  | n + 1, x :: l, h => by
    rw [List.eraseDups_cons, List.nodup_cons]
    refine ⟨fun z => ?_, dups_nodup n _ (Nat.le_trans (List.length_filter_le _ _) (Nat.le_of_succ_le_succ h))⟩
    rw [List.mem_eraseDups, List.mem_filter] at z
    simp at z
/-- a list without doubles of just the same things, sorted -/
theorem srt_joined {l m : List Pair} (nd : m.Nodup) (h : ∀ p, p ∈ m ↔ p ∈ l) : srt m = joined l := by
  refine srt_perm ((List.perm_ext_iff_of_nodup nd (dups_nodup _ l (Nat.le_refl _))).mpr fun p => ?_)
  rw [List.mem_eraseDups]
  exact h p
theorem perm_of_map {α β : Type} (f : α → β) : ∀ {vs us : List β}, vs.Perm us → ∀ {L : List α}, us = L.map f → ∃ L1 : List α, L1.Perm L ∧ vs = L1.map f := by
  intro vs us p
  induction p with
  | nil => intro L e; cases L with
    | nil => exact ⟨[], .nil, rfl⟩
    | cons => cases e
  | cons x _ ih => intro L e; cases L with
    | nil => cases e
    | cons y L =>
      rw [List.map_cons] at e
      injection e with e1 e2
      obtain ⟨L1, p1, e3⟩ := ih e2
      exact ⟨y :: L1, p1.cons y, by rw [List.map_cons, e1, e3]⟩
  | swap x y l => intro L e; match L, e with
    | a :: b :: L, e =>
      simp only [List.map_cons, List.cons.injEq] at e
      obtain ⟨rfl, rfl, rfl⟩ := e
      exact ⟨b :: a :: L, .swap a b L, rfl⟩
  | trans _ _ ih1 ih2 => intro L e
                         obtain ⟨L2, p2, e2⟩ := ih2 e
                         obtain ⟨L1, p1, e1⟩ := ih1 e2
                         exact ⟨L1, p1.trans p2, e1⟩
/-! ### sorted(set) -/
def kk (b : Pair) : List Key := [.inr b.1, .inl b.2]
theorem kk_inj {a b : Pair} (h : kk a = kk b) : a = b := by
  unfold kk at h
  injection h with h1 h2
  injection h1 with h1
  injection h2 with h2 _
  injection h2 with h2
  exact Prod.ext h1 h2
section
variable {P : Program} {w : World} {A : Around} {E : Value → Shared → Prop} {s : Shared}
theorem sorted_set {a : Addr} {L : List KA} {es : Array (Int × Value)} {ep : Nat} {t : SetTable} {R : Value → Pair → Prop} {Q : Value → Shared → Prop} (S : SP P w s.heap a L es ep t) (hh : A.handled = none) (f : KA → Pair) (hu : A.units + 3 < cLine)
    (er : ∀ p ∈ L, R (.ref p.1) (f p) ∧ ∃ as, Reads s.heap (.ref p.1) (eP (f p)) as ∧ ∀ b ∈ as, ∃ o, s.heap.get? b = some o)
    (hQ : ∀ s' p (out : List Value) (c : Nat) (L1 : List KA), (∀ b o, s.heap.get? b = some o → s'.heap.get? b = some o) → s'.gens = s.gens → s'.os = s.os → s.heap.objs.size ≤ p →
      s'.heap.get? p = some (seqObj "list" out.toArray c) → L1.Perm L → EachIs R out (srt (L1.map f)) → Q (.ref p) s') :
    wpAny (model P w) A (call (.builtin "sorted") [.ref a]) Q E s := by
  obtain ⟨o, ho, hex, hd⟩ := S.here
  have sz := S.sz
  have low := S.low
  refine Calls.call_function_entry kind_sorted plain_sorted entry_sorted (args_sorted1 _) ?_
  unfold Builtin.«sorted»
  refine wpAny_bind (m := checkCount "sorted" 1 1 _) (wpAny_pure (wpAny_bind ?_))
  refine collect_set (A := A.in1) hh ⟨o, ho, hex.1, hd⟩ S.fit (by unfold scanBound; omega) S.tb.ris S.ledd fun s1 vs k1 hz g1 o1 pm => ?_
  have e0 : es.toList.map (·.2) = L.map fun q => Value.ref q.1 := by
    rw [S.row, rows, List.map_map]
    rfl
  obtain ⟨L1, p1, rfl⟩ := perm_of_map _ pm e0
  have hl : L1.length < 64 := by rw [p1.length_eq]; exact low
  refine wpAny_bind (wpAny_newList ?_ (by rw [sizeLine_eq, List.length_map]; omega))
  have hoL : (s1.heap.push (seqObj "list" (L1.map fun q => Value.ref q.1).toArray 0)).get? s1.heap.objs.size = some (seqObj "list" (L1.map fun q => Value.ref q.1).toArray 0) := Heap.get?_push_size _ rfl
  have old : ∀ b u, s.heap.get? b = some u → (s1.heap.push (seqObj "list" (L1.map fun q => Value.ref q.1).toArray 0)).get? b = some u := fun b u e => Heap.get?_push_of_some _ (k1 b u e)
  have each : ∀ l : List KA, (∀ q ∈ l, q ∈ L) → EachIs R (l.map fun q => Value.ref q.1) (l.map f) ∧ EachIs (fun v b => ∃ as, Reads (s1.heap.push (seqObj "list" (L1.map fun q => Value.ref q.1).toArray 0)) v (eP b) as ∧ s1.heap.objs.size ∉ as) (l.map fun q => Value.ref q.1) (l.map f) := by
    intro l hl
    induction l with
    | nil => exact ⟨.nil, .nil⟩
    | cons q l ih =>
      obtain ⟨i1, i2⟩ := ih fun r hr => hl r (List.mem_cons_of_mem _ hr)
      obtain ⟨r1, as, r2, r3⟩ := er q (hl q List.mem_cons_self)
      refine ⟨.cons r1 i1, .cons ⟨as, PyProof.Rows.Reads.keeps old r2, fun z => ?_⟩ i2⟩
      obtain ⟨u, hu'⟩ := r3 _ z
      exact absurd (Heap.lt_size (k1 _ _ hu')) (Nat.lt_irrefl _)
  obtain ⟨e1, e2⟩ := each L1 fun q hq => p1.mem_iff.mp hq
  refine wpAny_bind (wpAny_holding (PySem.W.list_sort_data (s := { s1 with heap := s1.heap.push (seqObj "list" (L1.map fun q => Value.ref q.1).toArray 0) }) (n := 0) hoL e1 e2 (AllAlike.of fun b b' => by simp [alike, PySem.W.alikeAll, eP]) (Sortable.tuples fun b => ⟨_, _, rfl⟩) (by rw [sizeLine_eq, List.length_map]; omega) (fun b _ => ?_) fun out hlo he => ?_))
  · have hd : (eP b).depth ≤ 1 := by simp [eP, PyData.depth, PyData.depthAll]
    simp
    omega
  · rw [dataLe_pair] at he
    obtain ⟨c, hc⟩ := sortedHeap_at (vs := L1.map fun q => Value.ref q.1) (out := out.toArray) hoL
    refine wpAny_pure ⟨_, rfl, hQ _ s1.heap.objs.size out c L1 (fun b u e => ?_) g1 o1 hz hc p1 he⟩
    have lt := Heap.lt_size (k1 b u e)
    show (sortedHeap _ _ _ _).get? b = some u
    rw [sortedHeap_old (Nat.ne_of_lt lt) (by rw [size_push']; exact Nat.lt_succ_of_lt lt)]
    exact old b u e
end
end Ss

/-! text Ss6 -/
/-! sorted(set(a tuple of pairs)), as an expression. -/
namespace Ss
open PySem PySem.Spec PyProof.Rows L2 Ds Cw Wk
open PySem.W (alike AllAlike Sortable EachIs)
def un : List Key → Pair
  | [.inr x, .inl i] => (x, i)
  | _ => ("", 0)
theorem un_kk (b : Pair) : un (kk b) = b := rfl
theorem pk_reads {P : Program} {w : World} {h : Heap} {b : Pair} {a : Addr} (x : PK P w h (kk b) a) : Reads h (.ref a) (eP b) [] := by
  obtain ⟨o, its, n, ho, hc, hd, hi⟩ := x
  refine Reads.tuple (as := []) ho hc hd ?_
  generalize its.toList = l at hi
  cases hi with
  | cons h1 h2 =>
    cases h2 with
    | cons h3 h4 =>
      cases h4
      obtain ⟨i, t, e, _⟩ | ⟨x, t, e, rfl⟩ := keyIs_shape (k := .inr b.1) h1
      · cases e
      · cases e
        obtain ⟨i, t2, e, rfl⟩ | ⟨x, t2, e, _⟩ := keyIs_shape (k := .inl b.2) h3
        · cases e
          exact ReadsAll.cons (as := []) (bs := []) (.str _ _) (ReadsAll.cons (as := []) (bs := []) (.int _ _) .nil)
        · cases e
section
variable {K : PySem.W.Frag} {H : Hp}
/-- the pairs of a tuple, each with where it stands -/
theorem ks_of : ∀ {l : List Pair} {xs : List V}, Tds K H xs (l.map eP) → ∃ ks : List KA, xs = ks.map (fun p => V.ref p.1) ∧ ks.map (·.2) = l.map kk ∧ ∀ p ∈ ks, ∃ b : Pair, p.2 = kk b ∧ SqT K H p.1 [.str b.1, .int b.2] ∧ Td K H (.ref p.1) (eP b)
  | [], _, h => by
    cases h
    exact ⟨[], rfl, rfl, fun p hp => by cases hp⟩
  | b :: l, _, h => by
    cases h with
    | cons h1 h2 =>
      obtain ⟨ks, rfl, e2, e3⟩ := ks_of h2
      have h1' := h1
      cases h1 with
      | tup hs ht =>
        cases ht with
        | cons t1 t2 => cases t1; cases t2 with
          | cons t3 t4 => cases t3; cases t4; exact ⟨(_, kk b) :: ks, rfl, by rw [List.map_cons, e2]; rfl, fun p hp => by
              rcases List.mem_cons.mp hp with rfl | hp
              · exact ⟨b, rfl, hs.sq, h1'⟩
              · exact e3 p hp⟩
end
def tSS (K : PySem.W.Frag) (ta : TE) : TE := fun σ H Q => ta σ H fun x H1 => ∃ (t : Addr) (xs : List V) (l : List Pair), x = V.ref t ∧ SqT K H1 t xs ∧ Tds K H1 xs (l.map eP) ∧ l.length < 64 ∧
  ∀ us' p, Rks K H1 us' ((joined l).map fun b => .d (eP b)) → H1 p = none → Q (.ref p) (upd H1 p (.lst us'))
theorem items_pk {P : Program} {w : World} {b : Pair} {us : List Value} (h : Vals [.str b.1, .int b.2] us) : ItemsAre (mixKind P w) (kk b) us := by
  cases h with
  | cons h1 h2 =>
    cases h2 with
    | cons h3 h4 =>
      cases h4
      obtain ⟨t1, rfl⟩ := h1
      obtain ⟨t2, rfl⟩ := h3
      exact .cons (keyIs_str _ t1) (.cons (keyIs_int _ t2) .nil)
theorem refs_of : ∀ {ks : List KA} {us : List Value}, Vals (ks.map fun p => V.ref p.1) us → us = ks.map fun p => Value.ref p.1
  | [], _, h => by cases h; rfl
  | p :: ks, _, h => by
    cases h with
    | cons r t =>
      cases r
      rw [refs_of t]
      rfl
section
variable {X : Cx} {a : Expr} {ta : TE} {p p2 q pos : Pos}
theorem pe_sortSet {k : Nat} (hr : Room k X.A) (hc : X.calm = true) (hg : Gl X "sorted") (hm : X.mg "sorted" = none) (hg2 : Gl X "set") (hm2 : X.mg "set" = none) (ha : PE X a ta)
    (na : starEach [a] X.env = (false, eval a X.env) :: starEach [] X.env := by rfl) : PE X (.Call (.Name "sorted" p) [.Call (.Name "set" p2) [a] [] q] [] pos) (tSS X.K ta) := by
  refine ⟨fun pins s σ H Q I h => ?_⟩
  refine Call_ (ld_blt (u := .builtin "sorted") I hg hm (by decide +kernel) (PyProof.Rows.callWith_builtin1 (PyProof.Rows.args_cons ?_ rfl) rfl rfl))
  refine Call_ (ld_blt I hg2 hm2 PyProof.Rows.boot_set ?_)
  refine PyProof.Rows.callWith_type1 (PyProof.Rows.args_cons (thn (ha.run pins s σ H _ I h) fun v s1 ⟨x, H1, I1, r1, q1⟩ => PyProof.Rows.args_nil ?_) na) na rfl
  obtain ⟨t, xs, l, rfl, hq, ht, low, q1⟩ := q1
  cases r1
  obtain ⟨ks, rfl, e2, e3⟩ := ks_of ht
  obtain ⟨its, rv, hT, hz⟩ := I1.tuple hq
  have hlen : ks.length = l.length := by rw [← List.length_map (f := (·.2)), e2, List.length_map]
  have un' := hr.un
  have keys : ∀ p ∈ ks, PK X.prog X.w s1.heap p.2 p.1 := fun p hp => by
    obtain ⟨b, eb, hb, _⟩ := e3 p hp
    obtain ⟨its2, rv2, ⟨o, ho, hcl, n, hd⟩, _⟩ := I1.tuple hb
    rw [eb]
    exact ⟨o, its2.toArray, n, ho, hcl, hd, by simpa using items_pk rv2⟩
  refine call_set (P := X.prog) (w := X.w) ks (I1.ok.hd hc) hT (by simpa using refs_of rv) keys (by rw [hlen]; exact low) (by omega) fun z md => ?_
  obtain ⟨h', tk, L, es, ep, tb, rfl, sp, has, kp⟩ := md
  refine PyProof.Rows.args_nil ?_
  have I2 : Inv X pins σ H1 { s1 with heap := h', toks := tk } := I1.kept fun b o e => kp b o e
  have fromL : ∀ p ∈ L, ∃ b : Pair, p.2 = kk b ∧ Td X.K H1 (.ref p.1) (eP b) := fun p hp => by
    obtain ⟨b, h1, _, h2⟩ := e3 p (List.mem_of_mem_take (has.from_ p hp))
    exact ⟨b, h1, h2⟩
  refine sorted_set (s := { s1 with heap := h', toks := tk }) (R := fun u b => ∃ v, RelV v u ∧ Rk X.K H1 v (.d (eP b))) sp (I1.ok.hd hc) (fun q => un q.2) (by omega) (fun p hp => ?_) fun s' D out c L1 k g o hp hD pm he => ?_
  · obtain ⟨b, h1, h2⟩ := fromL p hp
    have eu : un p.2 = b := by rw [h1, un_kk]
    rw [eu]
    refine ⟨⟨.ref p.1, rfl, .d h2⟩, [], ?_, fun _ z => by cases z⟩
    have := sp.are p hp
    rw [h1] at this
    exact pk_reads this
  · have hm1 : ∀ p ∈ L1, ∃ b : Pair, p.2 = kk b := fun p hp => by
      obtain ⟨b, h1, _⟩ := fromL p (pm.mem_iff.mp hp)
      exact ⟨b, h1⟩
    have ej : srt (L1.map fun q => un q.2) = joined l := by
      refine srt_joined ?_ fun b => ?_
      · have nd : (L1.map (·.2)).Nodup := (pm.map (·.2)).nodup_iff.mpr sp.nod
        rw [List.Nodup, List.pairwise_map] at nd ⊢
        refine nd.imp_of_mem fun {x y} hx hy ne e => ne ?_
        obtain ⟨b, hb⟩ := hm1 x hx
        obtain ⟨b', hb'⟩ := hm1 y hy
        rw [hb, hb', un_kk, un_kk] at e
        rw [hb, hb', e]
      · rw [List.mem_map]
        constructor
        · rintro ⟨x, hx, rfl⟩
          obtain ⟨b, hb⟩ := hm1 x hx
          have h1 : x.2 ∈ ks.map (·.2) := List.mem_map.mpr ⟨x, List.mem_of_mem_take (has.from_ x (pm.mem_iff.mp hx)), rfl⟩
          rw [e2] at h1
          obtain ⟨b2, h2, h3⟩ := List.mem_map.mp h1
          rw [← h3, un_kk]
          exact h2
        · intro hb
          have h1 : kk b ∈ ks.map (·.2) := by rw [e2]; exact List.mem_map.mpr ⟨b, hb, rfl⟩
          obtain ⟨x, hx, ex⟩ := List.mem_map.mp h1
          have h2 := has.each x (by rw [List.take_length]; exact hx)
          obtain ⟨y, hy, ey⟩ := List.mem_map.mp h2
          exact ⟨y, pm.mem_iff.mpr hy, by rw [ey, ex, un_kk]⟩
    rw [ej] at he
    obtain ⟨us', v1, v2⟩ := of_each (fun b => .d (eP b)) he
    have hlen2 : us'.length ≤ sizeLine := by
      have e1 : (joined l).length = L1.length := by rw [← ej]; unfold srt; rw [List.length_mergeSort, List.length_map]
      rw [v2.length, List.length_map, e1, pm.length_eq, sizeLine_eq]
      have := sp.low
      omega
    have hn : H1 D = none := I2.hok.fresh hp
    have J : Inv X pins σ (upd H1 D (.lst us')) { ({ s1 with heap := h', toks := tk } : Shared) with heap := s'.heap, gens := s'.gens, drawn := s'.drawn, toks := s'.toks } :=
      Inv.call (s := { s1 with heap := h', toks := tk }) (ch := []) I2 (Un.laid k hp hn) (I2.hok.laid k hp ⟨hlen2, out, c, v1, hD⟩) (by rw [g]; exact I2.bare) (fun _ z => nomatch z)
    have e : s' = { s1 with heap := s'.heap, gens := s'.gens, drawn := s'.drawn, toks := s'.toks } := by
      cases s'
      cases s1
      cases o
      rfl
    rw [e]
    exact ⟨.ref D, _, J, rfl, q1 us' D v2 hn⟩
/-- sorted(set(a tuple of pairs)) -/
theorem xe_sortSet {F : Fm} {δ : De} {μ : Mu} {Q : Rv → Mu → Prop} {k : Nat} (hr : Room k X.A) (hm : X.mg "sorted" = none) (hm2 : X.mg "set" = none)
    (h : XE X F δ μ a fun r μ1 => ∃ l : List Pair, r = .d (eAsk l) ∧ l.length < 64 ∧ ∀ p2, Q (.r (.ref p2)) ((p2, .lst ((joined l).map fun b => .d (eP b))) :: μ1)) (hc : X.calm = true := by rfl) (hg : Gl X "sorted" := by rfl) (hg2 : Gl X "set" := by rfl)
    (na : starEach [a] X.env = (false, eval a X.env) :: starEach [] X.env := by rfl) : XE X F δ μ (.Call (.Name "sorted" p) [.Call (.Name "set" p2) [a] [] q] [] pos) Q := fun σ H lo ow fk =>
  we_of (pe_sortSet hr hc hg hm hg2 hm2 pe_w na) (h.run lo ow fk fun v H1 r μ1 t1 _ rk ow1 fk1 ⟨l, e, low, q1⟩ => by
    subst e
    cases rk with
    | d rk =>
      cases rk with
      | tup hs ht => exact ⟨_, _, l, rfl, hs.sq, ht, low, fun us' D hv hn => Pe.back t1 _ _ (pe_newO (ob := .lst ((joined l).map fun b => .d (eP b))) hn ⟨us', upd_same, hv.keep (Ds.TK.new hn _)⟩ ow1 fk1 (q1 D))⟩)
end
end Ss

/-! text Ds14 -/
/-! Code over data: instances of own classes. -/
namespace Ds
open PySem PySem.Spec PyProof.Rows L2

/-! ### fields -/
def fput (f : Str) (z : Rv) : List (Str × Rv) → List (Str × Rv)
  | [] => [(f, z)]
  | (g, x) :: r => if g = f then (g, z) :: r else (g, x) :: fput f z r
section
variable {K : PySem.W.Frag} {H : Hp} {f : Str}
theorem fl_get : ∀ {fv : List (Str × V)} {fs : List (Str × Rv)} {z : Rv}, fv.map (·.1) = fs.map (·.1) → Rks K H (fv.map (·.2)) (fs.map (·.2)) → fs.lookup f = some z → ∃ v, fv.lookup f = some v ∧ Rk K H v z
  | [], [], _, _, _, h => by cases h
  | [], _ :: _, _, h, _, _ => by cases h
  | _ :: _, [], _, h, _, _ => by cases h
  | (a, v) :: fv, (b, x) :: fs, z, h, r, e => by
    have h1 : a = b := by injection h
    have h2 : fv.map (·.1) = fs.map (·.1) := by injection h
    subst h1
    cases r with
    | cons r1 r2 =>
      rw [List.lookup_cons] at e ⊢
      cases c : f == a with
      | true =>
        rw [c] at e
        cases e
        exact ⟨v, rfl, r1⟩
      | false =>
        rw [c] at e
        exact fl_get h2 r2 e
theorem fl_none : ∀ {fv : List (Str × V)} {fs : List (Str × Rv)}, fv.map (·.1) = fs.map (·.1) → fs.lookup f = none → fv.lookup f = none
  | [], _, _, _ => rfl
  | _ :: _, [], h, _ => by cases h
  | (a, v) :: fv, (b, x) :: fs, h, e => by
    have h1 : a = b := by injection h
    have h2 : fv.map (·.1) = fs.map (·.1) := by injection h
    subst h1
    rw [List.lookup_cons] at e ⊢
    cases c : f == a with
    | true => rw [c] at e; cases e
    | false => rw [c] at e; exact fl_none h2 e
theorem fl_put {v : V} {z : Rv} (hv : Rk K H v z) : ∀ {fv : List (Str × V)} {fs : List (Str × Rv)}, fv.map (·.1) = fs.map (·.1) → Rks K H (fv.map (·.2)) (fs.map (·.2)) →
    (putF f v fv).map (·.1) = (fput f z fs).map (·.1) ∧ Rks K H ((putF f v fv).map (·.2)) ((fput f z fs).map (·.2))
  | [], [], _, _ => ⟨rfl, .cons hv .nil⟩
  | [], _ :: _, h, _ => by cases h
  | _ :: _, [], h, _ => by cases h
  | (a, u) :: fv, (b, x) :: fs, h, r => by
    have h1 : a = b := by injection h
    have h2 : fv.map (·.1) = fs.map (·.1) := by injection h
    subst h1
    cases r with
    | cons r1 r2 =>
      obtain ⟨i1, i2⟩ := fl_put hv h2 r2
      by_cases c : a = f
      · rw [show putF f v ((a, u) :: fv) = (a, v) :: fv from if_pos c, show fput f z ((a, x) :: fs) = (a, z) :: fs from if_pos c]
        exact ⟨by rw [List.map_cons, List.map_cons, h2], .cons hv r2⟩
      · rw [show putF f v ((a, u) :: fv) = (a, u) :: putF f v fv from if_neg c, show fput f z ((a, x) :: fs) = (a, x) :: fput f z fs from if_neg c]
        exact ⟨by rw [List.map_cons, List.map_cons, i1], .cons r1 i2⟩
theorem fl_len {fv : List (Str × V)} {fs : List (Str × Rv)} (h : fv.map (·.1) = fs.map (·.1)) : fv.length = fs.length := by
  have := congrArg List.length h
  rwa [List.length_map, List.length_map] at this
end
/-- what the text says of a class and its instances' fields -/
structure Kls (K : PySem.W.Frag) (C : Addr) (fl : List Str) : Prop where
  cl : Cls K C
  no : ∀ f ∈ fl, NoAttr K C f
section
variable {X : Cx} {F : Fm} {δ : De} {μ : Mu} {o e a : Expr} {es : List Expr} {f m x : Str} {pos pos' apos p : Pos} {Q : Rv → Mu → Prop} {D : Dn} {C : Addr} {fl : List Str} {k n : Nat} {fa : Addr} {ps ks : List Str} {S : Sc} {drs : List Rv} {kws : List Keyword}
/-- o.f -/
theorem xe_fld (c : Kls X.K C fl) (h : XE X F δ μ o fun r μ1 => ∃ q fs z, r = .r (.ref q) ∧ (q, Ob.ins C fs) ∈ μ1 ∧ fs.lookup f = some z ∧ Q z μ1) (hf : f ∈ fl := by decide) (hb : attributeBase o f X.env (eval o X.env) = eval o X.env := by rfl) : XE X F δ μ (.Attribute o f pos) Q := fun σ H lo ow fk =>
  we_of (pe_fld pe_w hb) (h.run lo ow fk fun v H1 r μ1 t1 _ r1 ow1 fk1 ⟨q, fs, z, e1, hm, hl, hq⟩ => by
    subst e1
    cases r1
    obtain ⟨dx, fv, h1, h2, h3⟩ := ow1 _ hm
    obtain ⟨u, g1, g2⟩ := fl_get h2 h3 hl
    exact ⟨q, C, dx, fv, u, rfl, h1, c.cl, c.no f hf, g1, t1, z, μ1, g2, ow1, fk1, hq⟩)
/-- o.f = e -/
theorem xs_fld (c : Kls X.K C fl) (h : XE X F δ μ e fun rv μ1 => XE X F δ μ1 o fun r μ2 => ∃ q fs μ3, r = .r (.ref q) ∧ fs.length < 1000 ∧ Sw (q, .ins C fs) (q, .ins C (fput f rv fs)) μ2 μ3 ∧ D.nx δ μ3) (hf : f ∈ fl := by decide)
    (hs : swapsWith e (some (.Attribute o f pos')) pos.line X.env = pure false := by rfl) : XS X F δ μ (.Assign [.Attribute o f pos'] e pos) D := fun σ H lo ow fk =>
  ws_of (ps_fld pe_w pe_w hs) (h.run lo ow fk fun vv H1 rv μ1 t1 lo1 r1 ow1 fk1 q1 => q1.run lo1 ow1 fk1 fun v H2 r μ2 t2 lo2 r2 ow2 fk2 ⟨q, fs, μ3, e1, hl, s, hq⟩ => by
    subst e1
    cases r2
    obtain ⟨dx, fv, h1, h2, h3⟩ := ow2 _ s.mem
    have tk : TK H2 (upd H2 q (.ins C dx (putF f vv fv))) := s.tk ow2
    obtain ⟨g1, g2⟩ := fl_put (f := f) ((r1.keep t2).keep tk) h2 (h3.keep tk)
    exact ⟨q, C, dx, fv, rfl, h1, c.cl, c.no f hf, by rw [fl_len h2]; exact hl, (t1.trans t2).trans tk, δ, μ3, lo2.keep tk, s.ow ow2 fk2.nd ⟨dx, _, upd_same, g1, g2⟩, s.fk fk2, hq⟩)
/-- o.m(e, ..) -/
theorem xe_meth {pl : Sem Bool} (G : Df X.prog X.w X.K X.mg X.base k fa ps S) (c : Kls X.K C fl) (hm : Meth X.K C m fa) (hr : Room k X.A)
    (h : XE X F δ μ o fun r μ1 => ∃ q fs, r = .r (.ref q) ∧ (q, Ob.ins C fs) ∈ μ1 ∧ fs.lookup m = none ∧ XA X F δ μ1 (e :: es) fun rs μ2 => ∃ μa μr, μ2.Perm (μa ++ μr) ∧ S (.r (.ref q) :: rs) μa fun r μb => Q r (μb ++ μr))
    (hst : starEach (e :: es) X.env = (false, eval e X.env) :: starEach es X.env := by rfl) (hpl : (backTo pos (starEach es X.env)).any (·.1) = false := by rfl)
    (ht : eval (.Call (.Attribute o m apos) (e :: es) [] pos) X.env = (do
      let ov ← eval o X.env
      standAt apos.atName
      let (f, first) ← holding [ov] (getMethod ov m pl)
      callWith pos f first (backTo pos (starEach (e :: es) X.env)) (backToKw pos (keywordEach [] X.env))) := by rfl) : XE X F δ μ (.Call (.Attribute o m apos) (e :: es) [] pos) Q := fun σ H lo ow fk => by
  obtain ⟨fd, G, b, kp⟩ := G.ex
  refine we_of (pe_meth pe_w c.cl hm G hr b .nil pass0 pa_w hst hpl ht) (h.run lo ow fk fun v H1 r μ1 t1 lo1 r1 ow1 fk1 ⟨q, fs, e1, hi, hl, q1⟩ => ?_)
  subst e1
  cases r1
  obtain ⟨dx, fv, h1, h2, h3⟩ := ow1 _ hi
  refine ⟨q, dx, fv, rfl, h1, fl_none h2 hl, q1.run lo1 ow1 fk1 fun vs H2 rs μ2 t2 _ r2 ow2 fk2 ⟨μa, μr, pm, q2⟩ => ?_⟩
  rw [List.append_nil]
  exact (sp_call (E := E0) ow2 fk2 pm (.cons (.r _) r2) q2).mono (Pe.back (t1.trans t2))
/-- o.m() -/
theorem xe_meth0 {pl : Sem Bool} (G : Df X.prog X.w X.K X.mg X.base k fa ps S) (c : Kls X.K C fl) (hm : Meth X.K C m fa) (hr : Room k X.A)
    (h : XE X F δ μ o fun r μ1 => ∃ q fs, r = .r (.ref q) ∧ (q, Ob.ins C fs) ∈ μ1 ∧ fs.lookup m = none ∧ ∃ μa μr, μ1.Perm (μa ++ μr) ∧ S [.r (.ref q)] μa fun r μb => Q r (μb ++ μr))
    (ht : eval (.Call (.Attribute o m apos) [] [] pos) X.env = (do
      let ov ← eval o X.env
      standAt apos.atName
      let (f, first) ← holding [ov] (getMethod ov m pl)
      callWith pos f first (backTo pos (starEach [] X.env)) (backToKw pos (keywordEach [] X.env))) := by rfl) : XE X F δ μ (.Call (.Attribute o m apos) [] [] pos) Q := fun σ H lo ow fk => by
  obtain ⟨fd, G, b, kp⟩ := G.ex
  refine we_of (pe_meth0 pe_w c.cl hm G hr b .nil pass0 ht) (h.run lo ow fk fun v H1 r μ1 t1 lo1 r1 ow1 fk1 ⟨q, fs, e1, hi, hl, μa, μr, pm, q1⟩ => ?_)
  subst e1
  cases r1
  obtain ⟨dx, fv, h1, h2, h3⟩ := ow1 _ hi
  refine ⟨q, dx, fv, rfl, h1, fl_none h2 hl, ?_⟩
  show spOf X.K S [V.ref q] H1 (Pe X.K F H Q) E0
  exact (sp_call (E := E0) ow1 fk1 pm (.cons (.r _) .nil) q1).mono (Pe.back t1)
/-! ### new instances -/
theorem ow_made {K : PySem.W.Frag} {H : Hp} {x dx C : Addr} (w : Ow K H μ) (hx : H x = none) (hd : H dx = none) (ne : dx ≠ x) : Ow K (upd (upd H dx (.own x)) x (.ins C dx [])) ((x, .ins C []) :: μ) := by
  have h2 : upd H dx (.own x) x = none := by rw [upd_ne (Ne.symm ne)]; exact hx
  exact ((w.new hd _).new h2 _).more ⟨dx, [], upd_same, rfl, .nil⟩
theorem fk_made {K : PySem.W.Frag} {H : Hp} {x dx C : Addr} (f : Fk F H μ) (w : Ow K H μ) (hx : H x = none) (hd : H dx = none) (ne : dx ≠ x) : Fk F (upd (upd H dx (.own x)) x (.ins C dx [])) ((x, .ins C []) :: μ) := by
  have h2 : upd H dx (.own x) x = none := by rw [upd_ne (Ne.symm ne)]; exact hx
  exact (f.new hd _).more (w.new hd _) h2
theorem tk_made {H : Hp} {x dx C : Addr} (hx : H x = none) (hd : H dx = none) (ne : dx ≠ x) : TK H (upd (upd H dx (.own x)) x (.ins C dx [])) := by
  have h2 : upd H dx (.own x) x = none := by rw [upd_ne (Ne.symm ne)]; exact hx
  exact (TK.new hd _).trans (TK.new h2 _)
/-- what __init__ promises of the new one -/
theorem sp_made {K : PySem.W.Frag} {H H1 : Hp} {x dx : Addr} {vs : List V} {rs : List Rv} (t : TK H H1) (w : Ow K H1 μ) (g : Fk F H1 μ) (r : Rks K H1 vs rs) (hx : H1 x = none) (hd : H1 dx = none) (ne : dx ≠ x)
    (h : ∃ μa μr, ((x, Ob.ins C []) :: μ).Perm (μa ++ μr) ∧ S (.r (.ref x) :: rs) μa fun r μb => r = .d .none ∧ Q (.r (.ref x)) (μb ++ μr)) :
    spOf K S (.ref x :: vs) (upd (upd H1 dx (.own x)) x (.ins C dx [])) (fun v H3 => v = .non ∧ Pe K F H Q (.ref x) H3) E0 := by
  obtain ⟨μa, μr, pm, q⟩ := h
  have tm : TK H1 (upd (upd H1 dx (.own x)) x (.ins C dx [])) := tk_made hx hd ne
  refine (sp_call (E := E0) (Q := fun r μb => r = .d .none ∧ Q (.r (.ref x)) μb) (ow_made w hx hd ne) (fk_made g w hx hd ne) pm (.cons (.r _) (r.keep tm)) q).mono fun v H' ⟨t2, r, μ', h1, h2, h3, e, q2⟩ => ?_
  subst e
  refine ⟨?_, (t.trans tm).trans t2, _, μ', .r _, h2, h3, q2⟩
  cases h1 with
  | d h1 => cases h1; rfl
/-- C(e, ..) -/
theorem xe_make (G : Df X.prog X.w X.K X.mg X.base k fa ps S) (M : Mk X.K C fa) (hr : Room (k + 1) X.A) (hm : X.mg x = some (.ref C))
    (h : XA X F δ μ (e :: es) fun rs μ1 => ∀ q, ∃ μa μr, ((q, Ob.ins C []) :: μ1).Perm (μa ++ μr) ∧ S (.r (.ref q) :: rs) μa fun r μb => r = .d .none ∧ Q (.r (.ref q)) (μb ++ μr)) (hg : Gl X x := by rfl) (hdb : (x == ("__debug__" : Str)) = false := by decide)
    (he : starEach (e :: es) X.env = (false, eval e X.env) :: starEach es X.env := by rfl) (hpl : (backTo pos (starEach es X.env)).any (·.1) = false := by rfl) : XE X F δ μ (.Call (.Name x p) (e :: es) [] pos) Q := fun σ H lo ow fk => by
  obtain ⟨fd, G, b, kp⟩ := G.ex
  refine we_of (pe_make M G hr hg hm b .nil pass0 pa_w hdb he hpl) (h.run lo ow fk fun vs H1 rs μ1 t1 _ r1 ow1 fk1 q1 => ?_)
  intro q dx hx hd ne
  rw [List.append_nil]
  exact sp_made t1 ow1 fk1 r1 hx hd ne (q1 q)
/-- C(e, ..), the keyword-only ones left out -/
theorem xe_makeD (G : DfD X.prog X.w X.K X.mg X.base k fa ps drs S) (M : Mk X.K C fa) (hr : Room (k + 1) X.A) (hm : X.mg x = some (.ref C))
    (h : XA X F δ μ (e :: es) fun rs μ1 => ∀ q, ∃ μa μr, ((q, Ob.ins C []) :: μ1).Perm (μa ++ μr) ∧ S (.r (.ref q) :: (rs ++ drs)) μa fun r μb => r = .d .none ∧ Q (.r (.ref q)) (μb ++ μr)) (hg : Gl X x := by rfl) (hdb : (x == ("__debug__" : Str)) = false := by decide)
    (he : starEach (e :: es) X.env = (false, eval e X.env) :: starEach es X.env := by rfl) (hpl : (backTo pos (starEach es X.env)).any (·.1) = false := by rfl) : XE X F δ μ (.Call (.Name x p) (e :: es) [] pos) Q := fun σ H lo ow fk => by
  obtain ⟨fd, dvs, ds, G, b, hv, hd, kp⟩ := G.ex
  refine we_of (pe_make M G hr hg hm b hv pass0 pa_w hdb he hpl) (h.run lo ow fk fun vs H1 rs μ1 t1 _ r1 ow1 fk1 q1 => ?_)
  intro q dx hx hdx ne
  exact sp_made t1 ow1 fk1 (r1.append (hd H1)) hx hdx ne (q1 q)
/-- C(e, .., k = v, ..), all of them given -/
theorem xe_makeKw (G : DfK X.prog X.w X.K X.mg X.base k fa ps (n + 1) ks S) (M : Mk X.K C fa) (hr : Room (k + 1) X.A) (hm : X.mg x = some (.ref C))
    (h : XA X F δ μ (e :: es) fun rs μ1 => XKw X F δ μ1 kws fun zs μ2 => rs.length = n ∧ zs.length = ks.length ∧ ∀ q, ∃ μa μr, ((q, Ob.ins C []) :: μ2).Perm (μa ++ μr) ∧ S (.r (.ref q) :: (rs ++ zs)) μa fun r μb => r = .d .none ∧ Q (.r (.ref q)) (μb ++ μr)) (hg : Gl X x := by rfl) (hdb : (x == ("__debug__" : Str)) = false := by decide)
    (hall : (backToKw pos (keywordEach kws X.env)).all (·.1.isSome) = true := by rfl) (hks : (backToKw pos (keywordEach kws X.env)).filterMap (·.1) = ks := by rfl)
    (he : starEach (e :: es) X.env = (false, eval e X.env) :: starEach es X.env := by rfl) (hpl : ((backTo pos (starEach (e :: es) X.env)).any (·.1) || (backToKw pos (keywordEach kws X.env)).any (·.1.isNone)) = false := by rfl) : XE X F δ μ (.Call (.Name x p) (e :: es) kws pos) Q := fun σ H lo ow fk => by
  obtain ⟨fd, G, b, kp⟩ := G.ex
  refine we_of (pe_makeN M G hr hg hm b pass0 pa_w pk_w hall hks hdb he hpl) (h.run lo ow fk fun vs H1 rs μ1 t1 lo1 r1 ow1 fk1 q1 => q1.run lo1 ow1 fk1 fun zs H2 zr μ2 t2 _ r2 ow2 fk2 ⟨l1, l2, q2⟩ => ?_)
  refine ⟨by rw [r1.length]; exact l1, by rw [r2.length]; exact l2, ?_⟩
  intro q dx hx hdx ne
  exact sp_made (t1.trans t2) ow2 fk2 ((r1.keep t2).append r2) hx hdx ne (q2 q)
/-! ### a field that holds a def, called -/
def tCallF (K : PySem.W.Frag) (C : Addr) (m : Str) (f : Addr) (n j : Nat) (sp : Sp) (gV : List V → List V → List V) (ta : TE) (t tk : TA) : TE := fun σ H Q => ta σ H fun x H1 => ∃ q dx fs, x = .ref q ∧ H1 q = some (.ins C dx fs) ∧ fs.lookup m = some (.ref f) ∧
  t σ H1 fun vs H2 => tk σ H2 fun zs H3 => vs.length = n ∧ zs.length = j ∧ sp (gV vs zs) H3 Q E0
theorem pe_callF {pl : Sem Bool} {sp : Sp} {fd : FuncData} {g : List Value → List Value → List Value} {gV : List V → List V → List V} {ta : TE} {t tk : TA} (he : PE X o ta) (c : Cls X.K C) (no : NoAttr X.K C m) (G : FnOk X.prog X.w X.K X.mg X.base CX0 k fa fd ps sp) (hr : Room k X.A) (hk : PySem.W.keepIn X.K (.ref fa) = true)
    (hb : KBn X.K fd ps n ks g gV) (ha : PA X (e :: es) t) (hkw : PK X kws tk) (hall : (backToKw pos (keywordEach kws X.env)).all (·.1.isSome) = true) (hks : (backToKw pos (keywordEach kws X.env)).filterMap (·.1) = ks)
    (hst : starEach (e :: es) X.env = (false, eval e X.env) :: starEach es X.env) (hpl : ((backTo pos (starEach (e :: es) X.env)).any (·.1) || (backToKw pos (keywordEach kws X.env)).any (·.1.isNone)) = false)
    (ht : eval (.Call (.Attribute o m apos) (e :: es) kws pos) X.env = (do
      let ov ← eval o X.env
      standAt apos.atName
      let (f, first) ← holding [ov] (getMethod ov m pl)
      callWith pos f first (backTo pos (starEach (e :: es) X.env)) (backToKw pos (keywordEach kws X.env)))) : PE X (.Call (.Attribute o m apos) (e :: es) kws pos) (tCallF X.K C m fa n ks.length sp gV ta t tk) := by
  refine ⟨fun pins s σ H Q I h => ?_⟩
  refine PySem.W.methodCall_KW (pl := pl) (thn (he.run pins s σ H _ I h) fun u s1 ⟨x, H1, I1, rx, q, dx, fs, ex, ea, l, q1⟩ => ?_) ht
  subst ex
  obtain rfl : u = Value.ref q := rx
  obtain ⟨mA, O, r, _, _, _⟩ := ins_get I1.hok ea
  obtain ⟨od, J, hl⟩ := O.look
  refine PySem.W.method_usual (r := none) I1.kIn J (PySem.W.plainGet_of (c.get m)).1 (PySem.W.plainGet_of (c.get m)).2 no rfl ?_
  refine getattr_ok I1 ea c no l fun u s2 I2 ru => ?_
  obtain rfl : u = Value.ref fa := ru
  refine PySem.W.callWith_KW (first := []) (h₀ := X.base) I2.ok.mod.kin hk hall (thn (ha.run pos pins s2 σ H1 _ I2 q1) fun us s3 ⟨vs, H2, I3, r2, q2⟩ => ?_) hpl hst
  refine thn (hkw.run pos pins s3 σ H2 _ I3 q2) fun ws s4 ⟨zs, H3, I4, rz, l1, l2, q3⟩ => ⟨I4.kIn, ?_⟩
  rw [hks]
  exact run_fnN G hr hb pass0 I4 r2 rz l1 l2 q3
/-- o.m(e, .., k = v, ..), m a field -/
theorem xe_callF {pl : Sem Bool} (G : DfK X.prog X.w X.K X.mg X.base k fa ps n ks S) (c : Kls X.K C fl) (hr : Room k X.A)
    (h : XE X F δ μ o fun r μ1 => ∃ q fs, r = .r (.ref q) ∧ (q, Ob.ins C fs) ∈ μ1 ∧ fs.lookup m = some (.r (.ref fa)) ∧ XA X F δ μ1 (e :: es) fun rs μ2 => XKw X F δ μ2 kws fun zs μ3 => rs.length = n ∧ zs.length = ks.length ∧ ∃ μa μr, μ3.Perm (μa ++ μr) ∧ S (rs ++ zs) μa fun r μb => Q r (μb ++ μr)) (hf : m ∈ fl := by decide)
    (hall : (backToKw pos (keywordEach kws X.env)).all (·.1.isSome) = true := by rfl) (hks : (backToKw pos (keywordEach kws X.env)).filterMap (·.1) = ks := by rfl)
    (hst : starEach (e :: es) X.env = (false, eval e X.env) :: starEach es X.env := by rfl) (hpl : ((backTo pos (starEach (e :: es) X.env)).any (·.1) || (backToKw pos (keywordEach kws X.env)).any (·.1.isNone)) = false := by rfl)
    (ht : eval (.Call (.Attribute o m apos) (e :: es) kws pos) X.env = (do
      let ov ← eval o X.env
      standAt apos.atName
      let (f, first) ← holding [ov] (getMethod ov m pl)
      callWith pos f first (backTo pos (starEach (e :: es) X.env)) (backToKw pos (keywordEach kws X.env))) := by rfl) : XE X F δ μ (.Call (.Attribute o m apos) (e :: es) kws pos) Q := fun σ H lo ow fk => by
  obtain ⟨fd, G, b, kp⟩ := G.ex
  refine we_of (pe_callF pe_w c.cl (c.no m hf) G hr kp b pa_w pk_w hall hks hst hpl ht) (h.run lo ow fk fun v H1 r μ1 t1 lo1 r1 ow1 fk1 ⟨q, fs, e1, hi, hl, q1⟩ => ?_)
  subst e1
  cases r1
  obtain ⟨dx, fv, h1, h2, h3⟩ := ow1 _ hi
  obtain ⟨u, g1, g2⟩ := fl_get h2 h3 hl
  cases g2
  refine ⟨q, dx, fv, rfl, h1, g1, q1.run lo1 ow1 fk1 fun vs H2 rs μ2 t2 lo2 r2 ow2 fk2 q2 => q2.run lo2 ow2 fk2 fun zs H3 zr μ3 t3 _ r3 ow3 fk3 ⟨l1, l2, μa, μr, pm, q3⟩ => ?_⟩
  exact ⟨by rw [r2.length]; exact l1, by rw [r3.length]; exact l2, (sp_call (E := E0) ow3 fk3 pm ((r2.keep t3).append r3) q3).mono (Pe.back ((t1.trans t2).trans t3))⟩
/-! ### unpacking a list; try and finally where nothing is raised -/
/-- a, b = a list -/
theorem xg_lst {tgs : List Expr} {js : List Nat} {N : De → Mu → Prop} {kk : Nat} (q : Addr) (rs : List Rv) (hm : (q, Ob.lst rs) ∈ μ) (h : XGs X F δ μ tgs rs js N) (hc : X.calm = true := by rfl) (hn : (assignEach tgs X.env).length = rs.length := by rfl) (hst : (assignEach tgs X.env).findIdx? (·.1) = none := by rfl) :
    XG X F δ μ (.Tuple tgs kk pos) (.r (.ref q)) js N := fun σ H v lo ow fk hr pins s u I ru => by
  cases hr
  cases ru
  obtain ⟨vs, h1, h2⟩ := ow _ hm
  obtain ⟨its, rv, pl, hz⟩ := I.list (SqL.of h1)
  have hl : s.heap.IsList q its.toArray := by
    obtain ⟨ob, mm, e, c, d, z⟩ := pl
    exact ⟨ob, e, c, mm, z⟩
  have hn' : (assignEach tgs X.env).length = its.toArray.size := by rw [hn, ← h2.length, rv.length, List.size_toArray]
  rw [PyProof.Rows.assign_Tuple]
  refine wpAny_bind (wpAny_standAt ?_)
  unfold unpack
  rw [hn', hst]
  refine wpAny_bind (wpAny_holding (PySem.W.kun_itemsOf (I.ok.hd hc) hl fun h' hx => ?_))
  have I1 : L2.Inv X pins σ H { s with heap := h' } := I.kept (t' := s.toks) fun b u e => hx b u (Nat.ne_of_lt (Heap.lt_size e)) e
  exact h σ H vs lo ow fk h2 pins _ _ I1 (by simpa using rv)
/-- behind a try's body comes the suite -/
def BP (X : Cx) (pins : List (Addr × Obj)) (fin : List Stmt) (D : Ends) (f : Flow) (s : Shared) : Prop :=
  wpAny (model X.prog X.w) X.A (execs fin X.env) (fun g s' => match g with
    | .next => SP X pins D f s'
    | g => SP X pins D g s') X.xe s
/-- the body of try .. finally, where nothing is raised -/
def XB (X : Cx) (F : Fm) (δ : De) (μ : Mu) (body fin : List Stmt) (D : Dn) : Prop := ∀ σ H, Lo X.K H σ δ → Ow X.K H μ → Fk F H μ → ∀ (pins : List (Addr × Obj)) (s : Shared), L2.Inv X pins σ H s →
  wpAny (model X.prog X.w) X.A (execs body X.env) (BP X pins fin (D.ends X.K F H)) X.xe s
variable {body fin : List Stmt} {f0 : Stmt} {fs : List Stmt} {st : Stmt} {sts : List Stmt} {rp : Pos}
theorem BP.back {pins : List (Addr × Obj)} {K : PySem.W.Frag} {H H1 : Hp} {f : Flow} {s : Shared} (t : TK H H1) (h : BP X pins fin (D.ends K F H1) f s) : BP X pins fin (D.ends K F H) f s :=
  thn h fun g s' z => by
    have go : ∀ f s', SP X pins (D.ends K F H1) f s' → SP X pins (D.ends K F H) f s' := fun f s' y => sp_mono y (En.back t _) (fun _ _ q => q) (En.back t _) (En.back t _)
    cases g <;> exact go _ _ z
theorem xs_fin (h : XB X F δ μ body (f0 :: fs) D) (hx : X.xe = (fun _ _ => False) := by rfl) : XS X F δ μ (.Try body [] [] (f0 :: fs) pos) D := fun σ H lo ow fk pins s I => by
  have never : ∀ {E : Value → Shared → Prop} (u : Value) (s' : Shared), X.xe u s' → E u s' := fun u s' z => by rw [hx] at z; exact z.elim
  refine wpAny_Try_finally (wpAny_mono (h σ H lo ow fk pins s I) (fun f s1 z => ?_) never)
  have z' := wpAny_mono (E' := notedBy (model X.prog X.w) X.A X.env (cameBackBy (model X.prog X.w) X.A X.env X.xe)) z (fun _ _ q => q) never
  cases f with
  | next => exact wpAny_execs_nil z'
  | ret u => exact z'
  | brk => exact z'
  | cont => exact z'
theorem xb_cons (h : XS X F δ μ st ⟨fun δ1 μ1 => XB X F δ1 μ1 sts fin D, fun _ _ => False, fun _ _ => False, fun _ _ => False⟩) : XB X F δ μ (st :: sts) fin D := fun σ H lo ow fk pins s I => by
  refine wpAny_execs_cons (thn (h σ H lo ow fk pins s I) fun f s1 z => ?_)
  cases f with
  | next =>
    obtain ⟨σ', H', I', t, δ', μ', lo', ow', fk', q⟩ := z
    exact thn (q σ' H' lo' ow' fk' pins s1 I') fun f s2 y => BP.back t y
  | ret u =>
    obtain ⟨_, _, _, _, _, _, _, _, _, _, q⟩ := z
    exact q.elim
  | brk =>
    obtain ⟨_, _, _, _, _, _, _, _, _, q⟩ := z
    exact q.elim
  | cont =>
    obtain ⟨_, _, _, _, _, _, _, _, _, q⟩ := z
    exact q.elim
theorem xb_ret (h : XE X F δ μ e fun r μ1 => XSs X F δ μ1 fin { D with nx := fun _ μ2 => D.rt r μ2 }) : XB X F δ μ [.Return (some e) rp] fin D := fun σ H lo ow fk pins s I => by
  refine wpAny_execs_cons (wpAny_Return_some (thn (h σ H lo ow fk pins s I) fun u s1 ⟨v, H1, I1, rv, t, r, μ1, hr, ow1, fk1, q⟩ => ?_))
  have z := q σ H1 (lo.keep t) ow1 fk1 pins s1 I1
  refine thn z fun g s2 y => ?_
  cases g with
  | next =>
    obtain ⟨σ', H', I', t2, δ', μ', lo', ow', fk', q'⟩ := y
    exact ⟨v, σ', H', I', rv, r, μ', hr.keep t2, ow', fk', q'⟩
  | ret w => exact y
  | brk => obtain ⟨σ', H', I', q'⟩ := y; exact ⟨σ', H', I', En.back t _ _ _ q'⟩
  | cont => obtain ⟨σ', H', I', q'⟩ := y; exact ⟨σ', H', I', En.back t _ _ _ q'⟩
end
end Ds

/-! text Wk14 -/
/-! The walk: an answer heard. -/
namespace Wk
open PySem PySem.Spec PyProof.Rows L2 Ds Cw
theorem put_givenA (st : Str) (e : Cw.End) (a : Ask) : dput (Kv st e) "given" (.d (eAsk a)) = Kv st { e with given := some a } := by kernel_rfl
theorem put_plan (st : Str) (e : Cw.End) (p : Plan) (r : List Pair) : dmerge (Kv st e) (dmerge [] [("plan", .d (ePlan p)), ("refused", .d (eAsk r))]) = Kv st { e with plan := p, refused := r } := by kernel_rfl
theorem k_failed : KOk ("failed" : Str) := by unfold KOk; decide +kernel
theorem k_agreed : KOk ("agreed" : Str) := by unfold KOk; decide +kernel
theorem k_planw : KOk ("plan" : Str) := by unfold KOk; decide +kernel
theorem notN_oask' (o : Option Ask) : (!nonB (eOAsk o)) = o.isSome := by cases o <;> rfl
/-- how long what is refused can be -/
theorem refused_len {ws : List Wish} {pl : Plan} {w : Wd} {ps : Ask} {p : Plan} {r : List Pair} (h : Cw.behind ws pl w ps = some (.plan p r)) : r.length ≤ ws.length := by
  unfold Cw.behind at h
  dsimp only at h
  split at h
  · split at h <;> cases h
  · split at h
    · rename_i hr
      split at h
      · cases h
      · cases h
        have h1 := refusals_at hr.2
        unfold Cw.refusedBy
        rw [srt, List.length_mergeSort, List.length_map, ← List.length_map (f := (·.1)) (as := ps)]
        have h2 : ∀ k ∈ ps.map (·.1), k ∈ ws.map (·.kind) := fun k hk => by
          obtain ⟨q, hq, rfl⟩ := List.mem_map.mp hk
          obtain ⟨q2, hq2, e⟩ := List.mem_map.mp (h1.1 q hq)
          rw [← e]
          exact ask_keys q2 hq2
        have h3 : ∀ (l m : List Str), l.Nodup → (∀ k ∈ l, k ∈ m) → l.length ≤ m.length := fun l => by
          induction l with
          | nil => exact fun _ _ _ => Nat.zero_le _
          | cons x l ih =>
            intro m nd hs
            rw [List.nodup_cons] at nd
            have hx := hs x List.mem_cons_self
            have := ih (m.erase x) nd.2 fun k hk => (List.mem_erase_of_ne fun e : k = x => nd.1 (by rw [← e]; exact hk)).mpr (hs k (List.mem_cons_of_mem _ hk))
            rw [List.length_erase_of_mem hx] at this
            have := List.length_pos_of_mem hx
            rw [List.length_cons]
            omega
        have h4 := h3 _ _ h1.2 h2
        rw [List.length_map (f := fun w : Wish => w.kind)] at h4
        exact h4
    · cases h
section
variable {P : Program} {w : World} {K : PySem.W.Frag} {mg : Str → Option Value} {base : Heap} {f : Addr} {fd : FuncData} {k : Nat} {kws : List (Str × V)}
theorem sc_heard_answer : FnScope ["known", "letter", "tries", "who", "word", "mine", "yours", "number", "pairs", "comes", "first", "rest", "plan", "refused"] ["known", "letter", "tries"] (defScope (top 55)) := ⟨rfl, rfl, rfl, by decide +kernel, rfl, by decide +kernel, by decide +kernel⟩
theorem d_heard_answer (F : FnP K "heard_answer" (top 55) f fd) (N : En1 P w K mg base k) {fB : Addr} (DB : Df P w K mg base k fB ["wishes", "plan", "thing"] sBehind) (gB : mg "behind" = some (.ref fB)) (b_set : mg "set" = none) (b_sorted : mg "sorted" = none) (b_tuple : mg "tuple" = none) :
    Df P w K mg base (k + 1) f ["known", "letter", "tries"] sHeardAnswer := by
  have nd := sc_heard_answer.nd
  refine df_by F sc_heard_answer (fun _ _ _ _ _ _ us hl => match us, hl with | [_, _, _], _ => rfl) (fun args μ Q ⟨_, _, _, _, _, e, _⟩ => by rw [e]; rfl) fun cdv A outer s H E hr F args μ Q h => ?_
  obtain ⟨p, st, e, l, b, rfl, ok, hs, _, rfl, q⟩ := h
  obtain ⟨fS, gS, DS, _⟩ := N.shut
  obtain ⟨fW, gW, DW⟩ := N.askw
  refine xs_cons (xs_asg [3, 4, 5, 6, 7, 8] (xe_name (i := 1) rfl ?_))
  refine xg_tupD (xgs_cons (xg_name (i := 3) (xgs_cons (xg_name (i := 4) (xgs_cons (xg_name (i := 5) (xgs_cons (xg_name (i := 6) (xgs_cons (xg_name (i := 7) (xgs_cons (xg_name (i := 8) (xgs_nil ?_) nd)) nd)) nd)) nd)) nd)) nd))
  refine xs_cons (xs_if (XT.mono (Q := fun k μ1 => k = decide (l.number ≠ e.number ∨ e.given.isSome = true) ∧ μ1 = [(p, .dic (Kv st e))]) ?_ fun k μ1 ⟨ek, em⟩ => ?_))
  · refine xt_w (xw_or (xt_cm (xc_ne hr (xe_name (i := 7) rfl (xe_dget hr (xe_name (i := 0) rfl (xe_str ⟨p, _, _, _, rfl, List.mem_cons_self, rfl, kv_number st e, _, _, .d _, .d _, (sh_int _).ok (by decide), (sh_int _).ok (by decide), ?_⟩)))))))
    rw [eqv_int]
    refine ⟨fun h1 => ⟨(decide_eq_true (.inl (nd_t h1))).symm, rfl⟩, fun h1 => ?_⟩
    refine xw_or1 (xt_cm (xc_notN (xe_dget hr (xe_name (i := 0) rfl (xe_str ⟨p, _, _, _, rfl, List.mem_cons_self, rfl, kv_given st e, .inl ⟨_, rfl, ?_, rfl⟩⟩)))))
    rw [notN_oask']
    cases hg : e.given.isSome with
    | true => exact (decide_eq_true (.inr rfl)).symm
    | false => exact (decide_eq_false fun z => z.elim (fun y => y (nd_f h1)) fun y => by cases y).symm
  subst ek em
  refine ⟨fun h1 => ?_, fun h1 => xs_nil ?_⟩
  · have eh : heardAnswer e l = (e, []) := by
      unfold heardAnswer
      rw [if_pos (of_decide_eq_true h1)]
    rw [eh] at q
    exact xs_one (xs_ret (xe_lst (xa_nil ⟨by simp, fun q' => ⟨_, .refl _, q q' st hs⟩⟩)))
  have h1' := of_decide_eq_false h1
  have eh : heardAnswer e l = match Cw.behind e.wishes e.plan l.word l.pairs with
    | none => (e, [])
    | some (.failed _) => (shut e (Str.ofString "failed"), [bareL e .bye])
    | some (.agreed a) => ({ e with tries := 3, given := some a }, [])
    | some (.plan p r) => ({ e with tries := 3, plan := p, refused := joined (e.refused ++ r), number := e.number + 1 }, [askL { e with tries := 3, plan := p, refused := joined (e.refused ++ r), number := e.number + 1 }]) := by
    unfold heardAnswer
    exact if_neg h1'
  -- what it comes to
  refine xs_cons (xs_set (i := 9) (xe_call DB hr gB ?_) nd)
  refine xa_cons (xe_dget hr (xe_name (i := 0) rfl (xe_str ⟨p, _, _, _, rfl, List.mem_cons_self, rfl, kv_wishes st e, ?_⟩)))
  refine xa_cons (xe_dget hr (xe_name (i := 0) rfl (xe_str ⟨p, _, _, _, rfl, List.mem_cons_self, rfl, kv_plan st e, ?_⟩)))
  refine xa_cons (xe_tupD (xa_cons (xe_name (i := 4) rfl (xa_cons (xe_name (i := 8) rfl (xa_nil ⟨[.str (tWd l.word), eAsk l.pairs], rfl, by simp, xa_nil ?_⟩))))))
  refine ⟨[], [(p, .dic (Kv st e))], .refl _, e.wishes, e.plan, l.word, l.pairs, rfl, ok.ws, ok.keys, ok.nod, ok.left, ok.len, ok.prs, rfl, ?_⟩
  have hlen : ∀ p r, Cw.behind e.wishes e.plan l.word l.pairs = some (.plan p r) → r.length ≤ 30 := fun p r h => Nat.le_trans (refused_len h) ok.few
  generalize Cw.behind e.wishes e.plan l.word l.pairs = be at eh hlen
  rw [eh] at q
  clear eh
  refine xs_cons (xs_if (xt_cm (xc_isN (xe_name (i := 9) rfl (.inl ⟨_, rfl, ?_⟩)))))
  cases be with
  | none => exact ⟨fun _ => xs_one (xs_ret (xe_lst (xa_nil ⟨by simp, fun q' => ⟨_, .refl _, q q' st hs⟩⟩))), fun z => by cases z⟩
  | some be =>
    refine ⟨fun z => (by cases be <;> cases z), fun _ => xs_nil ?_⟩
    cases be with
    | failed kd =>
      refine xs_cons (xs_asg [10, 11] (xe_name (i := 9) rfl ?_))
      refine xg_starU 1 [.d (.str "failed"), .d (.str kd)] (show IsT (.d (eBeh (some (.failed kd)))) from trivial) (.tup [.str "failed", .str kd]) (by decide) (by simp) (by simp) fun D => ?_
      refine xgs_cons (xg_name (i := 10) (xgs_cons (xg_name (i := 11) (xgs_nil ?_) nd)) nd)
      refine xs_cons (xs_ifT (xt_cm (xc_eq hr (xe_name (i := 10) rfl (xe_str ⟨_, _, .d _, .d _, (sh_str k_failed).ok (by decide), (sh_str k_failed).ok (by decide), by rw [eqv_str]; exact decide_eq_true rfl, ?_⟩)))))
      refine xs_one (xs_ret (xe_callD DS hr gS (xa_cons (xe_name (i := 0) rfl (xa_cons (xe_str (xa_nil ?_)))))))
      refine ⟨[(p, .dic (Kv st e))], [(D, _)], .swap _ _ _, p, st, e, "failed", true, rfl, rfl, fun q' => ?_⟩
      exact ⟨_, .cons_cons _ (.cons_cons _ (List.nil_sublist _)), q q' "closed" ⟨k_closed, c_closed⟩⟩
    | agreed a =>
      refine xs_cons (xs_asg [10, 11] (xe_name (i := 9) rfl ?_))
      refine xg_starU 1 [.d (.str "agreed"), .d (eAsk a)] (show IsT (.d (eBeh (some (.agreed a)))) from trivial) (.tup [.str "agreed", eAsk a]) (by decide) (by simp) (by simp) fun D => ?_
      refine xgs_cons (xg_name (i := 10) (xgs_cons (xg_name (i := 11) (xgs_nil ?_) nd)) nd)
      refine xs_cons (xs_ifF (xt_cm (xc_eq hr (xe_name (i := 10) rfl (xe_str ⟨_, _, .d _, .d _, (sh_str k_agreed).ok (by decide), (sh_str k_failed).ok (by decide), by rw [eqv_str]; decide +kernel, xs_nil ?_⟩)))))
      refine xs_cons (xs_dput hr (xe_name (i := 2) rfl (xe_name (i := 0) rfl (xe_str ⟨p, _, _, _, rfl, rfl, by rw [kv_len]; decide, .there .here, ?_⟩))))
      rw [put_tries]
      refine xs_cons (xs_ifT (xt_cm (xc_eq hr (xe_name (i := 10) rfl (xe_str ⟨_, _, .d _, .d _, (sh_str k_agreed).ok (by decide), (sh_str k_agreed).ok (by decide), by rw [eqv_str]; exact decide_eq_true rfl, ?_⟩)))))
      refine xs_cons (xs_dput hr (xe_ix (xe_name (i := 11) rfl (xe_int ⟨_, 0, _, .lst List.mem_cons_self, rfl, rfl, xe_name (i := 0) rfl (xe_str ⟨p, _, _, _, rfl, rfl, by rw [kv_len]; decide, .there .here, ?_⟩)⟩))))
      rw [put_givenA]
      exact xs_one (xs_ret (xe_lst (xa_nil ⟨by simp, fun q' => ⟨_, .cons_cons _ (.cons _ (.refl _)), q q' st hs⟩⟩)))
    | plan pn r =>
      refine xs_cons (xs_asg [10, 11] (xe_name (i := 9) rfl ?_))
      refine xg_starU 1 [.d (.str "plan"), .d (ePlan pn), .d (eAsk r)] (show IsT (.d (eBeh (some (.plan pn r)))) from trivial) (.tup [.str "plan", ePlan pn, eAsk r]) (by decide) (by simp) (by simp) fun D => ?_
      refine xgs_cons (xg_name (i := 10) (xgs_cons (xg_name (i := 11) (xgs_nil ?_) nd)) nd)
      refine xs_cons (xs_ifF (xt_cm (xc_eq hr (xe_name (i := 10) rfl (xe_str ⟨_, _, .d _, .d _, (sh_str k_planw).ok (by decide), (sh_str k_failed).ok (by decide), by rw [eqv_str]; decide +kernel, xs_nil ?_⟩)))))
      refine xs_cons (xs_dput hr (xe_name (i := 2) rfl (xe_name (i := 0) rfl (xe_str ⟨p, _, _, _, rfl, rfl, by rw [kv_len]; decide, .there .here, ?_⟩))))
      rw [put_tries]
      refine xs_cons (xs_ifF (xt_cm (xc_eq hr (xe_name (i := 10) rfl (xe_str ⟨_, _, .d _, .d _, (sh_str k_planw).ok (by decide), (sh_str k_agreed).ok (by decide), by rw [eqv_str]; decide +kernel, xs_nil ?_⟩)))))
      refine xs_cons (xs_asg [12, 13] (xe_name (i := 11) rfl ?_))
      refine xg_lst D [.d (ePlan pn), .d (eAsk r)] List.mem_cons_self (xgs_cons (xg_name (i := 12) (xgs_cons (xg_name (i := 13) (xgs_nil ?_) nd)) nd))
      refine XSs.at_ (.cons _ (.refl _)) ?_
      refine xs_cons (xs_expr (XE.sub (xe_upd (xe_name (i := 0) rfl ⟨p, _, rfl, List.mem_cons_self, xa_cons ?_⟩))))
      refine xe_disp fun F' => ?_
      refine xe_str ⟨_, rfl, xe_name (i := 12) rfl (xe_str ⟨_, rfl, ?_⟩)⟩
      refine xe_tupleD b_tuple (xa_cons (Ss.xe_sortSet hr b_sorted b_set (XE.data (xe_cat ?_))))
      refine xe_dget hr (xe_name (i := 0) rfl (xe_str ⟨p, _, _, _, rfl, List.mem_cons_self, rfl, kv_refused _ _, xe_name (i := 13) rfl ?_⟩))
      have hr1 := ok.ref.1
      have hr2 := hlen pn r rfl
      refine ⟨_, _, trivial, .tup _, trivial, .tup _, ?_, (e.refused ++ r).map eP, ?_, e.refused ++ r, rfl, ?_, fun q2 => ?_⟩
      · simp only [List.length_map]
        show e.refused.length + r.length ≤ 100000
        omega
      · rw [List.map_append, List.map_append]
      · rw [List.length_append]
        omega
      have hp := put_plan st { e with tries := 3 } pn (joined (e.refused ++ r))
      unfold eAsk at hp
      refine xa_nil ⟨q2, (joined (e.refused ++ r)).map eP, rfl, by rw [List.map_map]; exact List.mem_cons_self, fun q3 => xa_nil ?_⟩
      refine ⟨q3, _, _, _, rfl, .inr (.cons_cons _ (.cons _ (.refl _))), ?_, .there (.there .here), ?_⟩
      · exact Nat.le_trans (Nat.add_le_add_left (dmerge_le _ _) _) (by rw [kv_len]; simp)
      rw [hp]
      refine ⟨[(p, _)], .cons _ (.cons _ (.refl _)), ?_⟩
      refine xs_cons (xs_daug hr (g := fun a b => a + b) in_add (fun _ _ _ => rfl) (xe_name (i := 0) rfl (xe_str ⟨p, _, _, _, rfl, rfl, List.mem_cons_self, kv_number _ _, by rw [kv_len]; decide, xe_int ⟨1, _, rfl, .here, ?_⟩⟩)))
      rw [put_number]
      refine xs_one (xs_ret (xe_lst (xa_cons (xe_call DW hr gW (xa_cons (xe_name (i := 0) rfl (xa_nil ?_)))))))
      refine ⟨_, [], by rw [List.append_nil], p, st, { e with tries := 3, plan := pn, refused := joined (e.refused ++ r), number := e.number + 1 }, rfl, ok.ws, rfl, xa_nil ⟨by simp, fun q' => ?_⟩⟩
      exact ⟨_, .refl _, q q' st hs⟩
end
end Wk

/-! text Wk15 -/
/-! The walk: deeds, what two ends stand at. -/
namespace Wk
open PySem PySem.Spec PyProof.Rows L2 Ds Cw
inductive Ow where
  | opn | cls | tck
  deriving DecidableEq
inductive Aw where
  | come | lost | twice
  deriving DecidableEq
inductive Deed where
  | own (w : Ow) (i : Bool)
  | air (w : Aw) (k : Nat)
def tOw : Ow → Str
  | .opn => "open"
  | .cls => "close"
  | .tck => "tick"
def tAw : Aw → Str
  | .come => "come"
  | .lost => "lost"
  | .twice => "twice"
def eDeed : Deed → PyData
  | .own w i => .tuple [.str (tOw w), .str (tNm i)]
  | .air w k => .tuple [.str (tAw w), .int k]
theorem ok_ow (w : Ow) : KOk (tOw w) := by cases w <;> (unfold KOk; decide +kernel)
theorem ok_aw (w : Aw) : KOk (tAw w) := by cases w <;> (unfold KOk; decide +kernel)
/-- the names of both ends -/
structure Gn (K : PySem.W.Frag) (mg : Str → Option Value) : Prop where
  names : ∃ a, mg "NAMES" = some (.ref a) ∧ (∀ H, Rk K H (.ref a) (.d (.tuple [.str "a", .str "b"]))) ∧ (∀ H, tyV K "tuple" (.ref a) H) ∧ (∀ H, SqT K H a (([tNm false, tNm true] : List Str).map V.str))
def sIsDeed : Sc := fun args μ Q => ∃ d : Deed, args = [.d (eDeed d)] ∧ μ = [] ∧ Q (.d (.bool true)) []
def airWords : List PyData := [.str "come", .str "lost", .str "twice", .str "back"]
def ownWords : List PyData := [.str "open", .str "close", .str "tick"]
theorem aw_in (w : Aw) : (airWords.any fun z => PyData.eqv z (.str (tAw w))) = true := by cases w <;> simp [airWords, eqv_str, tAw]
theorem ow_in (w : Ow) : (ownWords.any fun z => PyData.eqv z (.str (tOw w))) = true := by cases w <;> simp [ownWords, eqv_str, tOw]
theorem ow_notin (w : Ow) : (airWords.any fun z => PyData.eqv z (.str (tOw w))) = false := by cases w <;> (simp only [airWords, List.any_cons, List.any_nil, eqv_str]; decide +kernel)
theorem nm_in (i : Bool) : ([PyData.str "a", PyData.str "b"].any fun z => PyData.eqv z (.str (tNm i))) = true := by cases i <;> (simp only [List.any_cons, List.any_nil, eqv_str]; decide +kernel)
theorem sh_words {l : List Str} (h : ∀ x ∈ l, KOk x) : Sh 1 (.tuple (l.map .str)) := sh_map fun x hx => sh_str (h x hx)
theorem sh_air : SeqAt.shaped (.tuple airWords) = true := by decide +kernel
theorem sh_own : SeqAt.shaped (.tuple ownWords) = true := by decide +kernel
theorem sh_two : SeqAt.shaped (.tuple [.str "a", .str "b"]) = true := by decide +kernel
theorem XG.mono2 {X : Cx} {F : Fm} {δ : De} {μ : Mu} {tg : Expr} {r : Rv} {js : List Nat} {N N' : De → Mu → Prop} (h : XG X F δ μ tg r js N) (k : ∀ δ' μ', N δ' μ' → N' δ' μ') : XG X F δ μ tg r js N' := fun σ H v lo ow fk hr =>
  wg_mono (h σ H v lo ow fk hr) fun σ' H' ⟨h1, h2, t, δ', μ', l, o, f, q⟩ => ⟨h1, h2, t, δ', μ', l, o, f, k _ _ q⟩
theorem ne_closed' (e : Cw.End) : decide (tStand e = "closed") = e.closed := stand_closed e
/-- what two ends stand at -/
def eStand (x y : Cw.End) : PyData := if openWith x y then .tuple [.str "open", eOAsk x.given, eOAsk y.given] else if x.closed && y.closed then .tuple [.str "closed"] else .tuple [.str "else"]
def sStandOf : Sc := fun args μ Q => ∃ (r : Rv) (x y : Cw.End), args = [r] ∧ (r = .d (.tuple [eEnd x, eEnd y]) ∧ μ = [] ∨ ∃ q, r = .r (.ref q) ∧ μ = [(q, .lst [.d (eEnd x), .d (eEnd y)])]) ∧ Q (.d (eStand x y)) μ
section
variable {P : Program} {w : World} {K : PySem.W.Frag} {mg : Str → Option Value} {base : Heap} {f : Addr} {fd : FuncData} {k : Nat} {kws : List (Str × V)}
theorem sc_is_deed : FnScope ["thing", "word", "what", "rest"] ["thing"] (defScope (top 68)) := ⟨rfl, rfl, rfl, by decide +kernel, rfl, by decide +kernel, by decide +kernel⟩
theorem d_is_deed (g : Gm mg) (gn : Gn K mg) (F : FnP K "is_deed" (top 68) f fd) {fP : Addr} (DP : Df P w K mg base k fP ["thing"] sIsPlace) (gP : mg "is_place" = some (.ref fP)) : Df P w K mg base (k + 1) f ["thing"] sIsDeed := by
  have nd := sc_is_deed.nd
  refine df_by F sc_is_deed (fun _ _ _ _ _ _ us hl => match us, hl with | [_], _ => rfl) (fun args μ Q ⟨_, e, _⟩ => by rw [e]; rfl) fun cdv A outer s H E hr F args μ Q h => ?_
  obtain ⟨d, rfl, rfl, q⟩ := h
  obtain ⟨aN, gN, rN, _⟩ := gn.names
  cases d with
  | own wd i =>
    refine xs_cons (xs_ifF (xt_w (xw_orF (xt_not (xt_val (xe_isi g.b_isinstance g.b_tuple (T := "tuple") (by decide +kernel) (xe_name (i := 0) rfl ⟨"tuple", true, rfl, by decide, true, rfl, rfl, ?_⟩)))))))
    refine xw_orF (xt_cm (xc_lt (xe_len g.b_len (xa_cons (xe_name (i := 0) rfl (xa_nil (.inl ⟨_, _, rfl, .tup _, xe_int ⟨_, _, rfl, rfl, rfl, ?_⟩⟩)))))))
    refine xw_or1 (xt_not (xt_val (xe_isi g.b_isinstance g.b_str (T := "str") (by decide +kernel) (xe_ix (xe_name (i := 0) rfl (xe_int ⟨_, 0, .d (.str (tOw wd)), .tup _, rfl, rfl, "str", true, rfl, by decide, true, rfl, rfl, xs_nil ?_⟩))))))
    refine xs_cons (xs_asg [1, 2, 3] (xe_name (i := 0) rfl ?_))
    refine xg_starU 2 [.d (.str (tOw wd)), .d (.str (tNm i))] (show IsT (.d (eDeed (.own wd i))) from trivial) (.tup [.str (tOw wd), .str (tNm i)]) (by decide) (by simp) (by simp) fun D => ?_
    refine xgs_cons (xg_name (i := 1) (xgs_cons (xg_name (i := 2) (xgs_cons (xg_name (i := 3) (xgs_nil ?_) nd)) nd)) nd)
    refine xs_cons (xs_ifF (xt_cm (xc_in hr (xe_name (i := 1) rfl (xe_tupD (xa_cons (xe_str (xa_cons (xe_str (xa_cons (xe_str (xa_cons (xe_str (xa_nil ⟨airWords, rfl, by decide, _, _, .d _, .tup _, (sh_str (ok_ow wd)).ok (by decide), sh_air, ow_notin wd, xs_nil ?_⟩))))))))))))))
    refine xs_cons (xs_ifF (xt_w (xw_orF (xt_not (xt_val (xe_isi g.b_isinstance g.b_str (T := "str") (by decide +kernel) (xe_name (i := 2) rfl ⟨"str", true, rfl, by decide, true, rfl, rfl, ?_⟩)))))))
    refine xw_or1 (xt_cm (xc_notin hr (xe_name (i := 2) rfl (xe_glob (v := .ref aN) rfl gN rfl rN ⟨_, _, .d _, .tup _, (sh_str (ok_nm i)).ok (by decide), sh_two, by rw [nm_in]; rfl, xs_nil ?_⟩))))
    refine xs_cons (xs_ifF (xt_cm (xc_eq hr (xe_name (i := 1) rfl (xe_str ⟨_, _, .d _, .d _, (sh_str (ok_ow wd)).ok (by decide), (sh_str (by decide +kernel : PyData.strOk "wish" = true)).ok (by decide), by rw [eqv_str]; cases wd <;> decide +kernel, xs_nil ?_⟩)))))
    refine xs_one (xs_ret (xe_andT (xe_cm (xc_in hr (xe_name (i := 1) rfl (xe_tupD (xa_cons (xe_str (xa_cons (xe_str (xa_cons (xe_str (xa_nil ⟨ownWords, rfl, by decide, _, _, .d _, .tup _, (sh_str (ok_ow wd)).ok (by decide), sh_own, by rw [ow_in], ?_⟩)))))))))))))
    refine xe_one (xe_cm (xc_eq hr (xe_name (i := 3) rfl (xe_lst (xa_nil ⟨by simp, fun q2 => ⟨.list [], .list [], .lst (List.mem_cons_of_mem _ List.mem_cons_self), .lst List.mem_cons_self, rfl, rfl, ?_⟩⟩)))))
    rw [eqv_list0]
    exact ⟨_, List.nil_sublist _, q⟩
  | air wd n =>
    refine xs_cons (xs_ifF (xt_w (xw_orF (xt_not (xt_val (xe_isi g.b_isinstance g.b_tuple (T := "tuple") (by decide +kernel) (xe_name (i := 0) rfl ⟨"tuple", true, rfl, by decide, true, rfl, rfl, ?_⟩)))))))
    refine xw_orF (xt_cm (xc_lt (xe_len g.b_len (xa_cons (xe_name (i := 0) rfl (xa_nil (.inl ⟨_, _, rfl, .tup _, xe_int ⟨_, _, rfl, rfl, rfl, ?_⟩⟩)))))))
    refine xw_or1 (xt_not (xt_val (xe_isi g.b_isinstance g.b_str (T := "str") (by decide +kernel) (xe_ix (xe_name (i := 0) rfl (xe_int ⟨_, 0, .d (.str (tAw wd)), .tup _, rfl, rfl, "str", true, rfl, by decide, true, rfl, rfl, xs_nil ?_⟩))))))
    refine xs_cons (xs_asg [1, 2, 3] (xe_name (i := 0) rfl ?_))
    refine xg_starU 2 [.d (.str (tAw wd)), .d (.int n)] (show IsT (.d (eDeed (.air wd n))) from trivial) (.tup [.str (tAw wd), .int n]) (by decide) (by simp) (by simp) fun D => ?_
    refine xgs_cons (xg_name (i := 1) (xgs_cons (xg_name (i := 2) (xgs_cons (xg_name (i := 3) (xgs_nil ?_) nd)) nd)) nd)
    refine xs_cons (xs_ifT (xt_cm (xc_in hr (xe_name (i := 1) rfl (xe_tupD (xa_cons (xe_str (xa_cons (xe_str (xa_cons (xe_str (xa_cons (xe_str (xa_nil ⟨airWords, rfl, by decide, _, _, .d _, .tup _, (sh_str (ok_aw wd)).ok (by decide), sh_air, aw_in wd, ?_⟩))))))))))))))
    refine xs_one (xs_ret (xe_andT (xe_cm (xc_eq hr (xe_name (i := 3) rfl (xe_lst (xa_nil ⟨by simp, fun q2 => ⟨.list [], .list [], .lst (List.mem_cons_of_mem _ List.mem_cons_self), .lst List.mem_cons_self, rfl, rfl, by rw [eqv_list0]; rfl, ?_⟩⟩)))))))
    refine xe_one (xe_call DP hr gP (xa_cons (xe_name (i := 2) rfl (xa_nil ⟨[], _, .refl _, n, rfl, by omega, rfl, ?_⟩))))
    exact ⟨_, List.nil_sublist _, q⟩
theorem sc_stand_of : FnScope ["ends", "one", "other"] ["ends"] (defScope (top 70)) := ⟨rfl, rfl, rfl, by decide +kernel, rfl, by decide +kernel, by decide +kernel⟩
theorem d_stand_of (F : FnP K "stand_of" (top 70) f fd) {fO fG fS : Addr} (DO : Df P w K mg base k fO ["one", "other"] sOpenWith) (gO : mg "stands_open_with" = some (.ref fO)) (DG : Df P w K mg base k fG ["end"] sGivenTo) (gG : mg "given_to" = some (.ref fG)) (DS : Df P w K mg base k fS ["end"] sStandWord) (gS : mg "stand_word" = some (.ref fS)) :
    Df P w K mg base (k + 1) f ["ends"] sStandOf := by
  have nd := sc_stand_of.nd
  refine df_by F sc_stand_of (fun _ _ _ _ _ _ us hl => match us, hl with | [_], _ => rfl) (fun args μ Q ⟨_, _, _, e, _⟩ => by rw [e]; rfl) fun cdv A outer s H E hr F args μ Q h => ?_
  obtain ⟨r, x, y, rfl, hr0, q⟩ := h
  refine xs_cons (xs_asg [1, 2] (xe_name (i := 0) rfl ?_))
  refine XG.mono2 (N := fun δ' μ' => δ' = [some r, some (.d (eEnd x)), some (.d (eEnd y))] ∧ μ' = μ) ?_ ?_
  · rcases hr0 with ⟨rfl, rfl⟩ | ⟨q0, rfl, rfl⟩
    · exact xg_tupD (xgs_cons (xg_name (i := 1) (xgs_cons (xg_name (i := 2) (xgs_nil ⟨rfl, rfl⟩) nd)) nd))
    · exact xg_lst q0 [.d (eEnd x), .d (eEnd y)] List.mem_cons_self (xgs_cons (xg_name (i := 1) (xgs_cons (xg_name (i := 2) (xgs_nil ⟨rfl, rfl⟩) nd)) nd))
  rintro δ' μ' ⟨rfl, rfl⟩
  refine xs_cons (xs_if (xt_val (xe_call DO hr gO (xa_cons (xe_name (i := 1) rfl (xa_cons (xe_name (i := 2) rfl (xa_nil ⟨[], _, .refl _, x, y, rfl, rfl, openWith x y, rfl, ?_⟩))))))))
  unfold eStand at q
  refine ⟨fun h1 => ?_, fun h1 => xs_nil ?_⟩
  · rw [if_pos h1] at q
    refine xs_one (xs_ret (xe_tupD (xa_cons (xe_str (xa_cons (xe_call DG hr gG (xa_cons (xe_name (i := 1) rfl (xa_nil ⟨[], _, .refl _, x, rfl, rfl, ?_⟩)))))))))
    refine xa_cons (xe_call DG hr gG (xa_cons (xe_name (i := 2) rfl (xa_nil ⟨[], _, .refl _, y, rfl, rfl, ?_⟩))))
    exact xa_nil ⟨[.str "open", eOAsk x.given, eOAsk y.given], rfl, by simp, _, .refl _, q⟩
  · rw [if_neg (by rw [h1]; exact Bool.false_ne_true)] at q
    refine xs_one (xs_ret (xe_if (XT.mono (Q := fun k μ1 => k = (x.closed && y.closed) ∧ μ1 = μ') ?_ fun k μ1 ⟨ek, em⟩ => ?_)))
    · refine xt_eq2 hr (xe_call DS hr gS (xa_cons (xe_name (i := 1) rfl (xa_nil ⟨[], _, .refl _, x, rfl, rfl, ?_⟩))))
      refine xe_call DS hr gS (xa_cons (xe_name (i := 2) rfl (xa_nil ⟨[], _, .refl _, y, rfl, rfl, ?_⟩)))
      refine ⟨_, _, .d _, .d _, (sh_str (ok_stand x)).ok (by decide), (sh_str (ok_stand y)).ok (by decide), fun h2 => ?_, fun h2 => ?_⟩
      · refine xe_str ⟨_, .d _, .d _, (sh_str k_closed).ok (by decide), ?_, rfl⟩
        rw [eqv_str] at h2 ⊢
        have e := of_decide_eq_true h2
        rw [ne_closed' y, ← ne_closed' x, e, ne_closed' y]
        cases y.closed <;> rfl
      · rw [eqv_str] at h2
        refine ⟨?_, rfl⟩
        cases hx : x.closed <;> cases hy : y.closed
        · rfl
        · rfl
        · rfl
        · exfalso
          refine of_decide_eq_false h2 ?_
          unfold tStand
          rw [hx, hy, if_pos rfl, if_pos rfl]
    · subst ek em
      refine ⟨fun h2 => ?_, fun h2 => ?_⟩
      · rw [if_pos h2] at q
        exact xe_tupD (xa_cons (xe_str (xa_nil ⟨[.str "closed"], rfl, by simp, _, .refl _, q⟩)))
      · rw [if_neg (by rw [h2]; exact Bool.false_ne_true)] at q
        exact xe_tupD (xa_cons (xe_str (xa_nil ⟨[.str "else"], rfl, by simp, _, .refl _, q⟩)))
end
end Wk

/-! text Wk16 -/
/-! The walk: Setting: made, put, hear. -/
namespace Wk
open PySem PySem.Spec PyProof.Rows L2 Ds Cw
def clB : Stmt → List Stmt
  | .ClassDef _ _ _ b _ _ _ _ _ _ _ => b
  | _ => []
/-- the j-th def of the class at i -/
def cm (i j : Nat) : Stmt := (clB (top i)).getD j (.Pass ⟨0, 0, 0, 0⟩)
abbrev FnM (K : PySem.W.Frag) (x qual : Str) (st : Stmt) (f : Addr) (fd : FuncData) : Prop := FunD K x qual (defArgs st) (defBody st) (defScope st) [] [] f fd
def eBook (b : Book) : PyData := .tuple [eWishes b.wishes, ePlan b.bounds]
def eBooks (bk : Bool → Book) : PyData := .tuple [eBook (bk false), eBook (bk true)]
def eAir (l : Letter) : PyData := .tuple [.str (tNm (!l.who)), eLetter l]
def bI (i : Bool) : Nat := if i then 1 else 0
def fSet (bk : Bool → Book) (fH pb pl : Addr) : List (Str × Rv) := [("books", .d (eBooks bk)), ("many", .d (.int 3)), ("both", .r (.ref pb)), ("letters", .r (.ref pl)), ("hears", .r (.ref fH))]
def oBoth (s : WS) : Ob := .lst [.d (eEnd (s.e false)), .d (eEnd (s.e true))]
def oAir (s : WS) : Ob := .lst (s.air.map fun l => .d (eAir l))
def SetMu (C p pb pl fH : Addr) (bk : Bool → Book) (s : WS) : Mu := [(pl, oAir s), (pb, oBoth s), (p, .ins C (fSet bk fH pb pl))]
def setFl : List Str := ["books", "many", "both", "letters", "hears"]
theorem fp1 (a b : Rv) : fput "many" b ([("books", a)] : List (Str × Rv)) = ([("books", a), ("many", b)] : List (Str × Rv)) := by kernel_rfl
theorem fp2 (a b c : Rv) : fput "both" c ([("books", a), ("many", b)] : List (Str × Rv)) = ([("books", a), ("many", b), ("both", c)] : List (Str × Rv)) := by kernel_rfl
theorem fp3 (a b c d : Rv) : fput "letters" d ([("books", a), ("many", b), ("both", c)] : List (Str × Rv)) = ([("books", a), ("many", b), ("both", c), ("letters", d)] : List (Str × Rv)) := by kernel_rfl
theorem fp4 (a b c d e : Rv) : fput "hears" e ([("books", a), ("many", b), ("both", c), ("letters", d)] : List (Str × Rv)) = ([("books", a), ("many", b), ("both", c), ("letters", d), ("hears", e)] : List (Str × Rv)) := by kernel_rfl
section
variable (bk : Bool → Book) (fH pb pl : Addr)
theorem fs_books : (fSet bk fH pb pl).lookup ("books" : Str) = some (.d (eBooks bk) : Rv) := by kernel_rfl
theorem fs_many : (fSet bk fH pb pl).lookup ("many" : Str) = some (.d (.int 3) : Rv) := by kernel_rfl
theorem fs_both : (fSet bk fH pb pl).lookup ("both" : Str) = some (.r (.ref pb) : Rv) := by kernel_rfl
theorem fs_letters : (fSet bk fH pb pl).lookup ("letters" : Str) = some (.r (.ref pl) : Rv) := by kernel_rfl
theorem fs_hears : (fSet bk fH pb pl).lookup ("hears" : Str) = some (.r (.ref fH) : Rv) := by kernel_rfl
theorem fs_put : (fSet bk fH pb pl).lookup ("put" : Str) = none := by kernel_rfl
theorem fs_hear : (fSet bk fH pb pl).lookup ("hear" : Str) = none := by kernel_rfl
theorem fs_of : (fSet bk fH pb pl).lookup ("of_itself" : Str) = none := by kernel_rfl
theorem fs_do : (fSet bk fH pb pl).lookup ("do" : Str) = none := by kernel_rfl
theorem fs_final : (fSet bk fH pb pl).lookup ("is_final" : Str) = none := by kernel_rfl
theorem fs_next : (fSet bk fH pb pl).lookup ("next_deed" : Str) = none := by kernel_rfl
end
def sSetInit (C fH : Addr) : Sc := fun args μ Q => ∃ (p : Addr) (bk : Bool → Book) (s : WS), args = [.r (.ref p), .d (eBooks bk), .d (.int 3), .d (.tuple [eEnd (s.e false), eEnd (s.e true)]), .d (.tuple (s.air.map eAir))] ∧ μ = [(p, .ins C [])] ∧ ∀ pb pl, Q (.d .none) (SetMu C p pb pl fH bk s)
def sPut (C fH : Addr) : Sc := fun args μ Q => ∃ (p pb pl q : Addr) (bk : Bool → Book) (s : WS) (i : Bool) (e : Cw.End) (ls : List Letter), args = [.r (.ref p), .d (.int (bI i)), .t [.d (eEnd e), .r (.ref q)]] ∧ s.air.length ≤ 50000 ∧ ls.length ≤ 50000 ∧ (∀ l ∈ ls, l.who = i) ∧
  μ = (q, .lst (ls.map fun l => .d (eLetter l))) :: SetMu C p pb pl fH bk s ∧ Q (.d .none) (SetMu C p pb pl fH bk (Cw.put s i (e, ls) s.air))
/-- what the walk asks of a wire as it stands -/
structure Fine (bk : Bool → Book) (s : WS) : Prop where
  ws : ∀ i, WsOk (s.e i).wishes
  nm : ∀ i, (s.e i).name = i
  gv : ∀ i, (∀ a, (s.e i).given = some a → ∀ z ∈ a, KOk z.1) ∧ ∀ a, (s.e i).took = some a → ∀ z ∈ a, KOk z.1
  lt : ∀ l ∈ s.air, ∀ z ∈ l.pairs, KOk z.1
  out : ∀ i, (∀ l ∈ (opened (s.e i)).2 ++ (closing (s.e i)).2 ++ (ticked (s.e i)).2, l.who = i)
  hok : ∀ l ∈ s.air, ((s.e (!l.who)).closed = false → HOk (learn (s.e (!l.who)) l).1 l (bk !l.who).bounds) ∧ ∀ m ∈ (Cw.heard (s.e (!l.who)) l (bk (!l.who)).bounds).2, m.who = !l.who
def sHear (C fH : Addr) : Sc := fun args μ Q => ∃ (p pb pl : Addr) (bk : Bool → Book) (s : WS) (l : Letter), args = [.r (.ref p), .d (.str (tNm (!l.who))), .d (eLetter l)] ∧ Fine bk ⟨s.e, [l]⟩ ∧ s.air.length ≤ 50000 ∧
  μ = SetMu C p pb pl fH bk s ∧ Q (.d .none) (SetMu C p pb pl fH bk (comes bk s l s.air))
section
variable {P : Program} {w : World} {K : PySem.W.Frag} {mg : Str → Option Value} {base : Heap} {f C fH : Addr} {fd : FuncData} {k : Nat} {kws : List (Str × V)}
theorem sc_set_init : FnScope ["self", "books", "many", "ends", "letters"] ["self", "books", "many", "ends", "letters"] (defScope (cm 73 0)) := ⟨rfl, rfl, rfl, by decide +kernel, rfl, by decide +kernel, by decide +kernel⟩
theorem d_set_init (kl : Kls K C setFl) (b_list : mg "list" = none) (gH : mg "heard" = some (.ref fH)) (F : FnM K "__init__" "Setting.__init__" (cm 73 0) f fd) : Df P w K mg base (k + 1) f ["self", "books", "many", "ends", "letters"] (sSetInit C fH) := by
  have nd := sc_set_init.nd
  refine df_by F sc_set_init (fun _ _ _ _ _ _ us hl => match us, hl with | [_, _, _, _, _], _ => rfl) (fun args μ Q ⟨_, _, _, e, _⟩ => by rw [e]; rfl) fun cdv A outer s H E hr F args μ Q h => ?_
  obtain ⟨p, bk, s', rfl, rfl, q⟩ := h
  refine xs_cons (xs_fld kl (xe_name (i := 1) rfl (xe_name (i := 0) rfl ⟨p, [], _, rfl, by simp, .here, ?_⟩)))
  refine xs_cons (xs_fld kl (xe_name (i := 2) rfl (xe_name (i := 0) rfl ⟨p, [("books", .d (eBooks bk))], _, rfl, by simp, .here, ?_⟩)))
  rw [fp1]
  refine xs_cons (xs_fld kl (xe_listOf b_list (xa_cons (xe_name (i := 3) rfl (xa_nil ⟨_, _, rfl, .tup _, fun pb => xe_name (i := 0) rfl ⟨p, _, _, rfl, by simp, .there .here, ?_⟩⟩)))))
  rw [fp2]
  refine xs_cons (xs_fld kl (xe_listOf b_list (xa_cons (xe_name (i := 4) rfl (xa_nil ⟨_, _, rfl, .tup _, fun pl => xe_name (i := 0) rfl ⟨p, _, _, rfl, by simp, .there (.there .here), ?_⟩⟩)))))
  rw [fp3]
  refine xs_one (xs_fld kl (xe_glob (v := .ref fH) rfl gH rfl (fun H => .r _) (xe_name (i := 0) rfl ⟨p, _, _, rfl, by simp, .there (.there .here), ?_⟩)))
  rw [fp4]
  refine ⟨_, .refl _, ?_⟩
  have := q pb pl
  unfold SetMu oAir oBoth fSet at this
  rw [List.map_map]
  exact this
theorem sc_put : FnScope ["self", "at", "brought", "end", "letters", "letter"] ["self", "at", "brought"] (defScope (cm 73 1)) := ⟨rfl, rfl, rfl, by decide +kernel, rfl, by decide +kernel, by decide +kernel⟩
theorem d_put (kl : Kls K C setFl) (gn : Gn K mg) (F : FnM K "put" "Setting.put" (cm 73 1) f fd) : Df P w K mg base (k + 1) f ["self", "at", "brought"] (sPut C fH) := by
  have nd := sc_put.nd
  refine df_by F sc_put (fun _ _ _ _ _ _ us hl => match us, hl with | [_, _, _], _ => rfl) (fun args μ Q ⟨_, _, _, _, _, _, _, _, _, e, _⟩ => by rw [e]; rfl) fun cdv A outer s H E hr F args μ Q h => ?_
  obtain ⟨p, pb, pl, q0, bk, s', i, e, ls, rfl, h1, h2, hw, rfl, q⟩ := h
  obtain ⟨aN, gN, rN, tN, sN⟩ := gn.names
  unfold SetMu at q ⊢
  refine xs_cons (xs_asg [3, 4] (xe_name (i := 2) rfl ?_))
  refine xg_tup (xgs_cons (xg_name (i := 3) (xgs_cons (xg_name (i := 4) (xgs_nil ?_) nd)) nd))
  have hix : ixN 2 (bI i : Int) = some (bI i) := by cases i <;> decide
  have hset : ([.d (eEnd (s'.e false)), .d (eEnd (s'.e true))] : List Rv).set (bI i) (.d (eEnd e)) = [.d (eEnd ((Cw.put s' i (e, ls) s'.air).e false)), .d (eEnd ((Cw.put s' i (e, ls) s'.air).e true))] := by cases i <;> rfl
  refine xs_cons (xs_asg [] (xe_name (i := 3) rfl (xg_lix (xe_fld kl (xe_name (i := 0) rfl ⟨p, _, _, rfl, .tail _ (.tail _ (.tail _ (.head _))), fs_both bk fH pb pl, ?_⟩)))))
  refine xe_name (i := 1) rfl ⟨pb, [.d (eEnd (s'.e false)), .d (eEnd (s'.e true))], bI i, bI i, _, rfl, rfl, hix, .there (.there .here), ?_⟩
  rw [hset]
  refine xs_one (xs_expr (xe_extend (xe_fld kl (xe_name (i := 0) rfl ⟨p, _, _, rfl, .tail _ (.tail _ (.tail _ (.head _))), fs_letters bk fH pb pl, pl, _, rfl, .tail _ (.head _), ?_⟩))))
  refine xe_map ls (fun l => .d (eLetter l)) (fun l => .d (eAir l)) nd (own := [("letter", 5)]) (by kernel_rfl) ?_
  refine xi_lst (xe_name (i := 4) rfl ⟨q0, _, rfl, .head _, rfl, .head _, by omega, fun l hl F' s H C cl fp => ?_, fun p2 => ?_⟩)
  · refine xg_name (i := 5) (fun s H C cl fp => ?_) nd
    refine xe_tupD (xa_cons (xe_ix (xe_glob (v := .ref aN) rfl gN rfl rN (xe_sub (xe_int (xe_name (i := 1) rfl ⟨1, (bI i : Int), rfl, rfl, ?_⟩))))))
    refine ⟨_, 1 - (bI i : Int), .d (.str (tNm (!i))), .tup _, rfl, by cases i <;> rfl, ?_⟩
    refine xa_cons (xe_name (i := 5) rfl (xa_nil ⟨[.str (tNm (!i)), eLetter l], rfl, by simp, ?_, .refl _⟩))
    show _ = Rv.d (.tuple [.str (tNm (!l.who)), eLetter l])
    rw [hw l hl]
  · refine ⟨p2, _, _, _, rfl, .head _, ?_, .there (.there .here), ?_⟩
    · rw [List.length_map, List.length_map]
      omega
    · refine ⟨_, .cons _ (.cons _ (.refl _)), ?_⟩
      have e2 : oAir (Cw.put s' i (e, ls) s'.air) = .lst (s'.air.map (fun l => Rv.d (eAir l)) ++ ls.map fun l => .d (eAir l)) := by
        unfold oAir Cw.put
        rw [List.map_append]
      rw [e2] at q
      exact q
end
end Wk

/-! text Wk17 -/
/-! The walk: Setting: hear, of_itself. -/
namespace Wk
open PySem PySem.Spec PyProof.Rows L2 Ds Cw
def ne (s : WS) : List Rv := [.d (eEnd (s.e false)), .d (eEnd (s.e true))]
theorem at_both (s : WS) (i : Bool) : atI (ne s) (bI i : Int) = some (.d (eEnd (s.e i))) := by cases i <;> rfl
theorem at_books (bk : Bool → Book) (i : Bool) : atI ([eBook (bk false), eBook (bk true)].map Rv.d) (bI i : Int) = some (.d (eBook (bk i))) := by cases i <;> rfl
theorem nm_at (i : Bool) : ([tNm false, tNm true] : List Str)[bI i]? = some (tNm i) := by cases i <;> rfl
theorem nm_first (i : Bool) : ∀ m, m < bI i → ([tNm false, tNm true] : List Str)[m]? ≠ some (tNm i) := by
  cases i
  · intro m h
    exact absurd h (Nat.not_lt_zero _)
  · intro m h
    have : m = 0 := by
      have : bI true = 1 := rfl
      omega
    subst this
    decide +kernel
def sOfItself (C fH : Addr) : Sc := fun args μ Q => ∃ (p pb pl : Addr) (bk : Bool → Book) (s s' : WS) (o : Ow) (i : Bool), args = [.r (.ref p), .d (eDeed (.own o i))] ∧ Fine bk s ∧ s.air.length ≤ 50000 ∧
  (match o with
    | .opn => (s.e i).closed = true ∧ s' = opens s i
    | .cls => (s.e i).closed = false ∧ s' = closes s i
    | .tck => s' = ticks s i) ∧
  μ = SetMu C p pb pl fH bk s ∧ Q (.d .none) (SetMu C p pb pl fH bk s')
theorem ticked_len (e : Cw.End) : (ticked e).2.length ≤ 1 := by
  unfold ticked
  split
  · exact Nat.zero_le 1
  · split <;> exact Nat.le_refl 1
section
variable {P : Program} {w : World} {K : PySem.W.Frag} {mg : Str → Option Value} {base : Heap} {f C fH : Addr} {fd : FuncData} {k : Nat} {kws : List (Str × V)}
theorem sc_hear : FnScope ["self", "who", "letter", "at"] ["self", "who", "letter"] (defScope (cm 73 2)) := ⟨rfl, rfl, rfl, by decide +kernel, rfl, by decide +kernel, by decide +kernel⟩
theorem d_hear (kl : Kls K C setFl) (gn : Gn K mg) (F : FnM K "hear" "Setting.hear" (cm 73 2) f fd) {fP : Addr} (DP : Df P w K mg base k fP ["self", "at", "brought"] (sPut C fH)) (mP : Meth K C "put" fP) (DH : DfK P w K mg base k fH ["end", "letter", "bounds", "tries"] 3 ["tries"] sHeard) :
    Df P w K mg base (k + 1) f ["self", "who", "letter"] (sHear C fH) := by
  have nd := sc_hear.nd
  refine df_by F sc_hear (fun _ _ _ _ _ _ us hl => match us, hl with | [_, _, _], _ => rfl) (fun args μ Q ⟨_, _, _, _, _, _, e, _⟩ => by rw [e]; rfl) fun cdv A outer s H E hr F args μ Q h => ?_
  obtain ⟨p, pb, pl, bk, s', l, rfl, fine, h1, rfl, q⟩ := h
  obtain ⟨aN, gN, rN, tN, sN⟩ := gn.names
  refine xs_cons (xs_set (i := 3) (xe_indexG rfl gN tN sN (xe_name (i := 1) rfl ⟨tNm (!l.who), bI (!l.who), rfl, nm_at _, nm_first _, ?_⟩)) nd)
  refine xs_one (xs_expr (xe_meth DP kl mP hr (xe_name (i := 0) rfl ⟨p, _, rfl, .tail _ (.tail _ (.head _)), fs_put bk fH pb pl, xa_cons (xe_name (i := 3) rfl (xa_cons ?_))⟩)))
  refine xe_callF DH kl hr (xe_name (i := 0) rfl ⟨p, _, rfl, .tail _ (.tail _ (.head _)), fs_hears bk fH pb pl, ?_⟩)
  refine xa_cons (xe_ix (xe_fld kl (xe_name (i := 0) rfl ⟨p, _, _, rfl, .tail _ (.tail _ (.head _)), fs_both bk fH pb pl, xe_name (i := 3) rfl ⟨ne s', (bI (!l.who) : Int), _, .lst (.tail _ (.head _)), rfl, at_both s' _, ?_⟩⟩)))
  refine xa_cons (xe_name (i := 2) rfl ?_)
  refine xa_cons (xe_ix (xe_ix (xe_fld kl (xe_name (i := 0) rfl ⟨p, _, _, rfl, .tail _ (.tail _ (.head _)), fs_books bk fH pb pl, xe_name (i := 3) rfl ⟨_, (bI (!l.who) : Int), _, .tup _, rfl, at_books bk _, xe_int ⟨_, 1, .d (ePlan (bk (!l.who)).bounds), .tup _, rfl, rfl, ?_⟩⟩⟩))))
  refine xa_nil (xk_cons (xe_fld kl (xe_name (i := 0) rfl ⟨p, _, _, rfl, .tail _ (.tail _ (.head _)), fs_many bk fH pb pl, xk_nil ⟨rfl, rfl, [], _, .refl _, ?_⟩⟩)))
  have fl := fine.hok l (.head _)
  refine ⟨s'.e (!l.who), l, (bk (!l.who)).bounds, rfl, ?_, fine.ws _, fl.1, rfl, fun q0 => xa_nil ?_⟩
  · rw [show (s'.e (!l.who)).name = !l.who from fine.nm (!l.who)]
    cases l.who <;> decide
  · have hlen := heard_len (s'.e (!l.who)) l (bk (!l.who)).bounds
    refine ⟨_, [], by rw [List.append_nil]; exact List.Perm.refl _, p, pb, pl, q0, bk, s', !l.who, (Cw.heard (s'.e (!l.who)) l (bk (!l.who)).bounds).1, (Cw.heard (s'.e (!l.who)) l (bk (!l.who)).bounds).2, rfl, h1, by omega, fl.2, rfl, ?_⟩
    exact ⟨_, .refl _, q⟩
theorem sc_of_itself : FnScope ["self", "deed", "word", "who", "rest", "at", "end"] ["self", "deed"] (defScope (cm 73 3)) := ⟨rfl, rfl, rfl, by decide +kernel, rfl, by decide +kernel, by decide +kernel⟩
theorem d_of_itself (kl : Kls K C setFl) (gn : Gn K mg) (F : FnM K "of_itself" "Setting.of_itself" (cm 73 3) f fd) {fP : Addr} (DP : Df P w K mg base k fP ["self", "at", "brought"] (sPut C fH)) (mP : Meth K C "put" fP)
    {fO : Addr} (DO : DfK P w K mg base k fO ["end", "tries"] 1 ["tries"] sOpened) (gO : mg "opened" = some (.ref fO)) {fC : Addr} (DC : Df P w K mg base k fC ["end"] sClosing) (gC : mg "closing" = some (.ref fC)) {fT : Addr} (DT : Df P w K mg base k fT ["end"] sTicked) (gT : mg "ticked" = some (.ref fT)) :
    Df P w K mg base (k + 1) f ["self", "deed"] (sOfItself C fH) := by
  have nd := sc_of_itself.nd
  refine df_by F sc_of_itself (fun _ _ _ _ _ _ us hl => match us, hl with | [_, _], _ => rfl) (fun args μ Q ⟨_, _, _, _, _, _, _, _, e, _⟩ => by rw [e]; rfl) fun cdv A outer s H E hr F args μ Q h => ?_
  obtain ⟨p, pb, pl, bk, s', s2, o, i, rfl, fine, h1, h2, rfl, q⟩ := h
  obtain ⟨aN, gN, rN, tN, sN⟩ := gn.names
  refine xs_cons (xs_asg [2, 3, 4] (xe_name (i := 1) rfl ?_))
  refine xg_starU 2 [.d (.str (tOw o)), .d (.str (tNm i))] (show IsT (.d (eDeed (.own o i))) from trivial) (.tup [.str (tOw o), .str (tNm i)]) (by decide) (by simp) (by simp) fun D => ?_
  refine xgs_cons (xg_name (i := 2) (xgs_cons (xg_name (i := 3) (xgs_cons (xg_name (i := 4) (xgs_nil ?_) nd)) nd)) nd)
  refine XSs.at_ (.cons _ (.refl _)) ?_
  refine xs_cons (xs_set (i := 5) (xe_indexG rfl gN tN sN (xe_name (i := 3) rfl ⟨tNm i, bI i, rfl, nm_at _, nm_first _, ?_⟩)) nd)
  refine xs_cons (xs_set (i := 6) (xe_ix (xe_fld kl (xe_name (i := 0) rfl ⟨p, _, _, rfl, .tail _ (.tail _ (.head _)), fs_both bk fH pb pl, xe_name (i := 5) rfl ⟨ne s', (bI i : Int), _, .lst (.tail _ (.head _)), rfl, at_both s' _, ?_⟩⟩))) nd)
  have ko := sh_str (ok_ow o)
  cases o with
  | opn =>
    obtain ⟨hc, rfl⟩ := h2
    refine xs_one (xs_ifT (xt_cm (xc_eq hr (xe_name (i := 2) rfl (xe_str ⟨_, _, .d _, .d _, ko.ok (by decide), (sh_str (ok_ow .opn)).ok (by decide), by rw [eqv_str]; decide +kernel, ?_⟩)))))
    refine xs_one (xs_expr (xe_meth DP kl mP hr (xe_name (i := 0) rfl ⟨p, _, rfl, .tail _ (.tail _ (.head _)), fs_put bk fH pb pl, xa_cons (xe_name (i := 5) rfl (xa_cons ?_))⟩)))
    refine xe_callKw DO hr gO (xa_cons (xe_name (i := 6) rfl (xa_nil ?_)))
    refine xk_cons (xe_fld kl (xe_name (i := 0) rfl ⟨p, _, _, rfl, .tail _ (.tail _ (.head _)), fs_many bk fH pb pl, xk_nil ⟨rfl, rfl, [], _, .refl _, s'.e i, rfl, hc, fine.ws i, rfl, fun q0 => xa_nil ?_⟩⟩))
    refine ⟨_, [], by rw [List.append_nil]; exact List.Perm.refl _, p, pb, pl, q0, bk, s', i, _, _, rfl, h1, by simp [opened], fun l hl => fine.out i l (List.mem_append_left _ (List.mem_append_left _ hl)), rfl, ?_⟩
    exact ⟨_, .refl _, q⟩
  | cls =>
    obtain ⟨hc, rfl⟩ := h2
    refine xs_one (xs_ifF (xt_cm (xc_eq hr (xe_name (i := 2) rfl (xe_str ⟨_, _, .d _, .d _, ko.ok (by decide), (sh_str (ok_ow .opn)).ok (by decide), by rw [eqv_str]; decide +kernel, ?_⟩)))))
    refine xs_one (xs_ifT (xt_cm (xc_eq hr (xe_name (i := 2) rfl (xe_str ⟨_, _, .d _, .d _, ko.ok (by decide), (sh_str (ok_ow .cls)).ok (by decide), by rw [eqv_str]; decide +kernel, ?_⟩)))))
    refine xs_one (xs_expr (xe_meth DP kl mP hr (xe_name (i := 0) rfl ⟨p, _, rfl, .tail _ (.tail _ (.head _)), fs_put bk fH pb pl, xa_cons (xe_name (i := 5) rfl (xa_cons ?_))⟩)))
    refine xe_call DC hr gC (xa_cons (xe_name (i := 6) rfl (xa_nil ⟨[], _, .refl _, s'.e i, rfl, hc, rfl, fun q0 => xa_nil ?_⟩)))
    refine ⟨_, [], by rw [List.append_nil]; exact List.Perm.refl _, p, pb, pl, q0, bk, s', i, _, _, rfl, h1, by simp [closing], fun l hl => fine.out i l (List.mem_append_left _ (List.mem_append_right _ hl)), rfl, ?_⟩
    exact ⟨_, .refl _, q⟩
  | tck =>
    subst h2
    refine xs_one (xs_ifF (xt_cm (xc_eq hr (xe_name (i := 2) rfl (xe_str ⟨_, _, .d _, .d _, ko.ok (by decide), (sh_str (ok_ow .opn)).ok (by decide), by rw [eqv_str]; decide +kernel, ?_⟩)))))
    refine xs_one (xs_ifF (xt_cm (xc_eq hr (xe_name (i := 2) rfl (xe_str ⟨_, _, .d _, .d _, ko.ok (by decide), (sh_str (ok_ow .cls)).ok (by decide), by rw [eqv_str]; decide +kernel, ?_⟩)))))
    refine xs_one (xs_ifT (xt_cm (xc_eq hr (xe_name (i := 2) rfl (xe_str ⟨_, _, .d _, .d _, ko.ok (by decide), (sh_str (ok_ow .tck)).ok (by decide), by rw [eqv_str]; decide +kernel, ?_⟩)))))
    refine xs_one (xs_expr (xe_meth DP kl mP hr (xe_name (i := 0) rfl ⟨p, _, rfl, .tail _ (.tail _ (.head _)), fs_put bk fH pb pl, xa_cons (xe_name (i := 5) rfl (xa_cons ?_))⟩)))
    refine xe_call DT hr gT (xa_cons (xe_name (i := 6) rfl (xa_nil ⟨[], _, .refl _, s'.e i, rfl, fine.ws i, rfl, fun q0 => xa_nil ?_⟩)))
    have := ticked_len (s'.e i)
    refine ⟨_, [], by rw [List.append_nil]; exact List.Perm.refl _, p, pb, pl, q0, bk, s', i, _, _, rfl, h1, by omega, fun l hl => fine.out i l (List.mem_append_right _ hl), rfl, ?_⟩
    exact ⟨_, .refl _, q⟩
end
end Wk

/-! text Wk18 -/
/-! The walk: Setting: do, is_final, next_deed. -/
namespace Wk
open PySem PySem.Spec PyProof.Rows L2 Ds Cw
def act (bk : Bool → Book) (s : WS) : Deed → WS
  | .own .opn i => opens s i
  | .own .cls i => closes s i
  | .own .tck i => ticks s i
  | .air .come k => match s.air[k]? with
    | some l => comes bk s l (s.air.eraseIdx k)
    | none => s
  | .air .lost k => ⟨s.e, s.air.eraseIdx k⟩
  | .air .twice k => match s.air[k]? with
    | some l => ⟨s.e, s.air ++ [l]⟩
    | none => s
def Can (s : WS) : Deed → Prop
  | .own .opn i => (s.e i).closed = true
  | .own .cls i => (s.e i).closed = false
  | .own .tck _ => True
  | .air o k => k < s.air.length ∧ (o = .twice → s.air.length < 100)
def sSetDo (C fH : Addr) : Sc := fun args μ Q => ∃ (p pb pl : Addr) (bk : Bool → Book) (s : WS) (d : Deed), args = [.r (.ref p), .d (eDeed d)] ∧ Fine bk s ∧ s.air.length ≤ 50000 ∧ Can s d ∧ μ = SetMu C p pb pl fH bk s ∧ Q (.d .none) (SetMu C p pb pl fH bk (act bk s d))
def sIsFinal (C fH : Addr) : Sc := fun args μ Q => ∃ (p pb pl : Addr) (bk : Bool → Book) (s : WS), args = [.r (.ref p)] ∧ Fine bk s ∧ μ = SetMu C p pb pl fH bk s ∧ Q (.d (.bool (final s))) (SetMu C p pb pl fH bk s)
def nextDeeds (s : WS) : List Deed := if s.air = [] then ([false, true].filter fun i => !(s.e i).closed).map (.own .tck) else [.air .come 0]
def sNext (C fH : Addr) : Sc := fun args μ Q => ∃ (p pb pl : Addr) (bk : Bool → Book) (s : WS), args = [.r (.ref p)] ∧ Fine bk s ∧ μ = SetMu C p pb pl fH bk s ∧ ∀ q, Q (.r (.ref q)) ((q, .lst ((nextDeeds s).map fun d => .d (eDeed d))) :: SetMu C p pb pl fH bk s)
theorem XSs.pm {X : Cx} {F : Fm} {δ : De} {μ μ' : Mu} {sts : List Stmt} {D : Dn} (p : μ.Perm μ') (h : XSs X F δ μ' sts D) : XSs X F δ μ sts D := fun σ H lo ow fk => h σ H lo (ow.perm p) (fk.perm p)
theorem XE.pm {X : Cx} {F : Fm} {δ : De} {μ μ' : Mu} {e : Expr} {Q : Rv → Mu → Prop} (p : μ.Perm μ') (h : XE X F δ μ' e Q) : XE X F δ μ e Q := fun σ H lo ow fk => h σ H lo (ow.perm p) (fk.perm p)
theorem Fine.one {bk : Bool → Book} {s : WS} (h : Fine bk s) {l : Letter} (hl : l ∈ s.air) : Fine bk ⟨s.e, [l]⟩ := ⟨h.ws, h.nm, h.gv, fun m hm => by rw [List.mem_singleton.mp hm]; exact h.lt l hl, h.out, fun m hm => by rw [List.mem_singleton.mp hm]; exact h.hok l hl⟩
theorem sh_stand {bk : Bool → Book} {s : WS} (h : Fine bk s) : Sh 3 (eStand (s.e false) (s.e true)) := by
  unfold eStand
  split
  · refine sh_tup fun x hx => ?_
    simp only [List.mem_cons, List.not_mem_nil, or_false] at hx
    rcases hx with rfl | rfl | rfl
    · exact (sh_str (by decide +kernel : PyData.strOk "open" = true)).mono (by decide)
    · exact sh_oask (h.gv false).1
    · exact sh_oask (h.gv true).1
  · split
    · exact (sh_words (l := ["closed"]) (by intro x hx; rw [List.mem_singleton.mp hx]; exact k_closed)).mono (by decide)
    · exact (sh_words (l := ["else"]) (by intro x hx; rw [List.mem_singleton.mp hx]; exact (by decide +kernel : PyData.strOk "else" = true))).mono (by decide)
theorem stand_is_closed (x y : Cw.End) : PyData.eqv (eStand x y) (.tuple [.str "closed"]) = (!openWith x y && (x.closed && y.closed)) := by
  unfold eStand
  cases openWith x y with
  | true =>
    rw [if_pos rfl, eqv_tup, eqvAll_cons, eqv_str]
    rfl
  | false =>
    rw [if_neg Bool.false_ne_true]
    cases h : (x.closed && y.closed) with
    | true =>
      rw [if_pos rfl, eqv_tup, eqvAll_cons, eqv_str, eqvAll_nil]
      decide +kernel
    | false =>
      rw [if_neg Bool.false_ne_true, eqv_tup, eqvAll_cons, eqv_str, eqvAll_nil]
      decide +kernel
/-- the word of a stand -/
def wStand (x y : Cw.End) : Str := if openWith x y then "open" else if x.closed && y.closed then "closed" else "else"
theorem ok_wstand (x y : Cw.End) : KOk (wStand x y) := by
  unfold wStand
  split
  · exact (by decide +kernel : PyData.strOk "open" = true)
  · split
    · exact k_closed
    · exact (by decide +kernel : PyData.strOk "else" = true)
theorem stand_first (x y : Cw.End) : ∃ ds, eStand x y = .tuple (.str (wStand x y) :: ds) := by
  unfold eStand wStand
  split
  · exact ⟨_, rfl⟩
  · split
    · exact ⟨_, rfl⟩
    · exact ⟨_, rfl⟩
theorem wstand_open (x y : Cw.End) : decide (wStand x y = "open") = openWith x y := by
  unfold wStand
  split
  · rename_i h
    rw [h]
    exact decide_eq_true rfl
  · rename_i h
    have h' : openWith x y = false := by simpa using h
    rw [h']
    split <;> decide +kernel
theorem open_not_closed {x y : Cw.End} (h : openWith x y = true) : x.closed = false := by
  unfold openWith isOpen at h
  simp only [Bool.and_eq_true, Bool.not_eq_true'] at h
  exact h.1.1.1.1.1
theorem erase_map {α β : Type} (f : α → β) : ∀ (l : List α) (n : Nat), (l.map f).eraseIdx n = (l.eraseIdx n).map f
  | [], _ => rfl
  | _ :: _, 0 => rfl
  | x :: l, n + 1 => congrArg (f x :: ·) (erase_map f l n)
section
variable {P : Program} {w : World} {K : PySem.W.Frag} {mg : Str → Option Value} {base : Heap} {f C fH : Addr} {fd : FuncData} {k : Nat} {kws : List (Str × V)}
theorem sc_set_do : FnScope ["self", "deed", "word", "what", "rest", "who", "letter"] ["self", "deed"] (defScope (cm 73 4)) := ⟨rfl, rfl, rfl, by decide +kernel, rfl, by decide +kernel, by decide +kernel⟩
theorem d_set_do (kl : Kls K C setFl) (F : FnM K "do" "Setting.do" (cm 73 4) f fd) {fI : Addr} (DI : Df P w K mg base k fI ["thing"] sIsDeed) (gI : mg "is_deed" = some (.ref fI)) {fO : Addr} (DO : Df P w K mg base k fO ["self", "deed"] (sOfItself C fH)) (mO : Meth K C "of_itself" fO)
    {fR : Addr} (DR : Df P w K mg base k fR ["self", "who", "letter"] (sHear C fH)) (mR : Meth K C "hear" fR) (b_len : mg "len" = none) (gM : ∃ t, mg "MOST_LETTERS" = some (.int 100 t)) : Df P w K mg base (k + 1) f ["self", "deed"] (sSetDo C fH) := by
  have nd := sc_set_do.nd
  refine df_by F sc_set_do (fun _ _ _ _ _ _ us hl => match us, hl with | [_, _], _ => rfl) (fun args μ Q ⟨_, _, _, _, _, _, e, _⟩ => by rw [e]; rfl) fun cdv A outer s H E hr F args μ Q h => ?_
  obtain ⟨p, pb, pl, bk, s', d, rfl, fine, h1, can, rfl, q⟩ := h
  refine xs_cons (xs_ifF (xt_not (xt_val (xe_call DI hr gI (xa_cons (xe_name (i := 1) rfl (xa_nil ⟨[], _, .refl _, d, rfl, rfl, true, rfl, rfl, xs_nil ?_⟩)))))))
  cases d with
  | own o i =>
    refine xs_cons (xs_asg [2, 3, 4] (xe_name (i := 1) rfl ?_))
    refine xg_starU 2 [.d (.str (tOw o)), .d (.str (tNm i))] (show IsT (.d (eDeed (.own o i))) from trivial) (.tup [.str (tOw o), .str (tNm i)]) (by decide) (by simp) (by simp) fun D => ?_
    refine xgs_cons (xg_name (i := 2) (xgs_cons (xg_name (i := 3) (xgs_cons (xg_name (i := 4) (xgs_nil ?_) nd)) nd)) nd)
    refine XSs.at_ (.cons _ (.refl _)) ?_
    refine xs_cons (xs_ifT (xt_cm (xc_notin hr (xe_name (i := 2) rfl (xe_tupD (xa_cons (xe_str (xa_cons (xe_str (xa_cons (xe_str (xa_cons (xe_str (xa_nil ⟨airWords, rfl, by decide, _, _, .d _, .tup _, (sh_str (ok_ow o)).ok (by decide), sh_air, by rw [ow_notin]; rfl, ?_⟩))))))))))))))
    refine xs_cons (xs_expr (xe_meth DO kl mO hr (xe_name (i := 0) rfl ⟨p, _, rfl, .tail _ (.tail _ (.head _)), fs_of bk fH pb pl, xa_cons (xe_name (i := 1) rfl (xa_nil ?_))⟩)))
    refine ⟨_, [], by rw [List.append_nil]; exact List.Perm.refl _, p, pb, pl, bk, s', act bk s' (.own o i), o, i, rfl, fine, h1, ?_, rfl, ?_⟩
    · cases o
      · exact ⟨can, rfl⟩
      · exact ⟨can, rfl⟩
      · rfl
    · exact xs_one (xs_retN ⟨_, .refl _, q⟩)
  | air o n =>
    obtain ⟨hn, htw⟩ := can
    have hl : s'.air[n]? = some s'.air[n] := List.getElem?_eq_getElem hn
    have hm : s'.air[n] ∈ s'.air := List.getElem_mem hn
    generalize s'.air[n] = l at hl hm
    have hlm : (s'.air.map fun l => Rv.d (eAir l))[n]? = some (.d (eAir l)) := by rw [List.getElem?_map, hl]; rfl
    refine xs_cons (xs_asg [2, 3, 4] (xe_name (i := 1) rfl ?_))
    refine xg_starU 2 [.d (.str (tAw o)), .d (.int n)] (show IsT (.d (eDeed (.air o n))) from trivial) (.tup [.str (tAw o), .int n]) (by decide) (by simp) (by simp) fun D => ?_
    refine xgs_cons (xg_name (i := 2) (xgs_cons (xg_name (i := 3) (xgs_cons (xg_name (i := 4) (xgs_nil ?_) nd)) nd)) nd)
    refine XSs.at_ (.cons _ (.refl _)) ?_
    refine xs_cons (xs_ifF (xt_cm (xc_notin hr (xe_name (i := 2) rfl (xe_tupD (xa_cons (xe_str (xa_cons (xe_str (xa_cons (xe_str (xa_cons (xe_str (xa_nil ⟨airWords, rfl, by decide, _, _, .d _, .tup _, (sh_str (ok_aw o)).ok (by decide), sh_air, by rw [aw_in]; rfl, xs_nil ?_⟩))))))))))))))
    refine xs_cons (xs_ifF (xt_cm (xc_ge (xe_name (i := 3) rfl (xe_len b_len (xa_cons (xe_fld kl (xe_name (i := 0) rfl ⟨p, _, _, rfl, .tail _ (.tail _ (.head _)), fs_letters bk fH pb pl, xa_nil (.inl ⟨_, _, rfl, .lst (.head _), _, _, rfl, rfl, ?_, xs_nil ?_⟩)⟩))))))))
    · rw [List.length_map]
      exact decide_eq_false (by omega)
    have ko := sh_str (ok_aw o)
    cases o with
    | twice =>
      have ea : act bk s' (.air .twice n) = ⟨s'.e, s'.air ++ [l]⟩ := by
        show (match s'.air[n]? with | some l => (⟨s'.e, s'.air ++ [l]⟩ : WS) | none => s') = _
        rw [hl]
      rw [ea] at q
      refine xs_cons (xs_ifT (xt_cm (xc_eq hr (xe_name (i := 2) rfl (xe_str ⟨_, _, .d _, .d _, ko.ok (by decide), (sh_str (ok_aw .twice)).ok (by decide), by rw [eqv_str]; decide +kernel, ?_⟩)))))
      refine xs_cons (xs_ifF (xt_cm (xc_ge (xe_len b_len (xa_cons (xe_fld kl (xe_name (i := 0) rfl ⟨p, _, _, rfl, .tail _ (.tail _ (.head _)), fs_letters bk fH pb pl, xa_nil (.inl ⟨_, _, rfl, .lst (.head _), xe_gint gM ⟨_, _, rfl, rfl, ?_, xs_nil ?_⟩⟩)⟩)))))))
      · rw [List.length_map]
        have := htw rfl
        exact decide_eq_false (by omega)
      refine xs_cons (xs_expr (xe_append (xe_fld kl (xe_name (i := 0) rfl ⟨p, _, _, rfl, .tail _ (.tail _ (.head _)), fs_letters bk fH pb pl, pl, _, rfl, .head _, ?_⟩))))
      refine xe_ix (xe_fld kl (xe_name (i := 0) rfl ⟨p, _, _, rfl, .tail _ (.tail _ (.head _)), fs_letters bk fH pb pl, xe_name (i := 3) rfl ⟨_, (n : Int), .d (eAir l), .lst (.head _), rfl, ?_, _, _, ?_, .here, ?_⟩⟩))
      · exact atI_nat hlm
      · rw [List.length_map]
        omega
      refine xs_one (xs_retN ⟨_, .refl _, ?_⟩)
      have e2 : oAir ⟨s'.e, s'.air ++ [l]⟩ = .lst (s'.air.map (fun l => Rv.d (eAir l)) ++ [.d (eAir l)]) := by
        unfold oAir
        rw [List.map_append]
        rfl
      unfold SetMu at q
      rw [e2] at q
      exact q
    | come =>
      have ea : act bk s' (.air .come n) = comes bk s' l (s'.air.eraseIdx n) := by
        show (match s'.air[n]? with | some l => comes bk s' l (s'.air.eraseIdx n) | none => s') = _
        rw [hl]
      rw [ea] at q
      refine xs_cons (xs_ifF (xt_cm (xc_eq hr (xe_name (i := 2) rfl (xe_str ⟨_, _, .d _, .d _, ko.ok (by decide), (sh_str (ok_aw .twice)).ok (by decide), by rw [eqv_str]; decide +kernel, xs_nil ?_⟩)))))
      refine xs_cons (xs_asg [5, 6] (xe_popAt (xe_fld kl (xe_name (i := 0) rfl ⟨p, _, _, rfl, .tail _ (.tail _ (.head _)), fs_letters bk fH pb pl, pl, _, rfl, .head _, xe_name (i := 3) rfl ⟨_, n, .d (eAir l), _, rfl, ?_, hlm, .here, ?_⟩⟩))))
      · rw [List.length_map]
        omega
      refine xg_tupD (xgs_cons (xg_name (i := 5) (xgs_cons (xg_name (i := 6) (xgs_nil ?_) nd)) nd))
      refine xs_one (xs_ifT (xt_cm (xc_eq hr (xe_name (i := 2) rfl (xe_str ⟨_, _, .d _, .d _, ko.ok (by decide), (sh_str (ok_aw .come)).ok (by decide), by rw [eqv_str]; decide +kernel, ?_⟩)))))
      refine xs_one (xs_expr (xe_meth DR kl mR hr (xe_name (i := 0) rfl ⟨p, _, rfl, .tail _ (.tail _ (.head _)), fs_hear bk fH pb pl, xa_cons (xe_name (i := 5) rfl (xa_cons (xe_name (i := 6) rfl (xa_nil ?_))))⟩)))
      refine ⟨_, [], by rw [List.append_nil], p, pb, pl, bk, ⟨s'.e, s'.air.eraseIdx n⟩, l, rfl, fine.one hm, ?_, ?_, ?_⟩
      · have : (s'.air.eraseIdx n).length ≤ s'.air.length := List.length_eraseIdx_le ..
        exact Nat.le_trans this h1
      · unfold SetMu oAir
        rw [erase_map]
        rfl
      · exact ⟨_, .refl _, q⟩
    | lost =>
      refine xs_cons (xs_ifF (xt_cm (xc_eq hr (xe_name (i := 2) rfl (xe_str ⟨_, _, .d _, .d _, ko.ok (by decide), (sh_str (ok_aw .twice)).ok (by decide), by rw [eqv_str]; decide +kernel, xs_nil ?_⟩)))))
      refine xs_cons (xs_asg [5, 6] (xe_popAt (xe_fld kl (xe_name (i := 0) rfl ⟨p, _, _, rfl, .tail _ (.tail _ (.head _)), fs_letters bk fH pb pl, pl, _, rfl, .head _, xe_name (i := 3) rfl ⟨_, n, .d (eAir l), _, rfl, ?_, hlm, .here, ?_⟩⟩))))
      · rw [List.length_map]
        omega
      refine xg_tupD (xgs_cons (xg_name (i := 5) (xgs_cons (xg_name (i := 6) (xgs_nil ?_) nd)) nd))
      refine xs_one (xs_ifF (xt_cm (xc_eq hr (xe_name (i := 2) rfl (xe_str ⟨_, _, .d _, .d _, ko.ok (by decide), (sh_str (ok_aw .come)).ok (by decide), by rw [eqv_str]; decide +kernel, ?_⟩)))))
      refine xs_one (xs_ifF (xt_cm (xc_eq hr (xe_name (i := 2) rfl (xe_str ⟨_, _, .d _, .d _, ko.ok (by decide), (sh_str (by decide +kernel : PyData.strOk "back" = true)).ok (by decide), by rw [eqv_str]; decide +kernel, xs_nil ?_⟩)))))
      refine ⟨_, .refl _, ?_⟩
      have e2 : oAir (act bk s' (.air .lost n)) = .lst ((s'.air.map fun l => Rv.d (eAir l)).eraseIdx n) := by
        show Ob.lst ((s'.air.eraseIdx n).map fun l => Rv.d (eAir l)) = _
        rw [erase_map]
      unfold SetMu at q
      rw [e2] at q
      exact q
end
end Wk

/-! text Zg -/
/-! A strict zip of a tuple and a list, walked over. -/
namespace Ds
open PySem PySem.Spec PyProof.Rows L2
/-- the tuple at a, the list at b, of one length -/
def ItzS (K : PySem.W.Frag) (a b : Addr) : It :=
  ⟨fun i H => ∃ (xs ys : List V) (x y : V), SqT K H a xs ∧ SqL K H b ys ∧ ys.length = xs.length ∧ xs[i]? = some x ∧ ys[i]? = some y,
    fun i H v H' => ∃ T x y, v = .ref T ∧ H T = none ∧ H' = upd H T (.tup [x, y]) ∧ (∀ xs, SqT K H a xs → xs[i]? = some x) ∧ ∀ ys, SqL K H b ys → ys[i]? = some y,
    fun i H => ∃ xs ys : List V, SqT K H a xs ∧ SqL K H b ys ∧ xs.length = i ∧ ys.length = i⟩
theorem go_zs {prog : Program} {w : World} {A : Around} {E : Value → Shared → Prop} {s : Shared} {elts : List Expr} {k : Nat} {pos : Pos} {z TI TO T : Addr} {f : Value} {Q : Unit → Shared → Prop} (hz : Zs.ZsAt s.heap z TI TO (rawInt T) f)
    (hQ : ∀ h', Zs.ZsAt h' z TI TO .none f → Heap.SameBut z s.heap h' → Q () { s with heap := h' }) : wpAny (model prog w) A (letOwnedTupleGo (.Tuple elts k pos) (.ref z) (.ref T)) Q E s := by
  unfold letOwnedTupleGo
  refine wpAny_bind (wpAny_load hz ?_)
  show wpAny _ _ (if (["enumerate", "zip", "dict_itemiterator", "dict_reverseitemiterator", "odict_iterator", "itertools.zip_longest", "itertools.pairwise"].contains "zip" && (#[rawInt T, f, .bool true, .ref TI, .ref TO] : Array Value)[0]? == some (rawInt T)) = true then _ else _) Q E s
  rw [if_pos (by simp)]
  refine wpAny_bind (wpAny_rule ?_)
  show wpAny _ _ (setField (.ref z) 0 .none) Q E s
  refine wpAny_setField_rec hz (by simp) fun h' hz' hs' => ?_
  exact hQ h' hz' hs'
def StS (z TI TO i1 i2 a b : Addr) (i : Nat) (h : Heap) : Prop := (∃ f, Zs.ZsAt h z TI TO .none f) ∧ IsTupOf2 h TI (.ref i1) (.ref i2) ∧ (∃ x y, IsTupOf2 h TO x y) ∧ h.IsTupleIter i1 a i ∧ h.IsListIter i2 b i
theorem turn_zs {P : Program} {w : World} {K : PySem.W.Frag} {elts : List Expr} {kk : Nat} {tpos : Pos} {a b z TI TO i1 i2 : Addr} (S : ZipSep2 z TI TO i1 i2 [i1, a] [i2, b]) (na : a ≠ i1) (nb : b ≠ i2) : Turn P w K (.Tuple elts kk tpos) (ItzS K a b) [z, TI, TO, i1, i2] z (StS z TI TO i1 i2 a b) where
  mem := by simp
  obj := fun i h st c hc => by
    obtain ⟨⟨f, hz⟩, hTI, ⟨x, y, hTO⟩, ⟨o1, e1, _, d1⟩, ⟨o2, e2, _, d2⟩⟩ := st
    have e' : c = z ∨ c = TI ∨ c = TO ∨ c = i1 ∨ c = i2 := by simpa using hc
    rcases e' with rfl | rfl | rfl | rfl | rfl
    · exact ⟨_, hz, fun v q => nomatch q⟩
    · exact ⟨_, hTI, fun v q => nomatch q⟩
    · exact ⟨_, hTO, fun v q => nomatch q⟩
    · exact ⟨o1, e1, fun v q => by rw [d1] at q; cases q⟩
    · exact ⟨o2, e2, fun v q => by rw [d2] at q; cases q⟩
  keep := fun i h h' st k => by
    obtain ⟨⟨f, hz⟩, hTI, ⟨x, y, hTO⟩, h1, h2⟩ := st
    exact ⟨⟨f, k z (by simp) _ hz⟩, k TI (by simp) _ hTI, ⟨x, y, k TO (by simp) _ hTO⟩, h1.at fun o q => k i1 (by simp) o q, h2.at fun o q => k i2 (by simp) o q⟩
  item := by
    intro X hP hw hK hc i pins s σ H E I hf st hg
    subst hP hw hK
    obtain ⟨⟨f, hz⟩, hTI, ⟨x0, y0, hTO⟩, h1, h2⟩ := st
    obtain ⟨xs, ys, x, y, hqx, hqy, hlen, hx, hy⟩ := hg
    obtain ⟨its, rv, p, _⟩ := I.tuple hqx
    obtain ⟨its2, rv2, p2, _⟩ := I.list hqy
    obtain ⟨u, hu, ru⟩ := rv.get hx
    obtain ⟨u2, hu2, ru2⟩ := rv2.get hy
    have hzl : z < s.heap.objs.size := Heap.lt_size hz
    have n1 : its.toArray.size = xs.length := by rw [List.size_toArray, ← rv.length]
    have n2 : its2.toArray.size = its.toArray.size := by rw [n1, List.size_toArray, ← rv2.length, hlen]
    have hi : i < its.toArray.size := by rw [n1]; exact (List.getElem?_eq_some_iff.mp hx).1
    have D1 := Draws.tuple (prog := X.prog) (w := X.w) (A := X.A.in1) (I.ok.hd hc) i1 a na its.toArray
    have D2 : Draws X.prog X.w X.A.in1 i2 [i2, b] its.toArray.size _ _ := n2 ▸ Draws.list (prog := X.prog) (w := X.w) (A := X.A.in1) (I.ok.hd hc) i2 b nb its2.toArray
    have hT : s.TypeIs (.ref z) "zip" := ⟨_, hz, rfl⟩
    unfold pyNext
    refine wpAny_bind (wpAny_attempt (wpAny_callSpecial?_slot (name := Str.ofString "__next__") hT PySem.F.slot_zip_next (wpAny_call_entry PySem.F.slot_zip_next hT PySem.F.entry_zip_next
      (Zs.zs_item S D1 D2 hz hTI hTO ⟨h1, p⟩ ⟨h2, p2.isList⟩ hi fun x1 x2 h' tk q1 q2 z' TO' st1 st2 hTn hsz hk => wpAny_pure ⟨_, rfl, ?_⟩) (PySem.F.args_zip_next_1 _))))
    have e1 : x1 = u := by
      have q1' : its.toArray[i]? = some x1 := q1
      rw [← Array.getElem?_toList, hu] at q1'
      cases q1'
      rfl
    have e2 : x2 = u2 := by
      have q2' : its2.toArray[i]? = some x2 := q2
      rw [← Array.getElem?_toList, hu2] at q2'
      cases q2'
      rfl
    subst e1 e2
    refine go_zs (s := { s with heap := h', toks := tk }) z' fun h'' z'' sb => ?_
    replace sb : Heap.SameBut z h' h'' := sb
    have hT2 : h''.get? s.heap.objs.size = some { cls := .type "tuple", data := .seq #[x1, x2] } := (sb.2 _ (Nat.ne_of_gt hzl)).trans hTn
    have new : ObjOk X.prog X.w (upd H s.heap.objs.size (.tup [x, y])) h'' s.heap.objs.size (.tup [x, y]) := ⟨by show 2 ≤ sizeLine; decide, [x1, x2], .cons ru (.cons ru2 .nil), ⟨_, hT2, rfl, _, rfl⟩⟩
    have I1 : Inv X pins σ (upd H s.heap.objs.size (.tup [x, y])) { s with heap := h'', toks := tk } :=
      I.turnedNew (t' := tk) (ch := [z, TI, TO, i1, i2]) (fun c o hb q => (sb.2 c (fun q' => hb (by simp [q']))).trans (hk c o (fun q' => hb (by simp [q'])) (fun q' => hb (by simp [q'])) (fun q' => hb (by simp [q'])) (fun q' => hb (by simp [q'])) q)) hf (Nat.le_refl _) new
    refine ⟨.ref s.heap.objs.size, _, I1, rfl, ⟨_, x, y, rfl, I.hok.fresh (Nat.le_refl _), rfl, fun l hl => by rw [I.tuple_inj hl hqx]; exact hx, fun l hl => by rw [I.list_inj hl hqy]; exact hy⟩, ⟨⟨_, z''⟩, (sb.2 _ S.TIz).trans (hk _ _ S.TIz S.TITO S.TIi1 S.TIi2 hTI), ⟨x1, x2, (sb.2 _ S.TOz).trans TO'⟩, st1.1.at fun o q => (sb.2 _ S.zi1.symm).trans q, st2.1.at fun o q => (sb.2 _ S.zi2.symm).trans q⟩, fun c hcm => ?_⟩
    have hlt : c < s.heap.objs.size := by
      have e' : c = z ∨ c = TI ∨ c = TO ∨ c = i1 ∨ c = i2 := by simpa using hcm
      rcases e' with rfl | rfl | rfl | rfl | rfl
      · exact hzl
      · exact Heap.lt_size hTI
      · exact Heap.lt_size hTO
      · obtain ⟨_, e1, _⟩ := h1; exact Heap.lt_size e1
      · obtain ⟨_, e2, _⟩ := h2; exact Heap.lt_size e2
    rw [upd_ne (Nat.ne_of_lt hlt)]
    exact (hf c hcm).1
  done := by
    intro X hP hw hK hc i pins s σ H E I hf st hg
    subst hP hw hK
    obtain ⟨⟨f, hz⟩, hTI, ⟨x0, y0, hTO⟩, h1, h2⟩ := st
    obtain ⟨xs, ys, hqx, hqy, hl1, hl2⟩ := hg
    obtain ⟨its, rv, p, _⟩ := I.tuple hqx
    obtain ⟨its2, rv2, p2, _⟩ := I.list hqy
    have n1 : its.toArray.size = i := by rw [List.size_toArray, ← rv.length, hl1]
    have n2 : its2.toArray.size = i := by rw [List.size_toArray, ← rv2.length, hl2]
    have D1 := Draws.tuple (prog := X.prog) (w := X.w) (A := X.A.in1) (I.ok.hd hc) i1 a na its.toArray
    have D2 := Draws.list (prog := X.prog) (w := X.w) (A := X.A.in1) (I.ok.hd hc) i2 b nb its2.toArray
    rw [n1] at D1
    rw [n2] at D2
    have hT : s.TypeIs (.ref z) "zip" := ⟨_, hz, rfl⟩
    unfold pyNext
    refine wpAny_bind (wpAny_attempt (wpAny_callSpecial?_slot (name := Str.ofString "__next__") hT PySem.F.slot_zip_next (wpAny_call_entry PySem.F.slot_zip_next hT PySem.F.entry_zip_next
      (Zs.zs_end S D1 D2 (I.ok.hd hc) hz hTI ⟨h1, p⟩ ⟨h2, p2.isList⟩ fun h' tk x hk hx => ?_) (PySem.F.args_zip_next_1 _))))
    obtain ⟨o, ho, hcl⟩ := hx
    refine wpAny_bind (wpAny_isInstance (T := "StopIteration") (b := true) ⟨o, ho, hcl⟩ isSubtype_stop (wpAny_pure ⟨rfl, ?_⟩))
    exact I.turnedL (t' := tk) (ch := [z, TI, TO, i1, i2]) (fun c o hb q => hk c o (fun q' => hb (by simp [q'])) (fun q' => hb (by simp [q'])) (fun q' => hb (by simp [q'])) (fun q' => hb (by simp [q'])) q) hf
  self := fun A i s Q E st h => by
    obtain ⟨⟨f, hz⟩, _⟩ := st
    have hT : s.TypeIs (.ref z) "zip" := ⟨_, hz, rfl⟩
    refine wpAny_pyIter_slot hT PySem.F.slot_zip_iter (wpAny_call_entry PySem.F.slot_zip_iter hT PySem.F.entry_zip_iter ?_ (PySem.F.args_zip_iter_1 _))
    show wpAny _ _ (ret (.ref z)) _ _ s
    exact wpAny_pure ⟨_, rfl, "zip", _, hT, PySem.F.slot_zip_next.lookup, h⟩
theorem yd_zipS {K : PySem.W.Frag} {H : Hp} {a b : Addr} {vs : List V} {xs ys : List Rv} (h1 : SqT K H a vs) (r1 : Rks K H vs xs) (hl : ys.length = xs.length) : Yd K (ItzS K a b) (fun Hc => TK H Hc ∧ ∃ μc, Ow K Hc μc ∧ (b, Ob.lst ys) ∈ μc) ((xs.zip ys).map fun z => .z [z.1, z.2]) where
  item := fun i Hc x ⟨t, μc, w, m2⟩ e => by
    rw [List.getElem?_map] at e
    cases q : (xs.zip ys)[i]? with
    | none => rw [q] at e; cases e
    | some z =>
      rw [q] at e
      cases e
      rw [List.getElem?_zip_eq_some] at q
      obtain ⟨ws, h2, r2⟩ := w _ m2
      obtain ⟨v, e1, k1⟩ := r1.get q.1
      obtain ⟨u, e2, k2⟩ := r2.get q.2
      refine ⟨⟨vs, ws, v, u, t.sq h1, SqL.of h2, by rw [r2.length, r1.length, hl], e1, e2⟩, ?_⟩
      rintro _ _ ⟨T, x', y', rfl, hT, rfl, g1, g2⟩
      have a1 := g1 vs (t.sq h1)
      have a2 := g2 ws (SqL.of h2)
      rw [e1] at a1
      rw [e2] at a2
      cases a1
      cases a2
      have tn : TK Hc (upd Hc T (.tup [v, u])) := TK.new hT _
      exact ⟨fun b o e => by rw [upd_ne (ne_of_none e hT)]; exact e, .z (SqT.of upd_same) (.cons ((k1.keep t).keep tn) (.cons (k2.keep tn) .nil))⟩
  done := fun Hc ⟨t, μc, w, m2⟩ => by
    obtain ⟨ws, h2, r2⟩ := w _ m2
    exact ⟨vs, ws, t.sq h1, SqL.of h2, by rw [List.length_map, List.length_zip, r1.length, hl, Nat.min_self], by rw [List.length_map, List.length_zip, r2.length, hl, Nat.min_self]⟩
section
variable {X : Cx} {F : Fm} {δ : De} {μ : Mu} {a b tg : Expr} {pos p p2 zpos cp kp tpos : Pos} {j kk : Nat} {elts : List Expr} {R : List Rv → (Mu → Prop) → Mu → Prop}
/-- for .. in zip(a, b, strict=True), a a tuple, b a list -/
theorem xi_zipS (hmz : X.mg "zip" = none) (h : XE X F δ μ a fun ra μ1 => XE X F δ μ1 b fun rb μ2 => ∃ xs q ys, IsT ra ∧ Sq μ2 ra xs ∧ rb = .r (.ref q) ∧ (q, Ob.lst ys) ∈ μ2 ∧ ys.length = xs.length ∧ R ((xs.zip ys).map fun z => .z [z.1, z.2]) (fun μc => (q, Ob.lst ys) ∈ μc) μ2)
    (hgz : Gl X "zip" := by rfl) (he : starEach [a, b] X.env = (false, eval a X.env) :: starEach [b] X.env := by rfl) (he2 : starEach [b] X.env = (false, eval b X.env) :: starEach [] X.env := by rfl)
    (hall : (backToKw zpos (keywordEach [⟨some "strict", .Constant (.bool true) j cp, kp⟩] X.env)).all (·.1.isSome) = true := by rfl) (hpl : (backTo zpos (starEach [a, b] X.env)).any (·.1) = false := by rfl) (hkw : (backToKw zpos (keywordEach [⟨some "strict", .Constant (.bool true) j cp, kp⟩] X.env)).any (·.1.isNone) = false := by rfl)
    (hks : (backToKw zpos (keywordEach [⟨some "strict", .Constant (.bool true) j cp, kp⟩] X.env)).filterMap (·.1) = [Str.ofString "strict"] := by rfl) :
    XI X F δ μ (.Tuple elts kk tpos) (.Call (.Name "zip" p2) [a, b] [⟨some "strict", .Constant (.bool true) j cp, kp⟩] zpos) R := by
  intro σ H lo ow fk pins s I
  refine wpAny_Call_Name_kw (ld_blt (u := .type "zip") I hgz hmz (by decide +kernel) (Zs.callWith_tyK ?_ hall hpl hkw he))
  have pa : XA X F δ μ [a, b] fun rs μ2 => ∃ ra rb, rs = [ra, rb] ∧ ∃ xs q ys, IsT ra ∧ Sq μ2 ra xs ∧ rb = .r (.ref q) ∧ (q, Ob.lst ys) ∈ μ2 ∧ ys.length = xs.length ∧ R ((xs.zip ys).map fun z => .z [z.1, z.2]) (fun μc => (q, Ob.lst ys) ∈ μc) μ2 :=
    xa_cons (h.mono fun ra μ1 h => xa_cons (h.mono fun rb μ2 h => xa_nil ⟨ra, rb, rfl, h⟩) he2) he
  refine thn (pa σ H lo ow fk zpos pins s I) fun us s1 ⟨vs, H1, I1, rv, t1, rs, μ1, r1, ow1, fk1, ra, rb, e, xs, q', ys, ht, hq1, eb, hm, hl, q⟩ => ?_
  subst e eb
  refine thn ((pk_cons pe_bl pk_nil).run zpos pins s1 σ H1 (fun zs H2 => zs = [.bl true] ∧ H2 = H1) I1 ⟨rfl, rfl⟩) fun ks s2 ⟨zs, H2, I2, rz, e1, e2⟩ => ?_
  subst e1 e2
  rw [hks]
  have ek : ks = [.bool true] := by
    cases rz with
    | cons a b => cases b; cases a; rfl
  subst ek
  cases r1 with
  | cons ra1 r1 =>
  cases r1 with
  | cons rb1 r1 =>
  cases r1
  cases rb1
  cases rv with
  | cons va rv =>
  cases rv with
  | cons vb rv =>
  cases rv
  obtain ⟨l1, as1, rfl, hp1, hv1⟩ := hq1.tuple ht ra1
  cases va
  cases vb
  obtain ⟨its1, rv1, pt1, _⟩ := I2.tuple hp1.sq
  obtain ⟨ws, g1, g2⟩ := ow1 _ hm
  obtain ⟨its2, rv2, pt2, _⟩ := I2.list (SqL.of g1)
  have b1 : l1 < s2.heap.objs.size := let ⟨_, e, _⟩ := id pt1; Heap.lt_size e
  have b2 : q' < s2.heap.objs.size := pt2.lt
  obtain ⟨m1, m2, m3, m4, m5, m6, m7, m8⟩ := Zs.made s2.heap "list_iterator" b1 b2
  refine Zs.call_zipS (Zs.new_tl l1 q' its1.toArray its2.toArray) ⟨pt1, pt2.isList, ?_⟩
  rw [m7]
  refine ⟨⟨_, m1, rfl⟩, ?_⟩
  have Sp := Zs.zsep s2.heap.objs.size l1 q' b1 b2
  have T := turn_zs (P := X.prog) (w := X.w) (K := X.K) (elts := elts) (kk := kk) (tpos := tpos) Sp (Nat.ne_of_lt b1) (Nat.ne_of_lt (Nat.lt_succ_of_lt b2))
  have st : StS (s2.heap.objs.size + 4) (s2.heap.objs.size + 2) (s2.heap.objs.size + 3) s2.heap.objs.size (s2.heap.objs.size + 1) l1 q' 0 (Zs.zH5 s2.heap l1 q' "list_iterator") := ⟨⟨_, m1⟩, m2, ⟨_, _, m3⟩, ⟨_, m4, rfl, rfl⟩, ⟨_, m5, rfl, rfl⟩⟩
  refine T.self X.A 0 { s2 with heap := Zs.zH5 s2.heap l1 q' "list_iterator" } _ X.xe st ?_
  have I3 : Inv X pins σ H2 { s2 with heap := Zs.zH5 s2.heap l1 q' "list_iterator" } := I2.kept (t' := s2.toks) m8
  refine ⟨_, _, _, _, H2, rfl, I3, T, st, fun c hcm => ?_, t1, _, _, μ1, ow1, fk1, yd_zipS hp1.sq hv1 hl, q⟩
  have e' : c = s2.heap.objs.size + 4 ∨ c = s2.heap.objs.size + 2 ∨ c = s2.heap.objs.size + 3 ∨ c = s2.heap.objs.size ∨ c = s2.heap.objs.size + 1 := by simpa using hcm
  have hle : s2.heap.objs.size ≤ c := by
    rcases e' with z | z | z | z | z
    · rw [z]; exact Nat.le_add_right _ _
    · rw [z]; exact Nat.le_add_right _ _
    · rw [z]; exact Nat.le_add_right _ _
    · rw [z]; exact Nat.le_refl _
    · rw [z]; exact Nat.le_add_right _ _
  have fo := I2.fpOk hle (I2.hok.fresh hle)
  exact fo
end
end Ds

/-! text Wk19 -/
/-! The walk: Setting: is_final, next_deed. -/
namespace Wk
open PySem PySem.Spec PyProof.Rows L2 Ds Cw
section
variable {P : Program} {w : World} {K : PySem.W.Frag} {mg : Str → Option Value} {base : Heap} {f C fH : Addr} {fd : FuncData} {k : Nat} {kws : List (Str × V)}
theorem sh_airL {l : Letter} (h : ∀ z ∈ l.pairs, KOk z.1) : Sh 4 (eAir l) := by
  refine sh_tup fun x hx => ?_
  simp only [List.mem_cons, List.not_mem_nil, or_false] at hx
  rcases hx with rfl | rfl
  · exact (sh_str (ok_nm _)).mono (by decide)
  · refine sh_tup fun x hx => ?_
    simp only [List.mem_cons, List.not_mem_nil, or_false] at hx
    rcases hx with rfl | rfl | rfl | rfl | rfl | rfl
    · exact (sh_str (ok_nm _)).mono (by decide)
    · exact (sh_str (ok_wd _)).mono (by decide)
    · exact (sh_int _).mono (by decide)
    · exact (sh_int _).mono (by decide)
    · exact (sh_int _).mono (by decide)
    · exact sh_ask h
theorem final_of (s : WS) : final s = ((!openWith (s.e false) (s.e true) && ((s.e false).closed && (s.e true).closed)) || (openWith (s.e false) (s.e true) && s.air.isEmpty)) := by
  unfold final bothClosed
  cases h : openWith (s.e false) (s.e true) with
  | true => rw [open_not_closed h]; rfl
  | false => rfl
theorem sc_is_final : FnScope ["self", "stand"] ["self"] (defScope (cm 73 5)) := ⟨rfl, rfl, rfl, by decide +kernel, rfl, by decide +kernel, by decide +kernel⟩
theorem d_is_final (kl : Kls K C setFl) (F : FnM K "is_final" "Setting.is_final" (cm 73 5) f fd) {fS : Addr} (DS : Df P w K mg base k fS ["ends"] sStandOf) (gS : mg "stand_of" = some (.ref fS)) : Df P w K mg base (k + 1) f ["self"] (sIsFinal C fH) := by
  have nd := sc_is_final.nd
  refine df_by F sc_is_final (fun _ _ _ _ _ _ us hl => match us, hl with | [_], _ => rfl) (fun args μ Q ⟨_, _, _, _, _, e, _⟩ => by rw [e]; rfl) fun cdv A outer s H E hr F args μ Q h => ?_
  obtain ⟨p, pb, pl, bk, s', rfl, fine, rfl, q⟩ := h
  rw [final_of] at q
  refine xs_cons (xs_set (i := 1) (xe_call DS hr gS (xa_cons (xe_fld kl (xe_name (i := 0) rfl ⟨p, _, _, rfl, .tail _ (.tail _ (.head _)), fs_both bk fH pb pl, xa_nil ?_⟩)))) nd)
  refine ⟨[(pb, oBoth s')], [(pl, oAir s'), (p, .ins C (fSet bk fH pb pl))], .swap _ _ _, _, s'.e false, s'.e true, rfl, .inr ⟨pb, rfl, rfl⟩, ?_⟩
  refine XSs.pm (μ' := SetMu C p pb pl fH bk s') (.swap _ _ _) ?_
  have sh := sh_stand fine
  obtain ⟨ds, ed⟩ := stand_first (s'.e false) (s'.e true)
  refine xs_one (xs_ret (XE.mono (Q := fun r μ1 => r = .d (.bool ((!openWith (s'.e false) (s'.e true) && ((s'.e false).closed && (s'.e true).closed)) || (openWith (s'.e false) (s'.e true) && s'.air.isEmpty))) ∧ (SetMu C p pb pl fH bk s').Sublist μ1) ?_ fun r μ1 ⟨e, em⟩ => ?_))
  · refine xe_or (xe_cm (xc_eq hr (xe_name (i := 1) rfl (xe_tupD (xa_cons (xe_str (xa_nil ⟨[.str "closed"], rfl, by decide, _, _, .d _, .d _, sh.ok (by decide), by decide +kernel, ?_⟩)))))))
    rw [stand_is_closed]
    refine ⟨_, rfl, fun h1 => ⟨by rw [h1]; rfl, .refl _⟩, fun h1 => ?_⟩
    rw [h1, Bool.false_or]
    refine xe_one (xe_and (xe_cm (xc_eq hr (xe_ix (xe_name (i := 1) rfl (xe_int ⟨_, 0, .d (.str (wStand (s'.e false) (s'.e true))), by rw [ed]; exact .tup _, rfl, atI_nat (j := 0) rfl, xe_str ⟨_, _, .d _, .d _, (sh_str (ok_wstand _ _)).ok (by decide), (sh_str (by decide +kernel : PyData.strOk "open" = true)).ok (by decide), ?_⟩⟩))))))
    rw [eqv_str, wstand_open]
    refine ⟨_, rfl, fun h2 => ?_, fun h2 => ⟨by rw [h2]; rfl, .refl _⟩⟩
    rw [h2, Bool.true_and]
    refine xe_one (xe_cm (xc_eq hr (xe_fld kl (xe_name (i := 0) rfl ⟨p, _, _, rfl, .tail _ (.tail _ (.head _)), fs_letters bk fH pb pl, ?_⟩))))
    refine xe_lst (xa_nil ⟨by simp, fun q0 => ⟨.list (s'.air.map eAir), .list [], ?_, .lst (.head _), ?_, rfl, ?_, .cons _ (.refl _)⟩⟩)
    · exact .lst (by rw [List.map_map]; exact .tail _ (.head _))
    · exact (sh_mapL fun l hl => sh_airL (fine.lt l hl)).ok (by decide)
    · rw [eqv_list0]
      cases s'.air <;> rfl
  · subst e
    exact ⟨_, em, q⟩
theorem sc_next : FnScope ["self", "who", "end"] ["self"] (defScope (cm 73 6)) := ⟨rfl, rfl, rfl, by decide +kernel, rfl, by decide +kernel, by decide +kernel⟩
theorem d_next (kl : Kls K C setFl) (gn : Gn K mg) (b_zip : mg "zip" = none) (F : FnM K "next_deed" "Setting.next_deed" (cm 73 6) f fd) {fS : Addr} (DS : Df P w K mg base k fS ["end"] sStandWord) (gS : mg "stand_word" = some (.ref fS)) : Df P w K mg base (k + 1) f ["self"] (sNext C fH) := by
  have nd := sc_next.nd
  refine df_by F sc_next (fun _ _ _ _ _ _ us hl => match us, hl with | [_], _ => rfl) (fun args μ Q ⟨_, _, _, _, _, e, _⟩ => by rw [e]; rfl) fun cdv A outer s H E hr F args μ Q h => ?_
  obtain ⟨p, pb, pl, bk, s', rfl, fine, rfl, q⟩ := h
  obtain ⟨aN, gN, rN, tN, sN⟩ := gn.names
  refine xs_cons (xs_if (xt_cm (xc_ne hr (xe_fld kl (xe_name (i := 0) rfl ⟨p, _, _, rfl, .tail _ (.tail _ (.head _)), fs_letters bk fH pb pl, xe_lst (xa_nil ⟨by simp, fun q0 => ⟨.list (s'.air.map eAir), .list [], ?_, .lst (.head _), ?_, rfl, ?_⟩⟩)⟩)))))
  · exact .lst (by rw [List.map_map]; exact .tail _ (.head _))
  · exact (sh_mapL fun l hl => sh_airL (fine.lt l hl)).ok (by decide)
  rw [eqv_list0]
  unfold nextDeeds at q
  refine ⟨fun h1 => ?_, fun h1 => xs_nil ?_⟩
  · have hne : s'.air ≠ [] := fun z => by
      rw [z] at h1
      cases h1
    rw [if_neg hne] at q
    refine xs_one (xs_ret (xe_lst (xa_cons (xe_tupD (xa_cons (xe_str (xa_cons (xe_int (xa_nil ⟨[.str "come", .int 0], rfl, by simp, xa_nil ⟨by simp, fun q1 => ?_⟩⟩)))))))))
    exact ⟨_, .cons_cons _ (.cons _ (.refl _)), q q1⟩
  · have he : s'.air = [] := by
      cases ha : s'.air with
      | nil => rfl
      | cons x r => rw [ha] at h1; cases h1
    rw [if_pos he] at q
    refine xs_one (xs_ret (xe_mapF [false, true] (fun i => .z [.d (.str (tNm i)), .d (eEnd (s'.e i))]) (fun i => .d (eDeed (.own .tck i))) (fun i => !(s'.e i).closed) nd (own := [("who", 1), ("end", 2)]) (by kernel_rfl) ?_))
    refine xi_zipS b_zip (xe_glob (v := .ref aN) rfl gN rfl rN (xe_fld kl (xe_name (i := 0) rfl ⟨p, _, _, rfl, .tail _ (.tail _ (.tail _ (.head _))), fs_both bk fH pb pl, ?_⟩)))
    refine ⟨_, pb, ne s', trivial, .tup _, rfl, .tail _ (.tail _ (.head _)), rfl, rfl, .tail _ (.tail _ (.head _)), by simp, fun i hi F' s H C cl fp => ?_, fun q1 => ?_⟩
    · refine xg_z (xgs_cons (xg_name (i := 1) (xgs_cons (xg_name (i := 2) (xgs_nil fun s H C cl fp => ?_) nd)) nd))
      refine xt_cm (xc_ne hr (xe_call DS hr gS (xa_cons (xe_name (i := 2) rfl (xa_nil ⟨[], _, .refl _, s'.e i, rfl, rfl, xe_str ⟨_, _, .d _, .d _, (sh_str (ok_stand _)).ok (by decide), (sh_str k_closed).ok (by decide), ?_, fun _ s H C cl fp => ?_, fun _ => .refl _⟩⟩)))))
      · rw [eqv_str, stand_closed]
      · exact xe_tupD (xa_cons (xe_str (xa_cons (xe_name (i := 1) rfl (xa_nil ⟨[.str "tick", .str (tNm i)], rfl, by simp, rfl, .refl _⟩)))))
    · refine ⟨_, .cons_cons _ (.cons _ (.refl _)), ?_⟩
      have := q q1
      rw [List.map_map] at this
      exact this
end
end Wk

/-! text Ds15 -/
/-! Code over data: a local name's op=. -/
namespace Ds
open PySem PySem.Spec PyProof.Rows L2
/-- x op= e, ints -/
theorem xs_aug {X : Cx} {F : Fm} {δ : De} {μ : Mu} {e : Expr} {x : Str} {pos pos' : Pos} {op : Operator} {g : Int → Int → Int} {i : Nat} {D : Dn} {n : Int} (ho : PIp X op (ipI g)) (hd : δ[i]? = some (some (.d (.int n)))) (h : XE X F δ μ e fun r μ1 => ∃ m, r = .d (.int m) ∧ D.nx (δ.set i (some (.d (.int (g n m))))) μ1)
    (hN : X.N.Nodup) (hi : X.N[i]? = some x := by rfl) (hx : Loc X.env.scope x := by first | exact Or.inl rfl | exact Or.inr rfl) (hf : X.fn x = true ∨ X.env.scope.names.lookup x = some .local := by first | exact .inl rfl | exact .inr rfl) : XS X F δ μ (.AugAssign (.Name x pos') op e pos) D := fun σ H lo ow fk => by
  obtain ⟨v, e1, r1⟩ := lo.at_ i _ hd
  cases r1 with
  | d r1 =>
    cases r1
    refine ws_of (ps_aug (i := i) hN hi hx pe_w ho hf) ⟨_, e1, h.run lo ow fk fun y H1 r μ1 t1 lo1 r2 ow1 fk1 ⟨m, e2, q⟩ => ?_⟩
    subst e2
    cases r2 with
    | d r2 =>
      cases r2
      exact ⟨n, m, rfl, rfl, t1, _, μ1, lo1.set (.d (.int _)) i, ow1, fk1, q⟩
end Ds

/-! text Wk20 -/
/-! The walk: Wire: made, laid out, do. -/
namespace Wk
open PySem PySem.Spec PyProof.Rows L2 Ds Cw
def eNow (s : WS) : PyData := .tuple [.tuple [eEnd (s.e false), eEnd (s.e true)], .tuple (s.air.map eAir)]
def fWire (bk : Bool → Book) (pp ps : Addr) (s : WS) (busy : Bool) : List (Str × Rv) := [("pair", .d (eBooks bk)), ("most_tries", .d (.int 3)), ("now", .d (eNow s)), ("past", .r (.ref pp)), ("said", .r (.ref ps)), ("busy", .d (.bool busy))]
def oPast (l : List WS) : Ob := .lst (l.map fun s => .d (eNow s))
def oSaid (l : List Deed) : Ob := .lst (l.map fun d => .d (eDeed d))
def WireMu (C p pp ps : Addr) (bk : Bool → Book) (s : WS) (past : List WS) (said : List Deed) : Mu := [(ps, oSaid said), (pp, oPast past), (p, .ins C (fWire bk pp ps s false))]
def wireFl : List Str := ["pair", "most_tries", "now", "past", "said", "busy"]
theorem wp1 (a b : Rv) : fput "most_tries" b ([("pair", a)] : List (Str × Rv)) = ([("pair", a), ("most_tries", b)] : List (Str × Rv)) := by kernel_rfl
theorem wp2 (a b c : Rv) : fput "now" c ([("pair", a), ("most_tries", b)] : List (Str × Rv)) = ([("pair", a), ("most_tries", b), ("now", c)] : List (Str × Rv)) := by kernel_rfl
theorem wp3 (a b c d : Rv) : fput "past" d ([("pair", a), ("most_tries", b), ("now", c)] : List (Str × Rv)) = ([("pair", a), ("most_tries", b), ("now", c), ("past", d)] : List (Str × Rv)) := by kernel_rfl
theorem wp4 (a b c d e : Rv) : fput "said" e ([("pair", a), ("most_tries", b), ("now", c), ("past", d)] : List (Str × Rv)) = ([("pair", a), ("most_tries", b), ("now", c), ("past", d), ("said", e)] : List (Str × Rv)) := by kernel_rfl
theorem wp5 (a b c d e g : Rv) : fput "busy" g ([("pair", a), ("most_tries", b), ("now", c), ("past", d), ("said", e)] : List (Str × Rv)) = ([("pair", a), ("most_tries", b), ("now", c), ("past", d), ("said", e), ("busy", g)] : List (Str × Rv)) := by kernel_rfl
section
variable (bk : Bool → Book) (pp ps : Addr) (s : WS) (b : Bool)
theorem fw_pair : (fWire bk pp ps s b).lookup ("pair" : Str) = some (.d (eBooks bk) : Rv) := by kernel_rfl
theorem fw_tries : (fWire bk pp ps s b).lookup ("most_tries" : Str) = some (.d (.int 3) : Rv) := by kernel_rfl
theorem fw_now : (fWire bk pp ps s b).lookup ("now" : Str) = some (.d (eNow s) : Rv) := by kernel_rfl
theorem fw_past : (fWire bk pp ps s b).lookup ("past" : Str) = some (.r (.ref pp) : Rv) := by kernel_rfl
theorem fw_said : (fWire bk pp ps s b).lookup ("said" : Str) = some (.r (.ref ps) : Rv) := by kernel_rfl
theorem fw_do : (fWire bk pp ps s b).lookup ("do" : Str) = none := by kernel_rfl
theorem fw_laid : (fWire bk pp ps s b).lookup ("laid_out" : Str) = none := by kernel_rfl
theorem fw_settle : (fWire bk pp ps s b).lookup ("settle" : Str) = none := by kernel_rfl
theorem fw_ends : (fWire bk pp ps s b).lookup ("ends" : Str) = none := by kernel_rfl
theorem fw_air : (fWire bk pp ps s b).lookup ("air" : Str) = none := by kernel_rfl
theorem fw_deeds : (fWire bk pp ps s b).lookup ("deeds" : Str) = none := by kernel_rfl
theorem fw_stands : (fWire bk pp ps s b).lookup ("stands" : Str) = none := by kernel_rfl
theorem fw_saved : (fWire bk pp ps s b).lookup ("saved" : Str) = none := by kernel_rfl
theorem fw_twin : (fWire bk pp ps s b).lookup ("twin" : Str) = none := by kernel_rfl
theorem fw_busy (c : Bool) : fput "busy" (.d (.bool c)) (fWire bk pp ps s b) = fWire bk pp ps s c := by kernel_rfl
theorem fw_setNow (z : WS) : fput "now" (.d (eNow z)) (fWire bk pp ps s b) = fWire bk pp ps z b := by kernel_rfl
theorem fw_setPast (z : Addr) : fput "past" (.r (.ref z)) (fWire bk pp ps s b) = fWire bk z ps s b := by kernel_rfl
theorem fw_setSaid (z : Addr) : fput "said" (.r (.ref z)) (fWire bk pp ps s b) = fWire bk pp z s b := by kernel_rfl
end
def sWireInit (C : Addr) : Sc := fun args μ Q => ∃ (p : Addr) (bk : Bool → Book), args = [.r (.ref p), .d (eBook (bk false)), .d (eBook (bk true)), .d (.int 3)] ∧ μ = [(p, .ins C [])] ∧ ∀ pp ps, Q (.d .none) (WireMu C p pp ps bk (start bk) [] [])
def sLaidOut (C CS fH : Addr) : Sc := fun args μ Q => ∃ (p pp ps : Addr) (bk : Bool → Book) (s : WS) (b : Bool), args = [.r (.ref p)] ∧ μ = [(p, .ins C (fWire bk pp ps s b))] ∧ ∀ q pb pl, Q (.r (.ref q)) (SetMu CS q pb pl fH bk s ++ [(p, .ins C (fWire bk pp ps s b))])
def sWireDo (C : Addr) : Sc := fun args μ Q => ∃ (p pp ps : Addr) (bk : Bool → Book) (s : WS) (past : List WS) (said : List Deed) (d : Deed), args = [.r (.ref p), .d (eDeed d)] ∧ Fine bk s ∧ s.air.length ≤ 50000 ∧ Can s d ∧ (act bk s d).air.length ≤ 50000 ∧ past.length ≤ 50000 ∧ said.length ≤ 50000 ∧
  μ = WireMu C p pp ps bk s past said ∧ ∀ r, Q r (WireMu C p pp ps bk (act bk s d) (past ++ [s]) (said ++ [d]))
section
variable {P : Program} {w : World} {K : PySem.W.Frag} {mg : Str → Option Value} {base : Heap} {f C CS fH : Addr} {fd : FuncData} {k : Nat} {kws : List (Str × V)}
theorem sc_wire_init : FnScope ["self", "one", "other", "tries"] ["self", "one", "other", "tries"] (defScope (cm 74 0)) := ⟨rfl, rfl, rfl, by decide +kernel, rfl, by decide +kernel, by decide +kernel⟩
theorem f_wire_init (kl : Kls K C wireFl) (gn : Gn K mg) (F : FunD K "__init__" "Wire.__init__" (defArgs (cm 74 0)) (defBody (cm 74 0)) (defScope (cm 74 0)) [] kws f fd) {fN : Addr} (DN : Df P w K mg base k fN ["name", "wishes"] sNewEnd) (gN' : mg "new_end" = some (.ref fN)) :
    FnOk P w K mg base CX0 (k + 1) f fd ["self", "one", "other", "tries"] (spOf K (sWireInit C)) := by
  have nd := sc_wire_init.nd
  refine fn_by F sc_wire_init (fun args μ Q ⟨_, _, e, _⟩ => by rw [e]; rfl) fun cdv A outer s H E hr F args μ Q h => ?_
  obtain ⟨p, bk, rfl, rfl, q⟩ := h
  obtain ⟨aN, gN, rN, tN, sN⟩ := gn.names
  refine xs_cons (xs_fld kl (xe_tupD (xa_cons (xe_name (i := 1) rfl (xa_cons (xe_name (i := 2) rfl (xa_nil ⟨[eBook (bk false), eBook (bk true)], rfl, by simp, xe_name (i := 0) rfl ⟨p, [], _, rfl, by simp, .here, ?_⟩⟩)))))))
  refine xs_cons (xs_fld kl (xe_name (i := 3) rfl (xe_name (i := 0) rfl ⟨p, [("pair", .d (eBooks bk))], _, rfl, by simp, .here, ?_⟩)))
  rw [wp1]
  refine xs_cons (xs_fld kl (xe_tupD (xa_cons (xe_tupD (xa_cons ?_)))))
  refine xe_call DN hr gN' (xa_cons (xe_ix (xe_glob (v := .ref aN) rfl gN rfl rN (xe_int ⟨_, 0, .d (.str (tNm false)), .tup _, rfl, rfl, xa_cons (xe_ix (xe_name (i := 1) rfl (xe_int ⟨_, 0, .d (eWishes (bk false).wishes), .tup _, rfl, rfl, xa_nil ⟨[], _, .refl _, false, (bk false).wishes, rfl, rfl, ?_⟩⟩)))⟩))))
  refine xa_cons (xe_call DN hr gN' (xa_cons (xe_ix (xe_glob (v := .ref aN) rfl gN rfl rN (xe_int ⟨_, 1, .d (.str (tNm true)), .tup _, rfl, rfl, xa_cons (xe_ix (xe_name (i := 2) rfl (xe_int ⟨_, 0, .d (eWishes (bk true).wishes), .tup _, rfl, rfl, xa_nil ⟨[], _, .refl _, true, (bk true).wishes, rfl, rfl, ?_⟩⟩)))⟩)))))
  refine xa_nil ⟨[eEnd ((start bk).e false), eEnd ((start bk).e true)], rfl, by simp, xa_cons (xe_tupD (xa_nil ⟨[], rfl, by simp, xa_nil ?_⟩))⟩
  refine ⟨[.tuple [eEnd ((start bk).e false), eEnd ((start bk).e true)], .tuple []], rfl, by simp, xe_name (i := 0) rfl ⟨p, _, _, rfl, by simp, .here, ?_⟩⟩
  rw [wp2]
  refine xs_cons (xs_fld kl (xe_lst (xa_nil ⟨by simp, fun pp => xe_name (i := 0) rfl ⟨p, _, _, rfl, by simp, .there .here, ?_⟩⟩)))
  rw [wp3]
  refine xs_cons (xs_fld kl (xe_lst (xa_nil ⟨by simp, fun ps => xe_name (i := 0) rfl ⟨p, _, _, rfl, by simp, .there (.there .here), ?_⟩⟩)))
  rw [wp4]
  refine xs_one (xs_fld kl (xe_bl (xe_name (i := 0) rfl ⟨p, _, _, rfl, by simp, .there (.there .here), ?_⟩)))
  rw [wp5]
  exact ⟨_, .refl _, q pp ps⟩
theorem sc_laid_out : FnScope ["self", "ends", "letters"] ["self"] (defScope (cm 74 1)) := ⟨rfl, rfl, rfl, by decide +kernel, rfl, by decide +kernel, by decide +kernel⟩
theorem d_laid_out (kl : Kls K C wireFl) (F : FnM K "laid_out" "Wire.laid_out" (cm 74 1) f fd) {fI : Addr} (DI : Df P w K mg base k fI ["self", "books", "many", "ends", "letters"] (sSetInit CS fH)) (M : Mk K CS fI) (gS : mg "Setting" = some (.ref CS)) :
    Df P w K mg base (k + 2) f ["self"] (sLaidOut C CS fH) := by
  have nd := sc_laid_out.nd
  refine df_by F sc_laid_out (fun _ _ _ _ _ _ us hl => match us, hl with | [_], _ => rfl) (fun args μ Q ⟨_, _, _, _, _, _, e, _⟩ => by rw [e]; rfl) fun cdv A outer s H E hr F args μ Q h => ?_
  obtain ⟨p, pp, ps, bk, s', b, rfl, rfl, q⟩ := h
  refine xs_cons (xs_asg [1, 2] (xe_fld kl (xe_name (i := 0) rfl ⟨p, _, _, rfl, .head _, fw_now bk pp ps s' b, ?_⟩)))
  refine xg_tupD (xgs_cons (xg_name (i := 1) (xgs_cons (xg_name (i := 2) (xgs_nil ?_) nd)) nd))
  refine xs_one (xs_ret (xe_make DI M hr gS ?_))
  refine xa_cons (xe_fld kl (xe_name (i := 0) rfl ⟨p, _, _, rfl, .head _, fw_pair bk pp ps s' b, ?_⟩))
  refine xa_cons (xe_fld kl (xe_name (i := 0) rfl ⟨p, _, _, rfl, .head _, fw_tries bk pp ps s' b, ?_⟩))
  refine xa_cons (xe_name (i := 1) rfl (xa_cons (xe_name (i := 2) rfl (xa_nil fun q0 => ?_))))
  refine ⟨[(q0, .ins CS [])], [(p, .ins C (fWire bk pp ps s' b))], .refl _, q0, bk, s', rfl, rfl, fun pb pl => ⟨rfl, _, .refl _, q q0 pb pl⟩⟩
theorem sc_wire_do : FnScope ["self", "deed", "setting", "elder", "letters", "pairs", "old", "end"] ["self", "deed"] (defScope (cm 74 2)) := ⟨rfl, rfl, rfl, by decide +kernel, rfl, by decide +kernel, by decide +kernel⟩
theorem d_wire_do (kl : Kls K C wireFl) (kls : Kls K CS setFl) (F : FnM K "do" "Wire.do" (cm 74 2) f fd) {fL : Addr} (DL : Df P w K mg base k fL ["self"] (sLaidOut C CS fH)) (mL : Meth K C "laid_out" fL) {fD : Addr} (DD : Df P w K mg base k fD ["self", "deed"] (sSetDo CS fH)) (mD : Meth K CS "do" fD)
    {fS : Addr} (DS : Df P w K mg base k fS ["end"] sStandWord) (gS : mg "stand_word" = some (.ref fS)) (b_tuple : mg "tuple" = none) (b_list : mg "list" = none) (b_zip : mg "zip" = none) : Df P w K mg base (k + 1) f ["self", "deed"] (sWireDo C) := by
  have nd := sc_wire_do.nd
  refine df_by F sc_wire_do (fun _ _ _ _ _ _ us hl => match us, hl with | [_, _], _ => rfl) (fun args μ Q ⟨_, _, _, _, _, _, _, _, e, _⟩ => by rw [e]; rfl) fun cdv A outer s H E hr F args μ Q h => ?_
  obtain ⟨p, pp, ps, bk, s', past, said, d, rfl, fine, h1, can, h2, h3, h4, rfl, q⟩ := h
  refine xs_cons (xs_fld kl (xe_bl (xe_name (i := 0) rfl ⟨p, _, _, rfl, by simp [fWire], .there (.there .here), ?_⟩)))
  rw [fw_busy]
  refine xs_one (xs_fin ?_)
  -- setting
  refine xb_cons (xs_set (i := 2) (xe_meth0 DL kl mL hr (xe_name (i := 0) rfl ⟨p, _, rfl, .tail _ (.tail _ (.head _)), fw_laid bk pp ps s' true, [(p, .ins C (fWire bk pp ps s' true))], [(ps, oSaid said), (pp, oPast past)], ?_, p, pp, ps, bk, s', true, rfl, rfl, fun q0 pb pl => ?_⟩)) nd)
  · exact List.perm_append_comm (l₁ := [(ps, oSaid said), (pp, oPast past)]) (l₂ := [(p, Ob.ins C (fWire bk pp ps s' true))])
  -- the deed
  refine xb_cons (xs_expr (xe_meth DD kls mD hr (xe_name (i := 2) rfl ⟨q0, _, rfl, .tail _ (.tail _ (.head _)), fs_do bk fH pb pl, xa_cons (xe_name (i := 1) rfl (xa_nil ?_))⟩)))
  refine ⟨SetMu CS q0 pb pl fH bk s', _, .refl _, q0, pb, pl, bk, s', d, rfl, fine, h1, can, rfl, ?_⟩
  -- elder, letters
  refine xb_cons (xs_asg [3, 4] (xe_fld kl (xe_name (i := 0) rfl ⟨p, _, _, rfl, .tail _ (.tail _ (.tail _ (.head _))), fw_now bk pp ps s' true, ?_⟩)))
  refine xg_tupD (xgs_cons (xg_name (i := 3) (xgs_cons (xg_name (i := 4) (xgs_nil ?_) nd)) nd))
  -- past
  refine xb_cons (xs_expr (xe_append (xe_fld kl (xe_name (i := 0) rfl ⟨p, _, _, rfl, .tail _ (.tail _ (.tail _ (.head _))), fw_past bk pp ps s' true, pp, _, rfl, .tail _ (.tail _ (.tail _ (.tail _ (.tail _ (.head _))))), ?_⟩))))
  refine xe_fld kl (xe_name (i := 0) rfl ⟨p, _, _, rfl, .tail _ (.tail _ (.tail _ (.head _))), fw_now bk pp ps s' true, _, _, ?_, .there (.there (.there (.there (.there .here)))), ?_⟩)
  · rw [List.length_map]
    omega
  -- said
  refine xb_cons (xs_expr (xe_append (xe_fld kl (xe_name (i := 0) rfl ⟨p, _, _, rfl, .tail _ (.tail _ (.tail _ (.head _))), fw_said bk pp ps s' true, ps, _, rfl, .tail _ (.tail _ (.tail _ (.tail _ (.head _)))), ?_⟩))))
  refine xe_name (i := 1) rfl ⟨_, _, ?_, .there (.there (.there (.there .here))), ?_⟩
  · rw [List.length_map]
    omega
  generalize hz : act bk s' d = z at q h2 ⊢
  -- now
  refine xb_cons (xs_fld kl (xe_tupD (xa_cons (xe_tupleD b_tuple (xa_cons (xe_fld kls (xe_name (i := 2) rfl ⟨q0, _, _, rfl, .tail _ (.tail _ (.head _)), fs_both bk fH pb pl, xa_nil ⟨pb, [eEnd (z.e false), eEnd (z.e true)], rfl, .tail _ (.head _), ?_⟩⟩)))))))
  refine xa_cons (xe_tupleD b_tuple (xa_cons (xe_fld kls (xe_name (i := 2) rfl ⟨q0, _, _, rfl, .tail _ (.tail _ (.head _)), fs_letters bk fH pb pl, xa_nil ⟨pl, z.air.map eAir, rfl, ?_, xa_nil ?_⟩⟩))))
  · rw [List.map_map]
    exact .head _
  refine ⟨[.tuple [eEnd (z.e false), eEnd (z.e true)], .tuple (z.air.map eAir)], rfl, by simp, xe_name (i := 0) rfl ⟨p, _, _, rfl, by simp [fWire], .there (.there (.there .here)), ?_⟩⟩
  have hnow := fw_setNow bk pp ps s' true z
  unfold eNow at hnow
  rw [hnow]
  -- pairs
  refine xb_cons (xs_set (i := 5) (xe_listZip b_list b_zip (xe_name (i := 3) rfl (xe_fld kls (xe_name (i := 2) rfl ⟨q0, _, _, rfl, .tail _ (.tail _ (.head _)), fs_both bk fH pb pl, _, ne z, trivial, .tup _, .lst (.tail _ (.head _)), rfl, by simp, fun p5 => ?_⟩)))) nd)
  refine xb_ret (xe_mapF [false, true] (fun i => .z [.d (eEnd (s'.e i)), .d (eEnd (z.e i))]) (fun i => .d (.tuple [.str (tNm (z.e i).name), .str (tStand (z.e i))])) (fun i => !decide (tStand (s'.e i) = tStand (z.e i))) nd (own := [("old", 6), ("end", 7)]) (by kernel_rfl) ?_)
  refine xi_lst (xe_name (i := 5) rfl ⟨p5, _, rfl, .head _, rfl, .head _, by simp, fun i hi F' s H C cl fp => ?_, fun p6 => ?_⟩)
  · refine xg_z (xgs_cons (xg_name (i := 6) (xgs_cons (xg_name (i := 7) (xgs_nil fun s H C cl fp => ?_) nd)) nd))
    refine xt_cm (xc_ne hr (xe_call DS hr gS (xa_cons (xe_name (i := 6) rfl (xa_nil ⟨[], _, .refl _, s'.e i, rfl, rfl, ?_⟩)))))
    refine xe_call DS hr gS (xa_cons (xe_name (i := 7) rfl (xa_nil ⟨[], _, .refl _, z.e i, rfl, rfl, _, _, .d _, .d _, (sh_str (ok_stand _)).ok (by decide), (sh_str (ok_stand _)).ok (by decide), ?_, fun _ s H C cl fp => ?_, fun _ => .refl _⟩)))
    · rw [eqv_str]
    · refine xe_tupD (xa_cons (xe_ix (xe_name (i := 7) rfl (xe_int ⟨_, 0, .d (.str (tNm (z.e i).name)), .tup _, rfl, rfl, ?_⟩))))
      refine xa_cons (xe_call DS hr gS (xa_cons (xe_name (i := 7) rfl (xa_nil ⟨[], _, .refl _, z.e i, rfl, rfl, xa_nil ?_⟩))))
      exact ⟨[.str (tNm (z.e i).name), .str (tStand (z.e i))], rfl, by simp, rfl, .refl _⟩
  · refine XSs.at_ (.cons _ (.cons _ (.cons _ (.cons _ (.cons _ (.refl _)))))) ?_
    refine XSs.pm (List.perm_append_comm (l₁ := [_]) (l₂ := [_, _])) ?_
    refine xs_one (xs_fld kl (xe_bl (xe_name (i := 0) rfl ⟨p, _, _, rfl, by simp [fWire], .there (.there .here), ?_⟩)))
    rw [fw_busy]
    refine ⟨_, .refl _, ?_⟩
    have := q (.r (.ref p6))
    unfold WireMu oPast oSaid at this
    rw [List.map_append, List.map_append] at this
    exact this
end
end Wk

/-! text Ds16 -/
/-! Code over data: == by an own __eq__; isinstance of an own class; walking tests over fewer objects. -/
namespace Ds
open PySem PySem.Spec PyProof.Rows L2
/-- x == y by the class's own def -/
def rEqO (K : PySem.W.Frag) (C : Addr) (S : Sc) : R2 := fun x y H Q => ∃ a b dx dy fs gs, x = .ref a ∧ y = .ref b ∧ H a = some (.ins C dx fs) ∧ H b = some (.ins C dy gs) ∧ spOf K S [.ref a, .ref b] H (fun v H' => ∃ k, v = .bl k ∧ Q v H') E0
section
variable {X : Cx} {F : Fm} {δ : De} {μ : Mu} {k : Nat} {C f : Addr} {fd : FuncData} {ps fl : List Str} {S : Sc} {a b e : Expr} {p p2 pos : Pos}
theorem op_eqO (G : FnOk X.prog X.w X.K X.mg X.base CX0 k f fd ps (spOf X.K S)) (hs : PySem.W.findIn X.K (.ref C) "__eq__" = some (some (.ref f))) (hf : PySem.W.isFn X.K (.ref f) = true) (hb : Binds X.K fd ps []) (hr : Room k X.A) : OpR X (compareOp .Eq) (rEqO X.K C S) := by
  intro pins s σ H x y v u Q I rx ry h
  obtain ⟨a, b, dx, dy, fs, gs, rfl, rfl, ha, hb', sp⟩ := h
  cases rx
  cases ry
  obtain ⟨mA, J, _⟩ := ins_get I.hok ha
  obtain ⟨mB, J', _⟩ := ins_get I.hok hb'
  obtain ⟨od, J, _⟩ := J.look
  obtain ⟨od', J', _⟩ := J'.look
  obtain ⟨m, hF⟩ := I.fr
  show wpAny (model X.prog X.w) X.A (richCompare .Eq (.ref a) (.ref b)) (EP X pins σ Q) X.xe s
  refine PySem.W.cmp_K (op := .Eq) (tb := .ref C) hr.units0 hF I.ok.mod.kin J J'.type (by simp [PySem.W.notFirst]) hs hf ?_
  refine thn (run_fn (us := [.ref a, .ref b]) (vs := [.ref a, .ref b]) G hr hb .nil pass0 I (.cons rfl (.cons rfl .nil)) sp) fun u s' ⟨v, H', I', r, kk, e, q⟩ => ?_
  subst e
  cases r
  exact ⟨.bl kk, H', I', rfl, q⟩
theorem rEqO_mono {K : PySem.W.Frag} : ∀ x y H (Q Q' : VK), (∀ v H', Q v H' → Q' v H') → rEqO K C S x y H Q → rEqO K C S x y H Q' := fun x y H Q Q' hm ⟨a, b, dx, dy, fs, gs, h1, h2, h3, h4, sp⟩ =>
  ⟨a, b, dx, dy, fs, gs, h1, h2, h3, h4, sp.mono fun v H' ⟨kk, e, q⟩ => ⟨kk, e, hm _ _ q⟩⟩
/-- a == b of instances of C -/
theorem xc_eqO {Q : Bool → Mu → Prop} (G : Df X.prog X.w X.K X.mg X.base k f ps S) (hs : PySem.W.findIn X.K (.ref C) "__eq__" = some (some (.ref f))) (hf : PySem.W.isFn X.K (.ref f) = true) (hr : Room k X.A)
    (h : XE X F δ μ a fun ra μ1 => XE X F δ μ1 b fun rb μ2 => ∃ x y fs gs, ra = .r (.ref x) ∧ rb = .r (.ref y) ∧ (x, Ob.ins C fs) ∈ μ2 ∧ (y, Ob.ins C gs) ∈ μ2 ∧ ∃ μa μr, μ2.Perm (μa ++ μr) ∧ S [.r (.ref x), .r (.ref y)] μa fun r μb => ∃ k, r = .d (.bool k) ∧ Q k (μb ++ μr)) : XC X F δ μ .Eq a b Q := by
  obtain ⟨fd, G, bb, kp⟩ := G.ex
  refine xc_op (op_eqO G hs hf bb hr) rEqO_mono (h.mono fun ra μ1 h => h.mono fun rb μ2 ⟨x, y, fs, gs, e1, e2, h1, h2, μa, μr, pm, q⟩ => ?_)
  subst e1 e2
  intro vx vy H rx ry ow fk
  cases rx
  cases ry
  obtain ⟨dx, fv, g1, _⟩ := ow _ h1
  obtain ⟨dy, gv, g2, _⟩ := ow _ h2
  refine ⟨x, y, dx, dy, fv, gv, rfl, rfl, g1, g2, ?_⟩
  refine (sp_call (E := E0) (Q := fun r μ' => ∃ k, r = .d (.bool k) ∧ Q k μ') ow fk pm (.cons (.r _) (.cons (.r _) .nil)) q).mono fun v H' ⟨t, r, μ', hv, w, f', kk, e, q⟩ => ?_
  subst e
  have hv' := hv
  cases hv with
  | d hv => cases hv; exact ⟨kk, rfl, t, _, μ', hv', w, f', kk, rfl, q⟩
/-- what the text says of a class for isinstance -/
structure ClsI (K : PySem.W.Frag) (C : Addr) : Prop where
  cl : Cls K C
  ha : PySem.W.findIn K (.ref C) "__class__" = some (some (.builtin "object.__class__"))
  hn : PySem.W.specialIn K (.builtin "object.__class__") "__get__" = some (some (.builtin "getset_descriptor.__get__"))
  htk : PySem.W.takesIn K (.builtin "object.__class__") = some true
  hm : PySem.W.mroIn K C (.type "object") = some true
  kit : PySem.W.kitOne K (.ref C) (.ref C) = some true
theorem call_isO (c : ClsI X.K C) : CallR X (.builtin "isinstance") (fun xs H Q => ∃ a dx fs, xs = [.ref a, .ref C] ∧ H a = some (.ins C dx fs) ∧ Q (.bl true) H) := by
  intro pins s σ H vs us Q I r h
  obtain ⟨a, dx, fs, rfl, ha, q⟩ := h
  cases r with
  | cons r1 r2 =>
    cases r2 with
    | cons r2 r3 =>
      cases r3
      cases r1
      cases r2
      exact isinst_ok (x := .ref a) I rfl (.ins ha c.cl c.ha c.hn c.htk c.hm) c.kit fun tk => ⟨.bl true, H, I.tok tk, rfl, q⟩
/-- isinstance(e, C), C an own class -/
theorem xe_isO {n : Str} {Q : Rv → Mu → Prop} (c : ClsI X.K C) (hm : X.mg "isinstance" = none) (hC : X.mg n = some (.ref C)) (h : XE X F δ μ e fun ra μ1 => ∃ x fs, ra = .r (.ref x) ∧ (x, Ob.ins C fs) ∈ μ1 ∧ Q (.d (.bool true)) μ1) (hg : Gl X "isinstance" := by rfl) (hg2 : Gl X n := by rfl)
    (h1 : (n == ("__debug__" : Str)) = false := by decide)
    (he : starEach [e, .Name n p2] X.env = (false, eval e X.env) :: starEach [.Name n p2] X.env := by rfl) (he2 : starEach [.Name n p2] X.env = (false, eval (.Name n p2) X.env) :: starEach [] X.env := by rfl) (hpl : (backTo pos (starEach [.Name n p2] X.env)).any (·.1) = false := by rfl) : XE X F δ μ (.Call (.Name "isinstance" p) [e, .Name n p2] [] pos) Q :=
  xe_callB (call_isO c) (fun _ _ _ _ k ⟨a, dx, fs, e, h, q⟩ => ⟨a, dx, fs, e, h, k _ _ q⟩) hm PyProof.Rows.boot_isinstance (xa_cons (h.mono fun ra μ1 ⟨x, fs, e1, hi, q⟩ => xa_cons (xe_glob (v := .ref C) hg2 hC rfl (fun H => .r _) (xa_nil fun vs H hv w f => by
    subst e1
    cases hv with
    | cons g1 g2 =>
      cases g2 with
      | cons g2 g3 =>
        cases g3
        cases g1
        cases g2
        obtain ⟨dx, fv, i1, _⟩ := w _ hi
        exact ⟨x, dx, fv, rfl, i1, pe_fin (.d (.bl _)) w f q⟩) h1) he2) he) hg (by decide) (by decide) he hpl
theorem XT.at_ {Q : Bool → Mu → Prop} {μ' : Mu} (s : μ'.Sublist μ) (h : XT X F δ μ' e Q) : XT X F δ μ e Q := fun σ H lo ow fk => h σ H lo (ow.sub s) (fk.sub s)
theorem XT.pm {Q : Bool → Mu → Prop} {μ' : Mu} (s : μ.Perm μ') (h : XT X F δ μ' e Q) : XT X F δ μ e Q := fun σ H lo ow fk => h σ H lo (ow.perm s) (fk.perm s)
/-- μ0 stands in μ, in any order -/
def Hs (μ0 μ : Mu) : Prop := ∃ μ1 : Mu, μ1.Sublist μ ∧ μ1.Perm μ0
theorem Hs.refl (μ : Mu) : Hs μ μ := ⟨μ, .refl _, .refl _⟩
theorem Hs.mem {μ0 μ : Mu} (h : Hs μ0 μ) {q : Addr × Ob} (hq : q ∈ μ0) : q ∈ μ := let ⟨μ1, s, p⟩ := h; s.subset (p.mem_iff.mpr hq)
theorem Hs.sub {μ0 μ μ' : Mu} (h : Hs μ0 μ) (s : μ.Sublist μ') : Hs μ0 μ' := let ⟨μ1, s1, p⟩ := h; ⟨μ1, s1.trans s, p⟩
theorem Hs.perm {μ0 μ μ' : Mu} (h : Hs μ0 μ) (p : μ0.Perm μ') : Hs μ' μ := let ⟨μ1, s1, p1⟩ := h; ⟨μ1, s1, p1.trans p⟩
theorem Hs.less {μ0 μ μ' : Mu} (h : Hs μ0 μ) (s : μ'.Sublist μ0) : Hs μ' μ := let ⟨μ1, s1, p1⟩ := h; let ⟨l, p2, s2⟩ := List.exists_perm_sublist s p1.symm; ⟨l, s2.trans s1, p2⟩
theorem Hs.right {μ0 μ : Mu} (μ' : Mu) (h : Hs μ0 μ) : Hs μ0 (μ' ++ μ) := h.sub (List.sublist_append_right _ _)
theorem Hs.left {μ0 μ : Mu} (μ' : Mu) (h : Hs μ0 μ) : Hs μ0 (μ ++ μ') := h.sub (List.sublist_append_left _ _)
theorem XSs.hs {μ0 : Mu} {sts : List Stmt} {D : Dn} (s : Hs μ0 μ) (h : XSs X F δ μ0 sts D) : XSs X F δ μ sts D := let ⟨μ1, s1, p⟩ := s; XSs.at_ s1 fun σ H lo ow fk => h σ H lo (ow.perm p) (fk.perm p)
theorem XT.hs {μ0 : Mu} {Q : Bool → Mu → Prop} (s : Hs μ0 μ) (h : XT X F δ μ0 e Q) : XT X F δ μ e Q := let ⟨μ1, s1, p⟩ := s; XT.at_ s1 (XT.pm p h)
theorem XE.hs {μ0 : Mu} {Q : Rv → Mu → Prop} (s : Hs μ0 μ) (h : XE X F δ μ0 e Q) : XE X F δ μ e Q := let ⟨μ1, s1, p⟩ := s; XE.at_ s1 fun σ H lo ow fk => h σ H lo (ow.perm p) (fk.perm p)
end
end Ds

/-! text Wk21 -/
/-! The walk: Wire: settle. -/
namespace Wk
open PySem PySem.Spec PyProof.Rows L2 Ds Cw
/-- what stays while a wire is settled -/
structure Keeps (bk : Bool → Book) (K : WS → Prop) : Prop where
  fine : ∀ s, K s → Fine bk s
  come : ∀ s l r, K s → s.air = l :: r → K (comes bk s l r)
  tick : ∀ s i, K s → K (ticks s i)
def acts (bk : Bool → Book) (s : WS) (ds : List Deed) : WS := ds.foldl (act bk) s
/-- the deeds by which it settles -/
def dd (bk : Bool → Book) : Nat → WS → List Deed
  | 0, _ => []
  | k + 1, s => nextDeeds s ++ dd bk k (comeTo bk s)
def isCome : Deed → Bool
  | .air .come _ => true
  | _ => false
def cameIn (ds : List Deed) : Nat := (ds.filter isCome).length
theorem acts_next (bk : Bool → Book) (s : WS) : acts bk s (nextDeeds s) = comeTo bk s := by
  unfold nextDeeds comeTo
  cases ha : s.air with
  | nil =>
    rw [if_pos rfl]
    unfold round
    cases h0 : (s.e false).closed <;> cases h1 : (s.e true).closed <;> simp [h0, h1, acts, act]
  | cons l r =>
    rw [if_neg (by simp)]
    simp [acts, act, ha]
theorem next_came (s : WS) : cameIn (nextDeeds s) = if s.air = [] then 0 else 1 := by
  unfold nextDeeds
  by_cases ha : s.air = []
  · rw [if_pos ha, if_pos ha]
    cases h0 : (s.e false).closed <;> cases h1 : (s.e true).closed <;> simp [h0, h1, cameIn, isCome]
  · rw [if_neg ha, if_neg ha]
    rfl
theorem next_len (s : WS) : (nextDeeds s).length ≤ 2 := by
  unfold nextDeeds
  split
  · rw [List.length_map]
    exact List.length_filter_le _ _
  · exact Nat.le_succ 1
/-- each of the next deeds, where it is done -/
theorem next_at {bk : Bool → Book} {K : WS → Prop} (hK : Keeps bk K) {s : WS} (k : K s) {i : Nat} {d : Deed} (hd : (nextDeeds s)[i]? = some d) (z : WS) (hz : z = acts bk s ((nextDeeds s).take i)) (kz : K z) : Can z d ∧ K (act bk z d) ∧ (act bk z d).air.length ≤ z.air.length + 2 := by
  unfold nextDeeds at hd hz
  by_cases ha : s.air = []
  · rw [if_pos ha] at hd
    obtain ⟨j, hj, rfl⟩ : ∃ j, j ∈ [false, true] ∧ d = .own .tck j := by
      have := List.mem_of_getElem? hd
      obtain ⟨j, hj, e⟩ := List.mem_map.mp this
      exact ⟨j, (List.mem_filter.mp hj).1, e.symm⟩
    refine ⟨trivial, hK.tick z j kz, ?_⟩
    show (z.air ++ (ticked (z.e j)).2).length ≤ _
    rw [List.length_append]
    have := ticked_len (z.e j)
    omega
  · rw [if_neg ha] at hd hz
    have hi : i = 0 := by
      have := (List.getElem?_eq_some_iff.mp hd).1
      simp at this
      exact this
    subst hi
    have e : d = .air .come 0 := by simpa using hd.symm
    have ez : z = s := hz
    subst e ez
    cases hz2 : z.air with
    | nil => exact absurd hz2 ha
    | cons l r =>
      refine ⟨⟨by rw [hz2]; exact Nat.succ_pos _, fun h => by cases h⟩, ?_⟩
      have ea : act bk z (.air .come 0) = comes bk z l r := by
        show (match z.air[0]? with | some l => comes bk z l (z.air.eraseIdx 0) | none => z) = _
        rw [hz2]
        rfl
      rw [ea]
      refine ⟨hK.come z l r kz hz2, ?_⟩
      show (r ++ (Cw.heard (z.e (!l.who)) l (bk (!l.who)).bounds).2).length ≤ _
      rw [List.length_append, List.length_cons]
      have := heard_len (z.e (!l.who)) l (bk (!l.who)).bounds
      omega
theorem settles_step {bk : Bool → Book} {m n : Nat} {s s' : WS} (g : Settles bk m s n s') : (final s = true ∧ m = 0 ∧ n = 0 ∧ s' = s) ∨ (final s = false ∧ ∃ m' n', m = m' + 1 ∧ n = n' + cameIn (nextDeeds s) ∧ Settles bk m' (comeTo bk s) n' s') := by
  cases g with
  | done h => exact .inl ⟨h, rfl, rfl, rfl⟩
  | come h ha g =>
    rename_i k' n' l r
    have g' : Settles bk k' (comeTo bk s) n' s' := by
      unfold comeTo
      rw [ha]
      exact g
    exact .inr ⟨h, _, _, rfl, by rw [next_came, if_neg (by rw [ha]; simp)], g'⟩
  | tick h ha g =>
    rename_i k'
    have g' : Settles bk k' (comeTo bk s) n s' := by
      unfold comeTo
      rw [ha]
      exact g
    exact .inr ⟨h, _, _, rfl, by rw [next_came, if_pos ha]; rfl, g'⟩
theorem aw_come (o : Aw) (j : Nat) : decide (tAw o = "come") = isCome (.air o j) := by
  cases o
  · exact (by decide +kernel : decide (("come" : Str) = "come") = true)
  · exact (by decide +kernel : decide (("lost" : Str) = "come") = false)
  · exact (by decide +kernel : decide (("twice" : Str) = "come") = false)
theorem ow_come (o : Ow) : decide (tOw o = "come") = false := by cases o <;> decide +kernel
def sSettle (C : Addr) : Sc := fun args μ Q => ∃ (p pp ps : Addr) (bk : Bool → Book) (s s' : WS) (m n : Nat) (past : List WS) (said : List Deed) (Kp : WS → Prop), args = [.r (.ref p)] ∧ Keeps bk Kp ∧ Kp s ∧ Settles bk m s n s' ∧ s.air.length + 4 * m ≤ 40000 ∧ past.length + 2 * m ≤ 40000 ∧ said.length + 2 * m ≤ 40000 ∧
  μ = WireMu C p pp ps bk s past said ∧ ∀ past' : List WS, past'.length ≤ past.length + 2 * m → Q (.d (.int n)) (WireMu C p pp ps bk s' past' (said ++ dd bk m s))
section
variable {P : Program} {w : World} {K : PySem.W.Frag} {mg : Str → Option Value} {base : Heap} {f C CS fH : Addr} {fd : FuncData} {k : Nat} {kws : List (Str × V)}
theorem sc_settle : FnScope ["self", "many", "deed"] ["self"] (defScope (cm 74 4)) := ⟨rfl, rfl, rfl, by decide +kernel, rfl, by decide +kernel, by decide +kernel⟩
/-- while it settles -/
structure Amid (C p pp ps : Addr) (bk : Bool → Book) (Kp : WS → Prop) (s0 s' : WS) (m0 n : Nat) (past0 : List WS) (said0 : List Deed) (m : Nat) (δ : De) (μ : Mu) : Prop where
  len : δ.length = 3
  self : δ[0]? = some (some (.r (.ref p)))
  ex : ∃ (s : WS) (a b : Nat) (past : List WS) (said : List Deed), δ[1]? = some (some (.d (.int a))) ∧ a + b = n ∧ Settles bk m s b s' ∧ Kp s ∧ s.air.length + 4 * m ≤ 40000 ∧ past.length + 2 * m ≤ past0.length + 2 * m0 ∧ said.length + 2 * m ≤ 40000 ∧
    said ++ dd bk m s = said0 ++ dd bk m0 s0 ∧ Hs (WireMu C p pp ps bk s past said) μ
theorem d_settle (kl : Kls K C wireFl) (kls : Kls K CS setFl) (F : FnM K "settle" "Wire.settle" (cm 74 4) f fd) {fL : Addr} (DL : Df P w K mg base k fL ["self"] (sLaidOut C CS fH)) (mL : Meth K C "laid_out" fL) {fD : Addr} (DD : Df P w K mg base k fD ["self", "deed"] (sWireDo C)) (mD : Meth K C "do" fD)
    {fF : Addr} (DF : Df P w K mg base k fF ["self"] (sIsFinal CS fH)) (mF : Meth K CS "is_final" fF) {fX : Addr} (DX : Df P w K mg base k fX ["self"] (sNext CS fH)) (mX : Meth K CS "next_deed" fX) (b_int : mg "int" = none) : Df P w K mg base (k + 1) f ["self"] (sSettle C) := by
  have nd := sc_settle.nd
  refine df_by F sc_settle (fun _ _ _ _ _ _ us hl => match us, hl with | [_], _ => rfl) (fun args μ Q ⟨_, _, _, _, _, _, _, _, _, _, _, e, _⟩ => by rw [e]; rfl) fun cdv A outer s H E hr F args μ Q h => ?_
  obtain ⟨p, pp, ps, bk, s0, s', m0, n, past0, said0, Kp, rfl, hK, k0, st0, l1, l2, l3, rfl, q⟩ := h
  refine xs_cons (xs_set (i := 1) (xe_int ?_) nd)
  refine xs_cons (xs_while (Amid C p pp ps bk Kp s0 s' m0 n past0 said0) m0 ⟨rfl, rfl, s0, 0, n, past0, said0, rfl, Nat.zero_add _, st0, k0, l1, Nat.le_refl _, l3, rfl, Hs.refl _⟩ ?_)
  rintro m δ μ ⟨hlen, hself, z, a, b, past, said, hmany, hab, st, kz, g1, g2, g3, hsaid, hs⟩
  refine XT.hs hs (xt_not (xt_val ?_))
  refine xe_meth0 DF kls mF hr (xe_meth0 DL kl mL hr (xe_name (i := 0) hself ⟨p, _, rfl, .tail _ (.tail _ (.head _)), fw_laid bk pp ps z false, [(p, .ins C (fWire bk pp ps z false))], [(ps, oSaid said), (pp, oPast past)], ?_, p, pp, ps, bk, z, false, rfl, rfl, fun q1 pb pl => ?_⟩))
  · exact List.perm_append_comm (l₁ := [(ps, oSaid said), (pp, oPast past)]) (l₂ := [(p, Ob.ins C (fWire bk pp ps z false))])
  refine ⟨q1, _, rfl, .tail _ (.tail _ (.head _)), fs_final bk fH pb pl, SetMu CS q1 pb pl fH bk z, _, .refl _, q1, pb, pl, bk, z, rfl, hK.fine z kz, rfl, final z, rfl, ?_⟩
  have hs1 : Hs (WireMu C p pp ps bk z past said) (SetMu CS q1 pb pl fH bk z ++ [(p, .ins C (fWire bk pp ps z false)), (ps, oSaid said), (pp, oPast past)]) :=
    ((Hs.refl _).right _).perm (List.perm_append_comm (l₁ := [_]) (l₂ := [_, _]))
  refine ⟨fun h1 => ?_, fun h1 => ?_⟩
  · -- one turn
    have h1' : final z = false := by simpa using h1
    rcases settles_step st with ⟨e, _⟩ | ⟨_, m', b', rfl, eb, st'⟩
    · rw [h1'] at e
      cases e
    refine XSs.hs hs1 ?_
    refine xs_one (xs_for [2] (xi_lst ?_))
    refine xe_meth0 DX kls mX hr (xe_meth0 DL kl mL hr (xe_name (i := 0) hself ⟨p, _, rfl, .tail _ (.tail _ (.head _)), fw_laid bk pp ps z false, [(p, .ins C (fWire bk pp ps z false))], [(ps, oSaid said), (pp, oPast past)], ?_, p, pp, ps, bk, z, false, rfl, rfl, fun q2 pb2 pl2 => ?_⟩))
    · exact List.perm_append_comm (l₁ := [(ps, oSaid said), (pp, oPast past)]) (l₂ := [(p, Ob.ins C (fWire bk pp ps z false))])
    refine ⟨q2, _, rfl, .tail _ (.tail _ (.head _)), fs_next bk fH pb2 pl2, SetMu CS q2 pb2 pl2 fH bk z, _, .refl _, q2, pb2, pl2, bk, z, rfl, hK.fine z kz, rfl, fun ql => ?_⟩
    refine ⟨ql, _, rfl, .head _, ?_⟩
    -- the loop
    refine ⟨fun i δ' μ' => δ'.length = 3 ∧ δ'[0]? = some (some (.r (.ref p))) ∧ δ'[1]? = some (some (.d (.int (a + cameIn ((nextDeeds z).take i) : Nat)))) ∧ i ≤ (nextDeeds z).length ∧ ∃ (y : WS) (pst : List WS), y = acts bk z ((nextDeeds z).take i) ∧ Kp y ∧ y.air.length ≤ z.air.length + 2 * i ∧ pst.length ≤ past.length + i ∧
      Hs ((ql, .lst ((nextDeeds z).map fun d => .d (eDeed d))) :: WireMu C p pp ps bk y pst (said ++ (nextDeeds z).take i)) μ', ?_, ?_, ?_, ?_⟩
    · refine ⟨hlen, hself, by rw [hmany]; rfl, Nat.zero_le _, z, past, rfl, kz, Nat.le_refl _, Nat.le_refl _, ?_⟩
      rw [List.take_zero, List.append_nil]
      refine ((Hs.refl _).sub (?_ : ((ql, Ob.lst ((nextDeeds z).map fun d => .d (eDeed d))) :: [(p, Ob.ins C (fWire bk pp ps z false)), (ps, oSaid said), (pp, oPast past)]).Sublist _)).perm ?_
      · exact .cons_cons _ (List.sublist_append_right (SetMu CS q2 pb2 pl2 fH bk z) [_, _, _])
      · exact .cons _ (List.perm_append_comm (l₁ := [_]) (l₂ := [_, _]))
    · rintro i δ' μ' ⟨_, _, _, _, y, pst, _, _, _, _, hs'⟩
      exact hs'.mem (.head _)
    · rintro i x δ' μ' hx ⟨c1, c2, c3, c4, y, pst, ey, ky, c5, c6, hs'⟩
      rw [List.getElem?_map] at hx
      obtain ⟨d, hd, rfl⟩ := Option.map_eq_some_iff.mp hx
      have il : i < (nextDeeds z).length := (List.getElem?_eq_some_iff.mp hd).1
      have nl := next_len z
      obtain ⟨can, ka, al⟩ := next_at hK kz hd y ey ky
      refine xg_name (i := 2) (XSs.hs hs' ?_) nd
      have d0 : (δ'.set 2 (some (.d (eDeed d))))[0]? = some (some (.r (.ref p))) := by rw [List.getElem?_set_ne (by decide)]; exact c2
      have d1 : (δ'.set 2 (some (.d (eDeed d))))[1]? = some (some (.d (.int (a + cameIn ((nextDeeds z).take i) : Nat)))) := by rw [List.getElem?_set_ne (by decide)]; exact c3
      have d2 : (δ'.set 2 (some (.d (eDeed d))))[2]? = some (some (.d (eDeed d))) := List.getElem?_set_self (by rw [c1]; decide)
      refine xs_cons (xs_expr (xe_meth DD kl mD hr (xe_name (i := 0) d0 ⟨p, _, rfl, .tail _ (.tail _ (.tail _ (.head _))), fw_do bk pp ps y false, xa_cons (xe_name (i := 2) d2 (xa_nil ?_))⟩)))
      refine ⟨WireMu C p pp ps bk y pst (said ++ (nextDeeds z).take i), [(ql, _)], List.perm_append_comm (l₁ := [_]) (l₂ := [_, _, _]), p, pp, ps, bk, y, pst, said ++ (nextDeeds z).take i, d, rfl, hK.fine y ky, by omega, can, by omega, by omega, ?_, rfl, fun r => ?_⟩
      · rw [List.length_append, List.length_take]
        omega
      refine xs_one (xs_aug (g := fun i j => i + j) (i := 1) ip_add d1 (xe_intB b_int (xe_cm (xc_eq hr (xe_ix (xe_name (i := 2) d2 (xe_int ?_)))))) nd)
      have et : (nextDeeds z).take (i + 1) = (nextDeeds z).take i ++ [d] := by rw [List.take_succ, hd]; rfl
      have ec : cameIn ((nextDeeds z).take (i + 1)) = cameIn ((nextDeeds z).take i) + if isCome d then 1 else 0 := by
        rw [et]
        unfold cameIn
        rw [List.filter_append, List.length_append]
        cases h : isCome d <;> simp [h]
      have fin : ∀ j : Int, j = (if isCome d then 1 else 0) → (fun δ' μ' => δ'.length = 3 ∧ δ'[0]? = some (some (.r (.ref p))) ∧ δ'[1]? = some (some (.d (.int (a + cameIn ((nextDeeds z).take (i + 1)) : Nat)))) ∧ i + 1 ≤ (nextDeeds z).length ∧ ∃ (y : WS) (pst : List WS), y = acts bk z ((nextDeeds z).take (i + 1)) ∧ Kp y ∧ y.air.length ≤ z.air.length + 2 * (i + 1) ∧ pst.length ≤ past.length + (i + 1) ∧
          Hs ((ql, .lst ((nextDeeds z).map fun d => .d (eDeed d))) :: WireMu C p pp ps bk y pst (said ++ (nextDeeds z).take (i + 1))) μ') ((δ'.set 2 (some (.d (eDeed d)))).set 1 (some (.d (.int (((a + cameIn ((nextDeeds z).take i) : Nat) : Int) + j))))) (WireMu C p pp ps bk (act bk y d) (pst ++ [y]) ((said ++ (nextDeeds z).take i) ++ [d]) ++ [(ql, .lst ((nextDeeds z).map fun d => .d (eDeed d)))]) := fun j hj => by
        refine ⟨by rw [List.length_set, List.length_set]; exact c1, by rw [List.getElem?_set_ne (by decide)]; exact d0, ?_, il, act bk y d, pst ++ [y], ?_, ka, by omega, by rw [List.length_append, List.length_singleton]; omega, ?_⟩
        · rw [List.getElem?_set_self (by rw [List.length_set, c1]; decide), ec, hj]
          cases isCome d <;> rfl
        · rw [et, ey]
          unfold acts
          rw [List.foldl_append]
          rfl
        · rw [et, ← List.append_assoc]
          exact (Hs.refl _).perm (List.perm_append_comm (l₁ := [_, _, _]) (l₂ := [_]))
      cases d with
      | own o j =>
        refine ⟨_, 0, .d (.str (tOw o)), .tup _, rfl, rfl, xe_str ⟨_, _, .d _, .d _, (sh_str (ok_ow o)).ok (by decide), (sh_str (ok_aw .come)).ok (by decide), _, rfl, _, rfl, fin _ ?_⟩⟩
        rw [eqv_str]
        show (if decide (tOw o = "come") = true then (1 : Int) else 0) = _
        rw [ow_come]
        rfl
      | air o j =>
        refine ⟨_, 0, .d (.str (tAw o)), .tup _, rfl, rfl, xe_str ⟨_, _, .d _, .d _, (sh_str (ok_aw o)).ok (by decide), (sh_str (ok_aw .come)).ok (by decide), _, rfl, _, rfl, fin _ ?_⟩⟩
        rw [eqv_str]
        show (if decide (tAw o = "come") = true then (1 : Int) else 0) = _
        rw [aw_come o j]
    · rintro δ' μ' ⟨c1, c2, c3, c4, y, pst, ey, ky, c5, c6, hs'⟩
      rw [List.length_map] at c3 c5 c6 ey hs'
      rw [List.take_length] at c3 ey hs'
      have nl := next_len z
      rw [acts_next] at ey
      refine ⟨m', Nat.lt_succ_self _, c1, c2, y, a + cameIn (nextDeeds z), b', pst, said ++ nextDeeds z, c3, by omega, by rw [ey]; exact st', ky, by omega, by omega, ?_, ?_, ?_⟩
      · rw [List.length_append]
        omega
      · rw [← hsaid, List.append_assoc, ey]
        rfl
      · exact hs'.less (.cons _ (.refl _))
  · -- the end
    have h1' : final z = true := by simpa using h1
    rcases settles_step st with ⟨_, rfl, rfl, rfl⟩ | ⟨e, _⟩
    · refine XSs.hs hs1 ?_
      have ea : a = n := by omega
      subst ea
      refine xs_one (xs_ret (xe_name (i := 1) hmany ⟨_, .refl _, ?_⟩))
      have e2 : said = said0 ++ dd bk m0 s0 := by
        rw [← hsaid]
        exact (List.append_nil _).symm
      rw [e2]
      exact q past (by omega)
    · rw [h1'] at e
      cases e
end
end Wk

/-! text Wk22 -/
/-! The walk: Wire: what it tells; twin; ==. -/
namespace Wk
open PySem PySem.Spec PyProof.Rows L2 Ds Cw
def sEnds (C : Addr) : Sc := fun args μ Q => ∃ (p pp ps : Addr) (bk : Bool → Book) (s : WS), args = [.r (.ref p)] ∧ μ = [(p, .ins C (fWire bk pp ps s false))] ∧ Q (.d (.tuple [eEnd (s.e false), eEnd (s.e true)])) μ
def sAir (C : Addr) : Sc := fun args μ Q => ∃ (p pp ps : Addr) (bk : Bool → Book) (s : WS), args = [.r (.ref p)] ∧ μ = [(p, .ins C (fWire bk pp ps s false))] ∧ ∀ q, Q (.r (.ref q)) ((q, .lst ((s.air.map eAir).map Rv.d)) :: μ)
def sDeeds (C : Addr) : Sc := fun args μ Q => ∃ (p pp ps : Addr) (bk : Bool → Book) (s : WS) (said : List Deed), args = [.r (.ref p)] ∧ μ = [(ps, oSaid said), (p, .ins C (fWire bk pp ps s false))] ∧ ∀ q, Q (.r (.ref q)) ((q, .lst ((said.map eDeed).map Rv.d)) :: μ)
def sStands (C : Addr) : Sc := fun args μ Q => ∃ (p pp ps : Addr) (bk : Bool → Book) (s : WS), args = [.r (.ref p)] ∧ μ = [(p, .ins C (fWire bk pp ps s false))] ∧ Q (.d (eStand (s.e false) (s.e true))) μ
def eSaved (bk : Bool → Book) (s : WS) : PyData := .tuple [eBook (bk false), eBook (bk true), .int 3, .tuple [eEnd (s.e false), eEnd (s.e true)], .tuple (s.air.map eAir)]
def sSaved (C : Addr) : Sc := fun args μ Q => ∃ (p pp ps : Addr) (bk : Bool → Book) (s : WS), args = [.r (.ref p)] ∧ μ = [(p, .ins C (fWire bk pp ps s false))] ∧ Q (.d (eSaved bk s)) μ
def sTwin (C : Addr) : Sc := fun args μ Q => ∃ (p pp ps : Addr) (bk : Bool → Book) (s : WS) (past : List WS) (said : List Deed), args = [.r (.ref p)] ∧ μ = WireMu C p pp ps bk s past said ∧ ∀ q qp qs, Q (.r (.ref q)) (WireMu C q qp qs bk s past said ++ WireMu C p pp ps bk s past said)
def sEqW (C : Addr) : Sc := fun args μ Q => ∃ (p pp ps q qp qs : Addr) (bk : Bool → Book) (s : WS), args = [.r (.ref p), .r (.ref q)] ∧ (eSaved bk s).canLay0 = true ∧ (eSaved bk s).depth ≤ 60 ∧ μ = [(p, .ins C (fWire bk pp ps s false)), (q, .ins C (fWire bk qp qs s false))] ∧ Q (.d (.bool true)) [(q, .ins C (fWire bk qp qs s false)), (p, .ins C (fWire bk pp ps s false))]
section
variable {P : Program} {w : World} {K : PySem.W.Frag} {mg : Str → Option Value} {base : Heap} {f C CS fH : Addr} {fd : FuncData} {k : Nat} {kws : List (Str × V)}
theorem sc_ends : FnScope ["self"] ["self"] (defScope (cm 74 5)) := ⟨rfl, rfl, rfl, by decide +kernel, rfl, by decide +kernel, by decide +kernel⟩
theorem d_ends (kl : Kls K C wireFl) (F : FnM K "ends" "Wire.ends" (cm 74 5) f fd) : Df P w K mg base (k + 1) f ["self"] (sEnds C) := by
  refine df_by F sc_ends (fun _ _ _ _ _ _ us hl => match us, hl with | [_], _ => rfl) (fun args μ Q ⟨_, _, _, _, _, e, _⟩ => by rw [e]; rfl) fun cdv A outer s H E hr F args μ Q h => ?_
  obtain ⟨p, pp, ps, bk, s', rfl, rfl, q⟩ := h
  exact xs_one (xs_ret (xe_ix (xe_fld kl (xe_name (i := 0) rfl ⟨p, _, _, rfl, .head _, fw_now bk pp ps s' false, xe_int ⟨_, 0, .d (.tuple [eEnd (s'.e false), eEnd (s'.e true)]), .tup _, rfl, rfl, _, .refl _, q⟩⟩))))
theorem sc_air' : FnScope ["self"] ["self"] (defScope (cm 74 6)) := ⟨rfl, rfl, rfl, by decide +kernel, rfl, by decide +kernel, by decide +kernel⟩
theorem d_air (kl : Kls K C wireFl) (b_list : mg "list" = none) (F : FnM K "air" "Wire.air" (cm 74 6) f fd) : Df P w K mg base (k + 1) f ["self"] (sAir C) := by
  refine df_by F sc_air' (fun _ _ _ _ _ _ us hl => match us, hl with | [_], _ => rfl) (fun args μ Q ⟨_, _, _, _, _, e, _⟩ => by rw [e]; rfl) fun cdv A outer s H E hr F args μ Q h => ?_
  obtain ⟨p, pp, ps, bk, s', rfl, rfl, q⟩ := h
  exact xs_one (xs_ret (xe_listOf b_list (xa_cons (xe_ix (xe_fld kl (xe_name (i := 0) rfl ⟨p, _, _, rfl, .head _, fw_now bk pp ps s' false, xe_int ⟨_, 1, .d (.tuple (s'.air.map eAir)), .tup _, rfl, rfl, xa_nil ⟨_, _, rfl, .tup _, fun q0 => ⟨_, .refl _, q q0⟩⟩⟩⟩))))))
theorem sc_deeds : FnScope ["self"] ["self"] (defScope (cm 74 7)) := ⟨rfl, rfl, rfl, by decide +kernel, rfl, by decide +kernel, by decide +kernel⟩
theorem d_deeds (kl : Kls K C wireFl) (b_list : mg "list" = none) (F : FnM K "deeds" "Wire.deeds" (cm 74 7) f fd) : Df P w K mg base (k + 1) f ["self"] (sDeeds C) := by
  refine df_by F sc_deeds (fun _ _ _ _ _ _ us hl => match us, hl with | [_], _ => rfl) (fun args μ Q ⟨_, _, _, _, _, _, e, _⟩ => by rw [e]; rfl) fun cdv A outer s H E hr F args μ Q h => ?_
  obtain ⟨p, pp, ps, bk, s', said, rfl, rfl, q⟩ := h
  refine xs_one (xs_ret (xe_listOf b_list (xa_cons (xe_fld kl (xe_name (i := 0) rfl ⟨p, _, _, rfl, .tail _ (.head _), fw_said bk pp ps s' false, xa_nil ⟨_, _, rfl, .lst (.head _), fun q0 => ⟨_, .refl _, ?_⟩⟩⟩)))))
  have := q q0
  rw [List.map_map] at this
  exact this
theorem sc_stands : FnScope ["self"] ["self"] (defScope (cm 74 8)) := ⟨rfl, rfl, rfl, by decide +kernel, rfl, by decide +kernel, by decide +kernel⟩
theorem d_stands (kl : Kls K C wireFl) (F : FnM K "stands" "Wire.stands" (cm 74 8) f fd) {fS : Addr} (DS : Df P w K mg base k fS ["ends"] sStandOf) (gS : mg "stand_of" = some (.ref fS)) : Df P w K mg base (k + 1) f ["self"] (sStands C) := by
  refine df_by F sc_stands (fun _ _ _ _ _ _ us hl => match us, hl with | [_], _ => rfl) (fun args μ Q ⟨_, _, _, _, _, e, _⟩ => by rw [e]; rfl) fun cdv A outer s H E hr F args μ Q h => ?_
  obtain ⟨p, pp, ps, bk, s', rfl, rfl, q⟩ := h
  refine xs_one (xs_ret (xe_call DS hr gS (xa_cons (xe_ix (xe_fld kl (xe_name (i := 0) rfl ⟨p, _, _, rfl, .head _, fw_now bk pp ps s' false, xe_int ⟨_, 0, .d (.tuple [eEnd (s'.e false), eEnd (s'.e true)]), .tup _, rfl, rfl, xa_nil ?_⟩⟩))))))
  exact ⟨[], _, .refl _, _, s'.e false, s'.e true, rfl, .inl ⟨rfl, rfl⟩, _, .refl _, q⟩
theorem sc_saved : FnScope ["self"] ["self"] (defScope (cm 74 9)) := ⟨rfl, rfl, rfl, by decide +kernel, rfl, by decide +kernel, by decide +kernel⟩
theorem d_saved (kl : Kls K C wireFl) (F : FnM K "saved" "Wire.saved" (cm 74 9) f fd) : Df P w K mg base (k + 1) f ["self"] (sSaved C) := by
  refine df_by F sc_saved (fun _ _ _ _ _ _ us hl => match us, hl with | [_], _ => rfl) (fun args μ Q ⟨_, _, _, _, _, e, _⟩ => by rw [e]; rfl) fun cdv A outer s H E hr F args μ Q h => ?_
  obtain ⟨p, pp, ps, bk, s', rfl, rfl, q⟩ := h
  refine xs_one (xs_ret (XE.data (xe_cat (XE.data (xe_cat (xe_fld kl (xe_name (i := 0) rfl ⟨p, _, _, rfl, .head _, fw_pair bk pp ps s' false, ?_⟩)))))))
  refine xe_tupD (xa_cons (xe_fld kl (xe_name (i := 0) rfl ⟨p, _, _, rfl, .head _, fw_tries bk pp ps s' false, xa_nil ⟨[.int 3], rfl, by simp, ?_⟩⟩)))
  refine ⟨_, _, trivial, .tup _, trivial, .tup _, by simp, [eBook (bk false), eBook (bk true), .int 3], rfl, ?_⟩
  refine xe_fld kl (xe_name (i := 0) rfl ⟨p, _, _, rfl, .head _, fw_now bk pp ps s' false, ?_⟩)
  exact ⟨_, _, trivial, .tup _, trivial, .tup _, by simp, [eBook (bk false), eBook (bk true), .int 3, .tuple [eEnd (s'.e false), eEnd (s'.e true)], .tuple (s'.air.map eAir)], rfl, _, .refl _, q⟩
theorem sc_twin : FnScope ["self", "twin"] ["self"] (defScope (cm 74 10)) := ⟨rfl, rfl, rfl, by decide +kernel, rfl, by decide +kernel, by decide +kernel⟩
theorem d_twin (kl : Kls K C wireFl) (b_list : mg "list" = none) (F : FnM K "twin" "Wire.twin" (cm 74 10) f fd) {fI : Addr} (DI : DfK P w K mg base k fI ["self", "one", "other", "tries"] 3 ["tries"] (sWireInit C)) (M : Mk K C fI) (gW : mg "Wire" = some (.ref C)) :
    Df P w K mg base (k + 2) f ["self"] (sTwin C) := by
  have nd := sc_twin.nd
  refine df_by F sc_twin (fun _ _ _ _ _ _ us hl => match us, hl with | [_], _ => rfl) (fun args μ Q ⟨_, _, _, _, _, _, _, e, _⟩ => by rw [e]; rfl) fun cdv A outer s H E hr F args μ Q h => ?_
  obtain ⟨p, pp, ps, bk, s', past, said, rfl, rfl, q⟩ := h
  refine xs_cons (xs_set (i := 1) (xe_makeKw DI M hr gW ?_) nd)
  refine xa_cons (xe_ix (xe_fld kl (xe_name (i := 0) rfl ⟨p, _, _, rfl, .tail _ (.tail _ (.head _)), fw_pair bk pp ps s' false, xe_int ⟨_, 0, .d (eBook (bk false)), .tup _, rfl, rfl, ?_⟩⟩)))
  refine xa_cons (xe_ix (xe_fld kl (xe_name (i := 0) rfl ⟨p, _, _, rfl, .tail _ (.tail _ (.head _)), fw_pair bk pp ps s' false, xe_int ⟨_, 1, .d (eBook (bk true)), .tup _, rfl, rfl, xa_nil ?_⟩⟩)))
  refine xk_cons (xe_fld kl (xe_name (i := 0) rfl ⟨p, _, _, rfl, .tail _ (.tail _ (.head _)), fw_tries bk pp ps s' false, xk_nil ⟨rfl, rfl, fun t => ?_⟩⟩))
  refine ⟨[(t, .ins C [])], _, .refl _, t, bk, rfl, rfl, fun tp ts => ⟨rfl, ?_⟩⟩
  -- μ: the twin's three, then this one's
  refine xs_cons (xs_fld kl (xe_fld kl (xe_name (i := 0) rfl ⟨p, _, _, rfl, .tail _ (.tail _ (.tail _ (.tail _ (.tail _ (.head _))))), fw_now bk pp ps s' false, xe_name (i := 1) rfl ⟨t, _, _, rfl, by simp [fWire], .there (.there .here), ?_⟩⟩)))
  rw [fw_setNow]
  refine xs_cons (xs_fld kl (xe_listOf b_list (xa_cons (xe_fld kl (xe_name (i := 0) rfl ⟨p, _, _, rfl, .tail _ (.tail _ (.tail _ (.tail _ (.tail _ (.head _))))), fw_past bk pp ps s' false, xa_nil ⟨_, _, rfl, .lst (.tail _ (.tail _ (.tail _ (.tail _ (.head _))))), fun t2 => xe_name (i := 1) rfl ⟨t, _, _, rfl, by simp [fWire], .there (.there (.there .here)), ?_⟩⟩⟩)))))
  rw [fw_setPast]
  refine xs_cons (xs_fld kl (xe_listOf b_list (xa_cons (xe_fld kl (xe_name (i := 0) rfl ⟨p, _, _, rfl, .tail _ (.tail _ (.tail _ (.tail _ (.tail _ (.tail _ (.head _)))))), fw_said bk pp ps s' false, xa_nil ⟨_, _, rfl, .lst (.tail _ (.tail _ (.tail _ (.tail _ (.head _))))), fun t3 => xe_name (i := 1) rfl ⟨t, _, _, rfl, by simp [fWire], .there (.there (.there (.there .here))), ?_⟩⟩⟩)))))
  rw [fw_setSaid]
  refine xs_one (xs_ret (xe_name (i := 1) rfl ⟨_, ?_, q t t2 t3⟩))
  exact .cons_cons _ (.cons_cons _ (.cons _ (.cons _ (.cons_cons _ (.refl _)))))
theorem sc_eqw : FnScope ["self", "other"] ["self", "other"] (defScope (cm 74 12)) := ⟨rfl, rfl, rfl, by decide +kernel, rfl, by decide +kernel, by decide +kernel⟩
theorem d_eqw (kl : Kls K C wireFl) (ci : ClsI K C) (b_isi : mg "isinstance" = none) (gW : mg "Wire" = some (.ref C)) (F : FnM K "__eq__" "Wire.__eq__" (cm 74 12) f fd) {fS : Addr} (DS : Df P w K mg base k fS ["self"] (sSaved C)) (mS : Meth K C "saved" fS) : Df P w K mg base (k + 1) f ["self", "other"] (sEqW C) := by
  refine df_by F sc_eqw (fun _ _ _ _ _ _ us hl => match us, hl with | [_, _], _ => rfl) (fun args μ Q ⟨_, _, _, _, _, _, _, _, e, _⟩ => by rw [e]; rfl) fun cdv A outer s H E hr F args μ Q h => ?_
  obtain ⟨p, pp, ps, q0, qp, qs, bk, s', rfl, c1, c2, rfl, q⟩ := h
  refine xs_one (xs_ret (xe_andT (xe_isO ci b_isi gW (xe_name (i := 1) rfl ⟨q0, _, rfl, .tail _ (.head _), rfl, ?_⟩))))
  refine xe_one (xe_cm (xc_eq hr (xe_meth0 DS kl mS hr (xe_name (i := 0) rfl ⟨p, _, rfl, .head _, fw_saved bk pp ps s' false, [_], [_], .refl _, p, pp, ps, bk, s', rfl, rfl, ?_⟩))))
  refine xe_meth0 DS kl mS hr (xe_name (i := 1) rfl ⟨q0, _, rfl, .tail _ (.head _), fw_saved bk qp qs s' false, [_], [_], .swap _ _ _, q0, qp, qs, bk, s', rfl, rfl, ?_⟩)
  refine ⟨_, _, .d _, .d _, Sh.ok (n := 60) ⟨c1, c2⟩ (by decide), Sh.ok (n := 60) ⟨c1, c2⟩ (by decide), ?_⟩
  rw [eqv_refl _ c1]
  exact ⟨_, .refl _, q⟩
end
end Wk

/-! text Wq1 -/
/-! How long and of what kinds things stay. -/
namespace Wk
open PySem PySem.Spec PyProof.Rows L2 Ds Cw
structure GW (ws : List Wish) : Prop where
  few : ws.length ≤ 3
  nd : (ws.map (·.kind)).Nodup
  nm : ∀ w ∈ ws, NameOk w.kind
  wo : ∀ w ∈ ws, w.worths.length ≤ 3 ∧ w.worths.Nodup ∧ ∀ x ∈ w.worths, 0 ≤ x ∧ x ≤ 9999
  nn : ∀ w ∈ ws, ∀ n, w.needs = some n → KOk n.1
structure GB (b : Bounds) : Prop where
  nd : (b.map (·.1)).Nodup
  few : b.length ≤ 10
  at_ : ∀ p ∈ b, KOk p.1 ∧ p.2 ≠ [] ∧ p.2.length ≤ 10 ∧ ∀ x ∈ p.2, 0 ≤ x ∧ x ≤ 9999
structure Good (bk : Bool → Book) : Prop where
  w : ∀ i, GW (bk i).wishes
  b : ∀ i, GB (bk i).bounds
theorem GW.ok {ws : List Wish} (g : GW ws) : WsOk ws := ⟨by have := g.few; omega, fun w hw => ⟨(g.nm w hw).k, by have := (g.wo w hw).1; omega, g.nn w hw⟩⟩
theorem GW.wok {ws : List Wish} (g : GW ws) : WOk ws := ⟨g.nd, fun w hw => (g.wo w hw).2.1, fun w hw x hx => ((g.wo w hw).2.2 x hx).1⟩
theorem GB.ok {b : Bounds} (g : GB b) : BdOk b := ⟨g.nd, by have := g.few; omega, fun p hp => ⟨(g.at_ p hp).1, (g.at_ p hp).2.1⟩⟩
theorem GB.bok {b : Bounds} (g : GB b) : BOk b := fun p hp => (g.at_ p hp).2.1
theorem Good.bk {bk : Bool → Book} (g : Good bk) : BkOk bk := ⟨fun i => (g.w i).wok, fun i => (g.b i).bok⟩
def allP (ws : List Wish) : List Pair := ws.flatMap fun w => (w.kind, -1) :: w.worths.map fun x => (w.kind, x)
theorem allP_len : ∀ ws : List Wish, (∀ w ∈ ws, w.worths.length ≤ 3) → (allP ws).length ≤ 4 * ws.length
  | [], _ => Nat.zero_le _
  | w :: ws, h => by
    have ih := allP_len ws fun v hv => h v (List.mem_cons_of_mem _ hv)
    have := h w List.mem_cons_self
    unfold allP at ih ⊢
    rw [List.flatMap_cons, List.length_append, List.length_cons, List.length_cons, List.length_map]
    omega
theorem allP_no {ws : List Wish} {k : Str} (h : k ∈ ws.map (·.kind)) : (k, -1) ∈ allP ws := by
  obtain ⟨w, hw, rfl⟩ := List.mem_map.mp h
  exact List.mem_flatMap.mpr ⟨w, hw, List.mem_cons_self⟩
theorem allP_of {ws : List Wish} {w : Wish} {x : Int} (hw : w ∈ ws) (hx : x ∈ w.worths) : (w.kind, x) ∈ allP ws :=
  List.mem_flatMap.mpr ⟨w, hw, List.mem_cons_of_mem _ (List.mem_map.mpr ⟨x, hx, rfl⟩)⟩
theorem allP_k {ws : List Wish} (g : GW ws) {z : Pair} (h : z ∈ allP ws) : KOk z.1 := by
  obtain ⟨w, hw, hz⟩ := List.mem_flatMap.mp h
  rcases List.mem_cons.mp hz with rfl | hz
  · exact (g.nm w hw).k
  · obtain ⟨x, _, rfl⟩ := List.mem_map.mp hz
    exact (g.nm w hw).k
theorem nodup_len {α : Type} [BEq α] [LawfulBEq α] : ∀ {l m : List α}, l.Nodup → (∀ x ∈ l, x ∈ m) → l.length ≤ m.length
  | [], _, _, _ => Nat.zero_le _
  | x :: l, m, nd, h => by
    rw [List.nodup_cons] at nd
    have hx := h x List.mem_cons_self
    have ih := nodup_len (m := m.erase x) nd.2 fun y hy => (List.mem_erase_of_ne fun e : y = x => nd.1 (by rw [← e]; exact hy)).mpr (h y (List.mem_cons_of_mem _ hy))
    rw [List.length_erase_of_mem hx] at ih
    have := List.length_pos_of_mem hx
    rw [List.length_cons]
    omega
def LShp (l : Letter) : Prop := l.pairs.length ≤ 3 ∧ ∀ z ∈ l.pairs, PairOk z
def PShp (pl : Plan) : Prop := ∀ p ∈ pl, p.2.length ≤ 3 ∧ ∀ x ∈ p.2, 0 ≤ x ∧ x ≤ 9999
structure EShp (ws : List Wish) (e : Cw.End) : Prop where
  wi : e.wishes = ws
  po : e.closed = false → PlanOk ws e.plan e.refused
  pl : PShp e.plan
  rf : e.refused.Nodup ∧ ∀ z ∈ e.refused, z ∈ allP ws
  gv : ∀ a, e.given = some a → ∀ z ∈ a, PairOk z
  tk : ∀ a, e.took = some a → ∀ z ∈ a, PairOk z
  ls : ∀ m, e.last = some m → LShp m
  sv : KOk e.why ∧ ∀ p ∈ e.plan, KOk p.1
section
variable {ws : List Wish} {e : Cw.End} {b : Bounds} {l : Letter}
theorem plan_shp (g : GW ws) : PShp (planOf ws) := fun p hp => by
  obtain ⟨w, hw, rfl⟩ := List.mem_map.mp hp
  exact ⟨(g.wo w hw).1, (g.wo w hw).2.2⟩
theorem ask_shp (g : GW ws) {pl : Plan} (h : PShp pl) : (askOf ws pl).length ≤ 3 ∧ ∀ z ∈ askOf ws pl, PairOk z := by
  refine ⟨?_, fun z hz => ?_⟩
  · have := (askOf_kinds ws pl).length_le
    rw [List.length_map, List.length_map] at this
    exact Nat.le_trans this g.few
  · rcases askGo_mem hz with h1 | ⟨y, hy, e1, r, e2⟩
    · cases h1
    · have hm := List.of_mem_zip hy
      have := h y.2 hm.2
      refine ⟨by rw [e1]; exact g.nm y.1 hm.1, (this.2 z.2 (by rw [e2]; exact List.mem_cons_self)).1, (this.2 z.2 (by rw [e2]; exact List.mem_cons_self)).2⟩
theorem answer_shp (g : GB b) {a : Ask} (h : a.length ≤ 3 ∧ ∀ z ∈ a, PairOk z) : (answer b a).2.length ≤ 3 ∧ ∀ z ∈ (answer b a).2, PairOk z := by
  rcases answer_cases b a with ⟨e, _⟩ | ⟨e, _, _⟩ | ⟨e, _, _⟩
  · rw [e]
    exact ⟨Nat.le_trans (List.length_filter_le _ _) h.1, fun z hz => h.2 z (List.mem_filter.mp hz).1⟩
  · rw [e]
    refine ⟨?_, fun z hz => ?_⟩
    · show (others b a).length ≤ 3
      unfold others
      rw [List.length_map]
      exact Nat.le_trans (List.length_filter_le _ _) h.1
    · obtain ⟨q, hq, rfl⟩ := List.mem_map.mp hz
      have hqa := (List.mem_filter.mp hq).1
      refine ⟨(h.2 q hqa).1, ?_⟩
      show 0 ≤ ((lk b q.1).getD []).headD 0 ∧ ((lk b q.1).getD []).headD 0 ≤ 9999
      cases hl : lk b q.1 with
      | none => exact ⟨Int.le_refl _, by decide⟩
      | some xs =>
        have := (g.at_ _ (Cw.lk_mem hl)).2.2.2
        cases xs with
        | nil => exact ⟨Int.le_refl _, by decide⟩
        | cons x r => exact this x List.mem_cons_self
  · rw [e]
    exact h
theorem askL_shp (g : GW ws) (h : EShp ws e) : LShp (askL e) := by
  have := ask_shp g h.pl
  unfold LShp askL
  rw [h.wi]
  exact this
theorem bareL_shp (w : Wd) : LShp (bareL e w) := ⟨Nat.zero_le _, fun z hz => by cases hz⟩
theorem ok_empty : KOk "" := by unfold KOk; decide +kernel
theorem ok_whys : KOk "closed" ∧ KOk "tries" ∧ KOk "failed" ∧ KOk "bye" ∧ KOk "new" := by unfold KOk; decide +kernel
theorem begun_shp (g : GW ws) (h : e.wishes = ws) : EShp ws (begun e) where
  wi := h
  po := fun _ => by
    show PlanOk ws (planOf e.wishes) []
    rw [h]
    exact PlanOk.first g.wok
  pl := by
    show PShp (planOf e.wishes)
    rw [h]
    exact plan_shp g
  rf := ⟨List.nodup_nil, fun z hz => by cases hz⟩
  gv := fun _ h => by cases h
  tk := fun _ h => by cases h
  ls := fun _ h => by cases h
  sv := ⟨ok_empty, by
    show ∀ p ∈ planOf e.wishes, KOk p.1
    rw [h]
    intro p hp
    obtain ⟨w, hw, rfl⟩ := List.mem_map.mp hp
    exact (g.nm w hw).k⟩
theorem shut_shp (h : e.wishes = ws) (y : Str) (hy : KOk y) : EShp ws (shut e y) where
  wi := h
  po := fun h => by cases h
  pl := fun _ h => by cases h
  rf := ⟨List.nodup_nil, fun z hz => by cases hz⟩
  gv := fun _ h => by cases h
  tk := fun _ h => by cases h
  ls := fun _ h => by cases h
  sv := ⟨hy, fun _ h => by cases h⟩
theorem learn_shp (g : GW ws) (h : EShp ws e) : EShp ws (learn e l).1 ∧ ∀ m ∈ (learn e l).2, LShp m := by
  unfold learn
  split
  · have hb := begun_shp (e := { e with yours := l.mine }) g h.wi
    exact ⟨hb, fun m hm => by rw [List.mem_singleton.mp hm]; exact askL_shp g hb⟩
  · exact ⟨h, fun m hm => by cases hm⟩
theorem left_shp {w : Wd} {ps : Ask} {pl : Plan} (h : PShp pl) : PShp (leftNow w ps pl) := fun p hp => by
  obtain ⟨q, hq, rfl⟩ := List.mem_map.mp hp
  have := h q hq
  show (match lk ps q.1 with | some x => leftBehind w x q.2 | none => q.2).length ≤ 3 ∧ ∀ x ∈ (match lk ps q.1 with | some x => leftBehind w x q.2 | none => q.2), _
  cases lk ps q.1 with
  | none => exact this
  | some x => exact ⟨Nat.le_trans (leftBehind_le w x q.2) this.1, fun y hy => this.2 y (List.mem_of_mem_tail (leftBehind_sub hy))⟩
theorem left_sv {w : Wd} {ps : Ask} {pl : Plan} (h : ∀ p ∈ pl, KOk p.1) : ∀ p ∈ leftNow w ps pl, KOk p.1 := fun p hp => by
  obtain ⟨q, hq, rfl⟩ := List.mem_map.mp hp
  exact h q hq
theorem refused_in (h : PlanOk ws e.plan e.refused) {w : Wd} {ps : Ask} {p : Plan} {r : List Pair} (hb : Cw.behind ws e.plan w ps = some (.plan p r)) : p = leftNow w ps e.plan ∧ ∀ z ∈ r, z ∈ allP ws := by
  unfold Cw.behind at hb
  dsimp only at hb
  split at hb
  · split at hb <;> cases hb
  · split at hb
    · rename_i hr
      split at hb
      · cases hb
      · cases hb
        refine ⟨rfl, fun z hz => ?_⟩
        unfold Cw.refusedBy at hz
        rw [mem_srt] at hz
        obtain ⟨q, hq, rfl⟩ := List.mem_map.mp hz
        have hk := (refusals_mem hr.2).2 q hq
        show (q.1, if w = .no then -1 else (lk (askOf ws e.plan) q.1).getD 0) ∈ _
        by_cases hw : w = .no
        · rw [if_pos hw]
          obtain ⟨q2, hq2, e2⟩ := List.mem_map.mp hk
          rw [← e2]
          exact allP_no (ask_keys q2 hq2)
        · rw [if_neg hw]
          obtain ⟨x, hx⟩ := lk_some_of_mem hk
          rw [hx]
          obtain ⟨_, _, v, hv, e1, e2⟩ := h.ask (Cw.lk_mem hx)
          show (q.1, x) ∈ _
          rw [← (show v.kind = q.1 from e1)]
          exact allP_of hv e2
    · cases hb
theorem joined_nodup (l : List Pair) : (joined l).Nodup := (List.mergeSort_perm _ leP).nodup_iff.mpr (Ss.dups_nodup _ l (Nat.le_refl _))
theorem word_shp (g : GW ws) (gb : GB b) (h : EShp ws e) (hc : e.closed = false) (hl : LShp l) : EShp ws (heardWord e l b).1 ∧ ∀ m ∈ (heardWord e l b).2, LShp m := by
  have ask : EShp ws (heardAsk e l b).1 ∧ ∀ m ∈ (heardAsk e l b).2, LShp m := by
    unfold heardAsk
    split
    · exact ⟨h, fun m hm => by cases hm⟩
    · split
      · have ha := answer_shp gb hl
        refine ⟨⟨h.wi, h.po, h.pl, h.rf, h.gv, fun a ea => ?_, fun m em => ?_, h.sv⟩, fun m hm => ?_⟩
        · have ea' : (if (answer b l.pairs).1 = .yes then some l.pairs else none) = some a := ea
          split at ea'
          · cases ea'
            exact hl.2
          · cases ea'
        · have em' : some (⟨e.name, (answer b l.pairs).1, e.turn, e.yours, l.number, (answer b l.pairs).2⟩ : Letter) = some m := em
          cases em'
          exact ha
        · rw [List.mem_singleton.mp hm]
          exact ha
      · refine ⟨h, fun m hm => ?_⟩
        cases el : e.last with
        | none => rw [el] at hm; cases hm
        | some m2 =>
          rw [el] at hm
          rw [List.mem_singleton.mp hm]
          exact h.ls m2 el
  have ans : EShp ws (heardAnswer e l).1 ∧ ∀ m ∈ (heardAnswer e l).2, LShp m := by
    unfold heardAnswer
    split
    · exact ⟨h, fun m hm => by cases hm⟩
    · split
      · exact ⟨h, fun m hm => by cases hm⟩
      · exact ⟨shut_shp h.wi _ ok_whys.2.2.1, fun m hm => by rw [List.mem_singleton.mp hm]; exact bareL_shp _⟩
      · rename_i a ea
        refine ⟨⟨h.wi, h.po, h.pl, h.rf, fun a2 e2 => ?_, h.tk, h.ls, h.sv⟩, fun m hm => by cases hm⟩
        have e2' : some a = some a2 := e2
        cases e2'
        rw [(behind_agreed ea).2.2, h.wi]
        exact (ask_shp g h.pl).2
      · rename_i p r eb
        rw [h.wi] at eb
        obtain ⟨ep, hr⟩ := refused_in (h.po hc) eb
        have hn : EShp ws { e with tries := 3, plan := p, refused := joined (e.refused ++ r), number := e.number + 1 } := by
          refine ⟨h.wi, fun _ => (h.po hc).step eb, by rw [ep]; exact left_shp h.pl, ⟨joined_nodup _, fun z hz => ?_⟩, h.gv, h.tk, h.ls, h.sv.1, by rw [ep]; exact left_sv h.sv.2⟩
          rcases List.mem_append.mp (mem_joined.mp hz) with z1 | z1
          · exact h.rf.2 z z1
          · exact hr z z1
        exact ⟨hn, fun m hm => by rw [List.mem_singleton.mp hm]; exact askL_shp g hn⟩
  unfold heardWord
  split
  · exact ask
  · exact ⟨shut_shp h.wi _ ok_whys.2.2.2.1, fun m hm => by cases hm⟩
  · exact ⟨h, fun m hm => by rw [List.mem_singleton.mp hm]; exact bareL_shp _⟩
  · exact ⟨⟨h.wi, h.po, h.pl, h.rf, h.gv, h.tk, h.ls, h.sv⟩, fun m hm => by cases hm⟩
  · exact ans
theorem learn_closed (hc : e.closed = false) : (learn e l).1.closed = false := by
  unfold learn
  split
  · rfl
  · exact hc
theorem heard_shp (g : GW ws) (gb : GB b) (h : EShp ws e) (hl : LShp l) : EShp ws (Cw.heard e l b).1 ∧ ∀ m ∈ (Cw.heard e l b).2, LShp m := by
  unfold Cw.heard
  split
  · refine ⟨h, fun m hm => ?_⟩
    split at hm
    · cases hm
    · rw [List.mem_singleton.mp hm]
      exact ⟨Nat.zero_le _, fun z hz => by cases hz⟩
  · rename_i hc
    obtain ⟨l1, l2⟩ := learn_shp (l := l) g h
    dsimp only
    split
    · obtain ⟨w1, w2⟩ := word_shp g gb l1 (learn_closed (by simpa using hc)) hl
      exact ⟨w1, fun m hm => (List.mem_append.mp hm).elim (l2 m) (w2 m)⟩
    · exact ⟨l1, l2⟩
theorem ticked_shp (g : GW ws) (h : EShp ws e) : EShp ws (ticked e).1 ∧ ∀ m ∈ (ticked e).2, LShp m := by
  unfold ticked
  split
  · exact ⟨h, fun m hm => by cases hm⟩
  · split
    · exact ⟨shut_shp h.wi _ ok_whys.2.1, fun m hm => by rw [List.mem_singleton.mp hm]; exact bareL_shp _⟩
    · have hn : EShp ws { e with tries := e.tries - 1 } := ⟨h.wi, h.po, h.pl, h.rf, h.gv, h.tk, h.ls, h.sv⟩
      refine ⟨hn, fun m hm => ?_⟩
      rw [List.mem_singleton.mp hm]
      split
      · exact askL_shp g hn
      · exact bareL_shp _
theorem opened_shp (g : GW ws) (h : EShp ws e) : EShp ws (opened e).1 ∧ ∀ m ∈ (opened e).2, LShp m := by
  have hb := begun_shp (e := { e with turn := e.turn + 1, echoes := 0 }) g h.wi
  exact ⟨hb, fun m hm => by rw [List.mem_singleton.mp hm]; exact askL_shp g hb⟩
theorem closing_shp (h : EShp ws e) : EShp ws (closing e).1 ∧ ∀ m ∈ (closing e).2, LShp m :=
  ⟨shut_shp h.wi _ ok_whys.1, fun m hm => by rw [List.mem_singleton.mp hm]; exact bareL_shp _⟩
end
structure Shp (bk : Bool → Book) (s : WS) : Prop where
  e : ∀ i, EShp (bk i).wishes (s.e i)
  l : ∀ l ∈ s.air, LShp l
section
variable {bk : Bool → Book} {s : WS}
theorem Shp.put (h : Shp bk s) (i : Bool) {z : Cw.End × List Letter} {air : List Letter} (hz : EShp (bk i).wishes z.1 ∧ ∀ m ∈ z.2, LShp m) (ha : ∀ m ∈ air, m ∈ s.air) : Shp bk (Cw.put s i z air) := by
  refine ⟨fun j => ?_, fun l hl => ?_⟩
  · show EShp _ (if j = i then z.1 else s.e j)
    split
    · rename_i h'
      rw [h']
      exact hz.1
    · exact h.e j
  · rcases List.mem_append.mp hl with h1 | h1
    · exact h.l l (ha l h1)
    · exact hz.2 l h1
theorem Shp.comes (g : Good bk) (h : Shp bk s) {l : Letter} {r : List Letter} (hl : l ∈ s.air) (hr : ∀ m ∈ r, m ∈ s.air) : Shp bk (Cw.comes bk s l r) :=
  h.put _ (heard_shp (g.w _) (g.b _) (h.e _) (h.l l hl)) hr
theorem Shp.ticks (g : Good bk) (h : Shp bk s) (i : Bool) : Shp bk (Cw.ticks s i) := h.put i (ticked_shp (g.w i) (h.e i)) fun _ h => h
theorem Shp.opens (g : Good bk) (h : Shp bk s) (i : Bool) : Shp bk (Cw.opens s i) := h.put i (opened_shp (g.w i) (h.e i)) fun _ h => h
theorem Shp.closes (h : Shp bk s) (i : Bool) : Shp bk (Cw.closes s i) := h.put i (closing_shp (h.e i)) fun _ h => h
theorem Shp.start (bk : Bool → Book) : Shp bk (Cw.start bk) := by
  exact ⟨fun i => ⟨rfl, (fun h => by cases h), (fun _ h => by cases h), ⟨List.nodup_nil, (fun z hz => by cases hz)⟩, (fun _ h => by cases h), (fun _ h => by cases h), (fun _ h => by cases h), ⟨ok_whys.2.2.2.2, fun _ h => by cases h⟩⟩, (fun l hl => by cases hl)⟩
theorem Shp.fewer (h : Shp bk s) {air : List Letter} (ha : ∀ m ∈ air, m ∈ s.air) : Shp bk ⟨s.e, air⟩ := ⟨h.e, fun l hl => h.l l (ha l hl)⟩
/-- an end and a letter, as the walk asks -/
theorem hok_of (g : Good bk) (hi : Cw.Inv bk s) (h : Shp bk s) {l : Letter} (hl : l ∈ s.air) (hc : (s.e (!l.who)).closed = false) : HOk (learn (s.e (!l.who)) l).1 l (bk !l.who).bounds := by
  have gw := g.w (!l.who)
  obtain ⟨es, _⟩ := learn_shp (l := l) gw (h.e (!l.who))
  have po := es.po (learn_closed hc)
  have ls := h.l l hl
  have lo := hi.l l hl
  have eo := hi.e (!l.who)
  refine ⟨by rw [es.wi]; exact gw.ok, (g.b _).ok, by have := ls.1; omega, ls.2, fun hw hn => ?_, by rw [es.wi]; exact po.fit.al, by rw [es.wi]; exact gw.nd, fun x hx => by have := (es.pl x hx).1; omega, ⟨?_, fun z hz => allP_k gw (es.rf.2 z hz)⟩, by rw [es.wi]; have := gw.few; omega⟩
  · have h1 := lo.n1 hw
    unfold learn at hn ⊢
    split at hn
    · exfalso
      have hn' : l.number = 0 := hn
      omega
    · rename_i hm
      rw [if_neg hm]
      rw [hn] at h1
      obtain ⟨w, ps, _, e⟩ := eo.l1 h1
      exact ⟨_, e⟩
  · have := nodup_len es.rf.1 es.rf.2
    have := allP_len (bk !l.who).wishes fun w hw => (gw.wo w hw).1
    have := gw.few
    omega
theorem fine_of (g : Good bk) (hi : Cw.Inv bk s) (h : Shp bk s) : Fine bk s where
  ws := fun i => by rw [(h.e i).wi]; exact (g.w i).ok
  nm := fun i => (hi.e i).nm
  gv := fun i => ⟨fun a ea z hz => ((h.e i).gv a ea z hz).1.k, fun a ea z hz => ((h.e i).tk a ea z hz).1.k⟩
  lt := fun l hl z hz => ((h.l l hl).2 z hz).1.k
  out := fun i l hl => by
    have nm := (hi.e i).nm
    rcases List.mem_append.mp hl with h1 | h1
    · rcases List.mem_append.mp h1 with h2 | h2
      · have : l = askL (opened (s.e i)).1 := List.mem_singleton.mp h2
        rw [this]
        exact nm
      · have : l = bareL (s.e i) .bye := List.mem_singleton.mp h2
        rw [this]
        exact nm
    · exact ((step_ticked (hi.two i)).new l h1).1
  hok := fun l hl => ⟨hok_of g hi h hl, fun m hm => by
    have lo := hi.l l hl
    have t := hi.two (!l.who)
    rw [Bool.not_not] at t
    exact ((step_heard (g.w (!l.who)).wok t (by
      have := lo
      exact this) (by rw [Bool.not_not])).new m hm).1⟩
def Kp (bk : Bool → Book) (s : WS) : Prop := Cw.Inv bk s ∧ Shp bk s
theorem keeps (g : Good bk) : Keeps bk (Kp bk) where
  fine := fun s ⟨a, b⟩ => fine_of g a b
  come := fun s l r ⟨a, b⟩ e => ⟨a.comes g.bk e, b.comes g (by rw [e]; exact List.mem_cons_self) fun m hm => by rw [e]; exact List.mem_cons_of_mem _ hm⟩
  tick := fun s i ⟨a, b⟩ => ⟨a.ticks i, b.ticks g i⟩
end
end Wk

/-! text Wk23 -/
/-! The walk: course, unsafe. -/
namespace Wk
open PySem PySem.Spec PyProof.Rows L2 Ds Cw
/-- a course of so many plans more -/
inductive CN (ws : List Wish) (b : Bounds) : Nat → Plan → Beh → Prop
  | agreed {n : Nat} {p : Plan} {a : Ask} : Cw.behind ws p (answer b (askOf ws p)).1 (answer b (askOf ws p)).2 = some (.agreed a) → CN ws b n p (.agreed a)
  | failed {n : Nat} {p : Plan} {k : Str} : Cw.behind ws p (answer b (askOf ws p)).1 (answer b (askOf ws p)).2 = some (.failed k) → CN ws b n p (.failed k)
  | plan {n : Nat} {p q : Plan} {r : List Pair} {z : Beh} : Cw.behind ws p (answer b (askOf ws p)).1 (answer b (askOf ws p)).2 = some (.plan q r) → CN ws b n q z → CN ws b (n + 1) p z
theorem cn_of {ws : List Wish} {b : Bounds} {p : Plan} {z : Beh} (hf : Fit ws p) (h : CTo ws b p z) : CN ws b (many p) p z := by
  induction h with
  | agreed e => exact .agreed e
  | failed e => exact .failed e
  | @plan p q r z e h ih =>
    have hq : Fit ws q := by
      obtain ⟨_, _, rfl, _⟩ := behind_plan e
      exact hf.now _ _
    have hlt := behind_many hf e
    have : ∀ {n m : Nat} {y : Beh} {p : Plan}, CN ws b n p y → n ≤ m → CN ws b m p y := by
      intro n m y p c
      induction c generalizing m with
      | agreed e => exact fun _ => .agreed e
      | failed e => exact fun _ => .failed e
      | plan e _ ih =>
        intro hm
        obtain ⟨m', rfl⟩ : ∃ m', m = m' + 1 := ⟨m - 1, by omega⟩
        exact .plan e (ih (by omega))
    obtain ⟨m', e2⟩ : ∃ m', many p = m' + 1 := ⟨many p - 1, by omega⟩
    rw [e2]
    exact .plan e (this (ih hq) (by omega))
/-- what course tells of an end -/
def wBeh : Beh → Str
  | .agreed _ => "agreed"
  | .failed _ => "failed"
  | .plan _ _ => "plan"
def dBeh : Beh → PyData
  | .agreed a => eAsk a
  | .failed k => .str k
  | .plan p _ => ePlan p
def sCourse : Sc := fun args μ Q => ∃ (ws : List Wish) (b : Bounds) (z : Beh), args = [.d (eWishes ws), .d (ePlan b)] ∧ GW ws ∧ GB b ∧ CTo ws b (planOf ws) z ∧ μ = [] ∧ ∀ q xs, Q (.t [.d (.str (wBeh z)), .d (dBeh z), .r (.ref q)]) [(q, .lst xs)]
def sUnsafe (C : Addr) : Sc := fun args μ Q => ∃ (p pp ps : Addr) (bk : Bool → Book) (s : WS), args = [.r (.ref p)] ∧ Good bk ∧ Cw.Inv bk s ∧ Shp bk s ∧ final s = true ∧ μ = [(p, .ins C (fWire bk pp ps s false))] ∧ ∀ q, Q (.r (.ref q)) [(q, .lst []), (p, .ins C (fWire bk pp ps s false))]
theorem gs_ne {δ : De} {i j : Nat} {x r : Option Rv} (h : δ[j]? = some r) (ne : i ≠ j := by decide) : (δ.set i x)[j]? = some r := by rw [List.getElem?_set_ne ne]; exact h
theorem gs_eq {δ : De} {i n : Nat} {x : Option Rv} (h : δ.length = n) (hn : i < n := by decide) : (δ.set i x)[i]? = some x := List.getElem?_set_self (by rw [h]; exact hn)
theorem gs_len {δ : De} {i n : Nat} {x : Option Rv} (h : δ.length = n) : (δ.set i x).length = n := by rw [List.length_set]; exact h
theorem plan_keys {ws : List Wish} {pl : Plan} (h : Fit ws pl) : pl.map (·.1) = ws.map (·.kind) := h.al
section
variable {P : Program} {w : World} {K : PySem.W.Frag} {mg : Str → Option Value} {base : Heap} {f C CS fH : Addr} {fd : FuncData} {k : Nat} {kws : List (Str × V)}
theorem sc_course : FnScope ["wishes", "bounds", "plan", "found", "ask", "told", "what"] ["wishes", "bounds"] (defScope (top 76)) := ⟨rfl, rfl, rfl, by decide +kernel, rfl, by decide +kernel, by decide +kernel⟩
theorem d_course (F : FnP K "course" (top 76) f fd) {fP : Addr} (DP : DfD P w K mg base k fP ["wishes", "refused"] [.d (.tuple [])] sPlanOf) (gP : mg "plan_of" = some (.ref fP)) {fA : Addr} (DA : Df P w K mg base k fA ["wishes", "plan"] sAskOf) (gA : mg "ask_of" = some (.ref fA))
    {fT : Addr} (DT : Df P w K mg base k fT ["bounds", "ask"] sAnswer) (gT : mg "answer" = some (.ref fT)) {fB : Addr} (DB : Df P w K mg base k fB ["wishes", "plan", "thing"] sBehind) (gB' : mg "behind" = some (.ref fB)) : Df P w K mg base (k + 1) f ["wishes", "bounds"] sCourse := by
  have nd := sc_course.nd
  refine df_by F sc_course (fun _ _ _ _ _ _ us hl => match us, hl with | [_, _], _ => rfl) (fun args μ Q ⟨_, _, _, e, _⟩ => by rw [e]; rfl) fun cdv A outer s H E hr F args μ Q h => ?_
  obtain ⟨ws, b, z, rfl, gw, gb, ct, rfl, q⟩ := h
  have f0 : Fit ws (planOf ws) := (PlanOk.first gw.wok).fit
  have wok := gw.ok
  refine xs_cons (xs_set (i := 2) (xe_callD DP hr gP (xa_cons (xe_name (i := 0) rfl (xa_nil ⟨[], [], .nil, ws, rfl, wok.1, fun v hv => ⟨(wok.2 v hv).1, (wok.2 v hv).2.1⟩, rfl, ?_⟩)))) nd)
  refine xs_cons (xs_set (i := 3) (xe_lst (xa_nil ⟨by simp, fun q0 => ?_⟩)) nd)
  refine xs_one (xs_while (fun m δ μ => δ.length = 7 ∧ δ[0]? = some (some (.d (eWishes ws))) ∧ δ[1]? = some (some (.d (ePlan b))) ∧ δ[3]? = some (some (.r (.ref q0))) ∧ ∃ (pl : Plan) (xs : List Rv), δ[2]? = some (some (.d (ePlan pl))) ∧ CN ws b m pl z ∧ Fit ws pl ∧ PShp pl ∧ xs.length + m ≤ 50000 ∧ μ = [(q0, .lst xs)]) (many (planOf ws)) ⟨rfl, rfl, rfl, rfl, planOf ws, [], rfl, cn_of f0 ct, f0, plan_shp gw, ?_, rfl⟩ ?_)
  · have : many (planOf ws) ≤ 3 * 3 := by
      rw [many_planOf]
      have h1 : ∀ l : List Wish, (∀ v ∈ l, v.worths.length ≤ 3) → (l.map fun v => v.worths.length).sum ≤ 3 * l.length := fun l => by
        induction l with
        | nil => exact fun _ => Nat.zero_le _
        | cons v l ih =>
          intro h
          have := ih fun u hu => h u (List.mem_cons_of_mem _ hu)
          have := h v List.mem_cons_self
          rw [List.map_cons, List.sum_cons, List.length_cons]
          omega
      have := h1 ws fun v hv => (gw.wo v hv).1
      have := gw.few
      omega
    simp only [List.length_nil]
    omega
  rintro m δ μ ⟨c1, c2, c3, c4, pl, xs, c5, cn, ft, ps, hx, rfl⟩
  refine xt_val (xe_bl ⟨true, rfl, fun _ => ?_, fun z => by cases z⟩)
  have ask := ask_shp gw ps
  have ans := answer_shp gb ask
  refine xs_cons (xs_set (i := 4) (xe_call DA hr gA (xa_cons (xe_name (i := 0) c2 (xa_cons (xe_name (i := 2) c5 (xa_nil ⟨[], _, .refl _, ws, pl, rfl, wok.1, fun v hv => ⟨(wok.2 v hv).1, (wok.2 v hv).2.2⟩, rfl, ?_⟩)))))) nd)
  refine xs_cons (xs_set (i := 5) (xe_call DT hr gT (xa_cons (xe_name (i := 1) (gs_ne c3) (xa_cons (xe_name (i := 4) (gs_eq c1) (xa_nil ⟨[], _, .refl _, b, askOf ws pl, rfl, gb.ok, by have := ask.1; omega, fun y hy => (ask.2 y hy).1.k, rfl, ?_⟩)))))) nd)
  refine xs_cons (xs_expr (xe_append (xe_name (i := 3) (gs_ne (gs_ne c4)) ⟨q0, xs, rfl, .head _, xe_tupD (xa_cons (xe_name (i := 4) (gs_ne (gs_eq c1)) (xa_cons (xe_name (i := 5) (gs_eq (gs_len c1)) (xa_nil ⟨[_, _], rfl, by simp, xs, _, by omega, .here, ?_⟩)))))⟩)))
  refine xs_cons (xs_set (i := 6) (xe_call DB hr gB' (xa_cons (xe_name (i := 0) (gs_ne (gs_ne c2)) (xa_cons (xe_name (i := 2) (gs_ne (gs_ne c5)) (xa_cons (xe_name (i := 5) (gs_eq (gs_len c1)) (xa_nil ?_)))))))) nd)
  refine ⟨[], _, .refl _, ws, pl, _, _, rfl, wok, ft.al, gw.nd, fun y hy => by have := (ps y hy).1; omega, by have := ans.1; omega, ans.2, rfl, ?_⟩
  generalize hbe : Cw.behind ws pl (answer b (askOf ws pl)).1 (answer b (askOf ws pl)).2 = be
  have l6 : ∀ x y v : Option Rv, (((δ.set 4 x).set 5 y).set 6 v).length = 7 := fun x y v => gs_len (gs_len (gs_len c1))
  cases cn with
  | agreed e =>
    rename_i a
    rw [e] at hbe
    subst hbe
    refine xs_cons (xs_ifT (xt_cm (xc_ne hr (xe_ix (xe_name (i := 6) (gs_eq (gs_len (gs_len c1))) (xe_int ⟨_, 0, .d (.str "agreed"), .tup [.str "agreed", eAsk a], rfl, rfl, xe_str ⟨_, _, .d _, .d _, (sh_str k_agreed).ok (by decide), (sh_str k_planw).ok (by decide), by rw [eqv_str]; decide +kernel, ?_⟩⟩))))))
    refine xs_one (xs_ret (xe_cat (xe_name (i := 6) (gs_eq (gs_len (gs_len c1))) (xe_tup (xa_cons (xe_name (i := 3) (gs_ne (gs_ne (gs_ne c4))) (xa_nil ⟨by simp, _, _, trivial, .tup [.str "agreed", eAsk a], trivial, .t _, by simp, _, .refl _, q q0 _⟩)))))))
  | failed e =>
    rename_i kd
    rw [e] at hbe
    subst hbe
    refine xs_cons (xs_ifT (xt_cm (xc_ne hr (xe_ix (xe_name (i := 6) (gs_eq (gs_len (gs_len c1))) (xe_int ⟨_, 0, .d (.str "failed"), .tup [.str "failed", .str kd], rfl, rfl, xe_str ⟨_, _, .d _, .d _, (sh_str k_failed).ok (by decide), (sh_str k_planw).ok (by decide), by rw [eqv_str]; decide +kernel, ?_⟩⟩))))))
    refine xs_one (xs_ret (xe_cat (xe_name (i := 6) (gs_eq (gs_len (gs_len c1))) (xe_tup (xa_cons (xe_name (i := 3) (gs_ne (gs_ne (gs_ne c4))) (xa_nil ⟨by simp, _, _, trivial, .tup [.str "failed", .str kd], trivial, .t _, by simp, _, .refl _, q q0 _⟩)))))))
  | plan e cn =>
    rename_i m' pn r
    rw [e] at hbe
    subst hbe
    refine xs_cons (xs_ifF (xt_cm (xc_ne hr (xe_ix (xe_name (i := 6) (gs_eq (gs_len (gs_len c1))) (xe_int ⟨_, 0, .d (.str "plan"), .tup [.str "plan", ePlan pn, eAsk r], rfl, rfl, xe_str ⟨_, _, .d _, .d _, (sh_str k_planw).ok (by decide), (sh_str k_planw).ok (by decide), by rw [eqv_str]; decide +kernel, xs_nil ?_⟩⟩))))))
    refine xs_one (xs_set (i := 2) (xe_ix (xe_name (i := 6) (gs_eq (gs_len (gs_len c1))) (xe_int ⟨_, 1, .d (ePlan pn), .tup [.str "plan", ePlan pn, eAsk r], rfl, rfl, ?_⟩))) nd)
    obtain ⟨_, _, ep, _⟩ := behind_plan e
    refine ⟨m', Nat.lt_succ_self _, gs_len (gs_len (gs_len (gs_len c1))), gs_ne (gs_ne (gs_ne (gs_ne c2))), gs_ne (gs_ne (gs_ne (gs_ne c3))), gs_ne (gs_ne (gs_ne (gs_ne c4))), pn, _, gs_eq (gs_len (gs_len (gs_len c1))), cn, ?_, ?_, ?_, rfl⟩
    · rw [ep]
      exact ft.now _ _
    · rw [ep]
      exact left_shp ps
    · rw [List.length_append, List.length_singleton]
      omega
theorem final_closed {s : WS} (h : final s = true) : (openWith (s.e false) (s.e true) = true) ∨ (openWith (s.e false) (s.e true) = false ∧ ∀ i, (s.e i).closed = true) := by
  cases ho : openWith (s.e false) (s.e true) with
  | true => exact .inl rfl
  | false =>
    unfold final bothClosed at h
    rw [ho, Bool.false_and, Bool.or_false, Bool.and_eq_true] at h
    exact .inr ⟨rfl, fun i => by cases i; exact h.1; exact h.2⟩
theorem at_final {bk : Bool → Book} {s : WS} (g : Good bk) (hi : Cw.Inv bk s) (hs : Shp bk s) (hf : final s = true) :
    unlikeB (s.e false) (s.e true) = false ∧ (openWith (s.e false) (s.e true) = true → ∀ i, ∃ a, (s.e i).given = some a ∧ a.length ≤ 3 ∧ beyondB (s.e i) (bk !i).bounds a = false) ∧ ∀ i, (!(s.e i).closed && againB (s.e i)) = false := by
  rcases final_closed hf with ho | ⟨ho, hc⟩
  · have wi : ∀ i, (s.e i).wishes = (bk i).wishes := fun i => (hs.e i).wi
    refine ⟨?_, fun _ i => ?_, fun i => ?_⟩
    · obtain ⟨a0, h1, h2, _⟩ := open_right hi ho false
      obtain ⟨a1, h3, h4, _⟩ := open_right hi ho true
      have h2' : (s.e true).took = some a0 := h2
      have h4' : (s.e false).took = some a1 := h4
      unfold unlikeB
      rw [h1, h2', h3, h4', decide_eq_false (fun z => z rfl), decide_eq_false (fun z => z rfl)]
      rw [ho]
      rfl
    · obtain ⟨a, h1, _, h3, h4, _⟩ := open_right hi ho i
      refine ⟨a, h1, ?_, ?_⟩
      · rw [h3, wi]
        exact (ask_shp (g.w i) (hs.e i).pl).1
      · unfold beyondB
        rw [List.any_eq_false]
        intro p hp
        obtain ⟨⟨v, hv, e1, e2⟩, l, e3, e4⟩ := h4 p hp
        have nd : ((worthsOf (s.e i).wishes).map (·.1)).Nodup := by
          unfold worthsOf
          rw [List.map_map, wi]
          exact (g.w i).nd
        have e5 : lk (worthsOf (s.e i).wishes) p.1 = some v.worths := Cw.lk_of nd (by
          unfold worthsOf
          rw [wi]
          exact List.mem_map.mpr ⟨v, hv, by rw [e1]⟩)
        rw [e5, e3]
        simp [e2, e4]
    · obtain ⟨_, _, _, _, _, h5, _⟩ := open_right hi ho i
      have : againB (s.e i) = false := by
        unfold againB
        rw [List.any_eq_false]
        intro p hp
        have := h5 p hp
        simp [this.1, this.2]
      rw [this, Bool.and_false]
  · refine ⟨?_, fun z => (by rw [ho] at z; cases z), fun i => by rw [hc i]; rfl⟩
    unfold unlikeB
    rw [ho]
    rfl
theorem sc_unsafe : FnScope ["wire", "one", "other", "mine", "yours", "is_open", "words"] ["wire"] (defScope (top 83)) := ⟨rfl, rfl, rfl, by decide +kernel, rfl, by decide +kernel, by decide +kernel⟩
theorem d_unsafe (kl : Kls K C wireFl) (F : FnP K "unsafe" (top 83) f fd) {fE : Addr} (DE : Df P w K mg base k fE ["self"] (sEnds C)) (mE : Meth K C "ends" fE) {fS : Addr} (DS : Df P w K mg base k fS ["self"] (sSaved C)) (mS : Meth K C "saved" fS) {fO : Addr} (DO : Df P w K mg base k fO ["one", "other"] sOpenWith) (gO : mg "stands_open_with" = some (.ref fO))
    {fU : Addr} (DU : Df P w K mg base k fU ["one", "other"] sUnlike) (gU : mg "are_unlike" = some (.ref fU)) {fB : Addr} (DB : Df P w K mg base k fB ["end", "bounds"] sIsBeyond) (gB' : mg "is_beyond" = some (.ref fB)) {fA : Addr} (DA : Df P w K mg base k fA ["end"] sAsksAgain) (gA : mg "asks_again" = some (.ref fA)) : Df P w K mg base (k + 1) f ["wire"] (sUnsafe C) := by
  have nd := sc_unsafe.nd
  refine df_by F sc_unsafe (fun _ _ _ _ _ _ us hl => match us, hl with | [_], _ => rfl) (fun args μ Q ⟨_, _, _, _, _, e, _⟩ => by rw [e]; rfl) fun cdv A outer s H E hr F args μ Q h => ?_
  obtain ⟨p, pp, ps, bk, s', rfl, g, hi, hs, hf, rfl, q⟩ := h
  obtain ⟨f1, f2, f3⟩ := at_final g hi hs hf
  have fine := fine_of g hi hs
  have wi : ∀ i, (s'.e i).wishes = (bk i).wishes := fun i => (hs.e i).wi
  refine xs_cons (xs_asg [1, 2] (xe_meth0 DE kl mE hr (xe_name (i := 0) rfl ⟨p, _, rfl, .head _, fw_ends bk pp ps s' false, [_], [], .refl _, p, pp, ps, bk, s', rfl, rfl, ?_⟩)))
  refine xg_tupD (xgs_cons (xg_name (i := 1) (xgs_cons (xg_name (i := 2) (xgs_nil ?_) nd)) nd))
  refine xs_cons (xs_asg [3, 4] (xe_slT (xe_meth0 DS kl mS hr (xe_name (i := 0) rfl ⟨p, _, rfl, .head _, fw_saved bk pp ps s' false, [_], [], .refl _, p, pp, ps, bk, s', rfl, rfl, ?_⟩))))
  refine xe_int ⟨2, rfl, _, trivial, .tup _, ?_⟩
  refine xg_tup (rs := [.d (eBook (bk false)), .d (eBook (bk true))]) (xgs_cons (xg_name (i := 3) (xgs_cons (xg_name (i := 4) (xgs_nil ?_) nd)) nd))
  refine xs_cons (xs_set (i := 5) (xe_call DO hr gO (xa_cons (xe_name (i := 1) rfl (xa_cons (xe_name (i := 2) rfl (xa_nil ⟨[], _, .refl _, s'.e false, s'.e true, rfl, rfl, ?_⟩)))))) nd)
  refine xs_cons (xs_set (i := 6) (xe_lst (xa_nil ⟨by simp, fun q0 => ?_⟩)) nd)
  have gv : ∀ o ∈ [(s'.e false).given, (s'.e true).given, (s'.e false).took, (s'.e true).took], ∀ a, o = some a → ∀ z ∈ a, KOk z.1 := fun o ho => by
    simp only [List.mem_cons, List.not_mem_nil, or_false] at ho
    rcases ho with rfl | rfl | rfl | rfl
    · exact (fine.gv false).1
    · exact (fine.gv true).1
    · exact (fine.gv false).2
    · exact (fine.gv true).2
  refine xs_cons (xs_ifF (xt_val (xe_call DU hr gU (xa_cons (xe_name (i := 1) rfl (xa_cons (xe_name (i := 2) rfl (xa_nil ⟨[], _, .refl _, s'.e false, s'.e true, rfl, gv, rfl, _, rfl, f1, xs_nil ?_⟩))))))))
  refine xs_cons (xs_ifF (XT.mono (Q := fun k μ1 => k = false ∧ μ1 = [(q0, .lst []), (p, .ins C (fWire bk pp ps s' false))]) ?_ fun k μ1 ⟨ek, em⟩ => ⟨ek, xs_nil ?_⟩))
  · refine xt_w (xw_and (xt_val (xe_name (i := 5) rfl ⟨_, rfl, fun ho => ?_, fun ho => ⟨rfl, rfl⟩⟩)))
    obtain ⟨a0, h1, h2, h3⟩ := f2 ho false
    obtain ⟨a1, h4, h5, h6⟩ := f2 ho true
    refine xw_and1 (xt_w (xw_orF (xt_val (xe_call DB hr gB' (xa_cons (xe_name (i := 1) rfl (xa_cons (xe_ix (xe_name (i := 4) rfl (xe_int ⟨_, 1, .d (ePlan (bk true).bounds), .tup _, rfl, rfl, xa_nil ?_⟩))))))))))
    refine ⟨[], _, .refl _, s'.e false, (bk true).bounds, a0, rfl, h1, fine.ws false, by rw [wi]; exact (g.w false).nd, (g.b true).ok, by omega, (fine.gv false).1 a0 h1, rfl, _, rfl, h3, ?_⟩
    refine xw_or1 (xt_val (xe_call DB hr gB' (xa_cons (xe_name (i := 2) rfl (xa_cons (xe_ix (xe_name (i := 3) rfl (xe_int ⟨_, 1, .d (ePlan (bk false).bounds), .tup _, rfl, rfl, xa_nil ?_⟩))))))))
    exact ⟨[], _, .refl _, s'.e true, (bk false).bounds, a1, rfl, h4, fine.ws true, by rw [wi]; exact (g.w true).nd, (g.b false).ok, by omega, (fine.gv true).1 a1 h4, rfl, _, rfl, h6, rfl⟩
  subst em
  refine xs_cons (xs_ifF (xt_w (xw_orF (xt_val (xe_call DA hr gA (xa_cons (xe_name (i := 1) rfl (xa_nil ⟨[], _, .refl _, s'.e false, rfl, fine.ws false, fun z hz => allP_k (g.w false) ((hs.e false).rf.2 z hz), rfl, _, rfl, f3 false, ?_⟩))))))))
  refine xw_or1 (xt_val (xe_call DA hr gA (xa_cons (xe_name (i := 2) rfl (xa_nil ⟨[], _, .refl _, s'.e true, rfl, fine.ws true, fun z hz => allP_k (g.w true) ((hs.e true).rf.2 z hz), rfl, _, rfl, f3 true, xs_nil ?_⟩)))))
  exact xs_one (xs_ret (xe_name (i := 6) rfl ⟨_, .refl _, q q0⟩))
end
end Wk

/-! text Wk24 -/
/-! The walk: the law's pen and its draws. -/
namespace Wk
open PySem PySem.Spec PyProof.Rows L2 Ds Cw
/-- what the pen holds -/
structure Pen where
  pc : Addr
  cells : List Int
  a : Int
  l : Int
structure PenOk (N : Int) (x : Pen) : Prop where
  a0 : 0 ≤ x.a
  aN : x.a ≤ N
  l0 : 0 ≤ x.l
  few : x.cells.length ≤ 63
def kPen (x : Pen) : List (Str × Rv) := [("cells", .r (.ref x.pc)), ("at", .d (.int x.a)), ("left", .d (.int x.l))]
def oCells (x : Pen) : Ob := .lst (x.cells.map fun n => .d (.int n))
def penMu (p : Addr) (x : Pen) : Mu := [(p, .dic (kPen x)), (x.pc, oCells x)]
theorem kp_cells (x : Pen) : dk (kPen x) "cells" = some (.r (.ref x.pc)) := by kernel_rfl
theorem kp_at (x : Pen) : dk (kPen x) "at" = some (.d (.int x.a)) := by kernel_rfl
theorem kp_left (x : Pen) : dk (kPen x) "left" = some (.d (.int x.l)) := by kernel_rfl
theorem kp_putAt (x : Pen) (n : Int) : dput (kPen x) "at" (.d (.int n)) = kPen { x with a := n } := by kernel_rfl
theorem kp_putLeft (x : Pen) (n : Int) : dput (kPen x) "left" (.d (.int n)) = kPen { x with l := n } := by kernel_rfl
def sDraw : Sc := fun args μ Q => ∃ (p : Addr) (x : Pen) (n N : Int), args = [.r (.ref p), .d (.int n)] ∧ 1 ≤ n ∧ n ≤ 1000 ∧ N ≤ 100000 ∧ PenOk N x ∧ μ = penMu p x ∧ ∀ (r : Int) (y : Pen), 0 ≤ r → r < n → PenOk (N + 1) y → Q (.d (.int r)) (penMu p y)
section
variable {P : Program} {w : World} {K : PySem.W.Frag} {mg : Str → Option Value} {base : Heap} {f C CS fH : Addr} {fd : FuncData} {k : Nat} {kws : List (Str × V)}
theorem mod_pos {a b : Int} (h : 0 < b) : 0 ≤ a % b ∧ a % b < b := ⟨Int.emod_nonneg _ (by omega), Int.emod_lt_of_pos _ h⟩
theorem sc_draw : FnScope ["_law_pen_here", "_law_many", "_law_found", "_law_at", "_law_cell", "_law_whole", "_law_one", "_law_two"] ["_law_pen_here", "_law_many"] (defScope (top 86)) := ⟨rfl, rfl, rfl, by decide +kernel, rfl, by decide +kernel, by decide +kernel⟩
theorem d_draw (F : FnP K "_law_draw" (top 86) f fd) (b_len : mg "len" = none) (b_abs : mg "abs" = none) (b_int : mg "int" = none) : Df P w K mg base (k + 1) f ["_law_pen_here", "_law_many"] sDraw := by
  have nd := sc_draw.nd
  refine df_by F sc_draw (fun _ _ _ _ _ _ us hl => match us, hl with | [_, _], _ => rfl) (fun args μ Q ⟨_, _, _, _, e, _⟩ => by rw [e]; rfl) fun cdv A outer s H E hr F args μ Q h => ?_
  obtain ⟨p, x, n, N, rfl, n1, n2, hN, ok, rfl, q⟩ := h
  have n0 : 0 < n := by omega
  refine xs_cons (xs_if (xt_cm (xc_gt (xe_dget hr (xe_name (i := 0) rfl (xe_str ⟨p, _, _, _, rfl, .head _, rfl, kp_left x, xe_int ⟨_, _, rfl, rfl, fun h1 => ?_, fun h1 => xs_nil ?_⟩⟩))))))
  · refine xs_cons (xs_set (i := 2) (xe_mod (xe_dget hr (xe_name (i := 0) rfl (xe_str ⟨p, _, _, _, rfl, .head _, rfl, kp_left x, xe_name (i := 1) rfl ⟨_, _, rfl, rfl, n0, ?_⟩⟩)))) nd)
    refine xs_cons (xs_dput hr (xe_fdiv (xe_dget hr (xe_name (i := 0) rfl (xe_str ⟨p, _, _, _, rfl, .head _, rfl, kp_left x, xe_name (i := 1) rfl ⟨_, _, rfl, rfl, ⟨n0, by omega⟩, xe_name (i := 0) rfl (xe_str ⟨p, _, _, _, rfl, rfl, by simp [kPen], .here, ?_⟩)⟩⟩)))))
    rw [kp_putLeft]
    refine xs_one (xs_ret (xe_name (i := 2) rfl ⟨_, .refl _, ?_⟩))
    exact q _ { x with l := x.l / n } (mod_pos n0).1 (mod_pos n0).2 ⟨ok.a0, by have := ok.aN; show x.a ≤ N + 1; omega, Int.ediv_nonneg ok.l0 (by omega), ok.few⟩
  refine xs_cons (xs_set (i := 3) (xe_dget hr (xe_name (i := 0) rfl (xe_str ⟨p, _, _, _, rfl, .head _, rfl, kp_at x, ?_⟩))) nd)
  refine xs_cons (xs_dput hr (xe_add (xe_name (i := 3) rfl (xe_int ⟨_, _, rfl, rfl, xe_name (i := 0) rfl (xe_str ⟨p, _, _, _, rfl, rfl, by simp [kPen], .here, ?_⟩)⟩))))
  rw [kp_putAt]
  have ok1 : PenOk (N + 1) { x with a := x.a + 1 } := ⟨by have := ok.a0; show 0 ≤ x.a + 1; omega, by have := ok.aN; show x.a + 1 ≤ N + 1; omega, ok.l0, ok.few⟩
  refine xs_cons (xs_set (i := 4) (xe_add (xe_mul (xe_int (xe_name (i := 3) rfl ⟨_, _, rfl, rfl, .inl (by decide), xe_int ⟨_, _, rfl, rfl, ?_⟩⟩)))) nd)
  -- the cell
  refine xs_cons (XS.nxm (fun δ' μ' => ∃ c : Int, δ' = [some (.r (.ref p)), some (.d (.int n)), none, some (.d (.int x.a)), some (.d (.int c)), none, none, none] ∧ Hs (penMu p { x with a := x.a + 1 }) μ') ?_ ?_)
  · refine xs_if (xt_cm (xc_ne hr (xe_dget hr (xe_name (i := 0) rfl (xe_str ⟨p, _, _, _, rfl, .head _, rfl, kp_cells _, xe_lst (xa_nil ⟨by simp, fun q0 => ⟨.list (x.cells.map .int), .list [], .lst (by rw [List.map_map]; exact .tail _ (.tail _ (.head _))), .lst (.head _), (sh_mapL fun n _ => sh_int n).ok (by decide), rfl, fun h2 => ?_, fun h2 => xs_nil ⟨_, rfl, (Hs.refl _).right [_]⟩⟩⟩)⟩)))))
    rw [eqv_list0] at h2
    have hne : x.cells ≠ [] := fun z => by rw [z] at h2; cases h2
    have hl : 0 < x.cells.length := List.length_pos_iff.mpr hne
    refine xs_one (xs_set (i := 4) (xe_ix (xe_dget hr (xe_name (i := 0) rfl (xe_str ⟨p, _, _, _, rfl, .tail _ (.head _), rfl, kp_cells _, ?_⟩)))) nd)
    refine xe_mod (xe_name (i := 3) rfl (xe_len b_len (xa_cons (xe_dget hr (xe_name (i := 0) rfl (xe_str ⟨p, _, _, _, rfl, .tail _ (.head _), rfl, kp_cells _, xa_nil (.inl ⟨_, _, rfl, .lst (.tail _ (.tail _ (.head _))), _, _, rfl, rfl, ?_, ?_⟩)⟩))))))
    · rw [List.length_map]
      exact Int.ofNat_lt.mpr hl
    have hm := mod_pos (a := x.a) (b := (x.cells.length : Int)) (Int.ofNat_lt.mpr hl)
    obtain ⟨j, hj⟩ : ∃ j : Nat, x.a % (x.cells.length : Int) = j := ⟨(x.a % (x.cells.length : Int)).toNat, by omega⟩
    have hjl : j < x.cells.length := by rw [hj] at hm; omega
    refine ⟨_, _, .d (.int x.cells[j]), .lst (.tail _ (.tail _ (.head _))), rfl, ?_, _, rfl, (Hs.refl _).right [_]⟩
    rw [List.length_map, hj]
    exact atI_nat (by rw [List.getElem?_map, List.getElem?_eq_getElem hjl]; rfl)
  rintro δ' μ' ⟨c, rfl, hs⟩
  refine XSs.hs hs ?_
  refine xs_cons (XS.nxm (fun δ' μ' => δ' = [some (.r (.ref p)), some (.d (.int n)), none, some (.d (.int x.a)), some (.d (.int c)), none, none, none] ∧ μ' = penMu p { x with a := x.a + 1 }) ?_ ?_)
  · refine xs_if (xt_w (xw_and (xt_cm (xc_lt (xe_name (i := 3) rfl (xe_len b_len (xa_cons (xe_dget hr (xe_name (i := 0) rfl (xe_str ⟨p, _, _, _, rfl, .head _, rfl, kp_cells _, xa_nil (.inl ⟨_, _, rfl, .lst (.tail _ (.head _)), _, _, rfl, rfl, fun h2 => ?_, fun h2 => ⟨(fun z => by cases z), fun _ => xs_nil ⟨rfl, rfl⟩⟩⟩)⟩))))))))))
    refine xw_and1 (xt_cm (xc_ge (xe_abs b_abs (xe_name (i := 4) rfl ⟨c, rfl, xe_pow (xe_int (xe_int ⟨_, _, rfl, rfl, ⟨by decide, by decide, by decide⟩, _, _, rfl, rfl, fun h3 => ?_, fun h3 => xs_nil ⟨rfl, rfl⟩⟩))⟩))))
    refine xs_cons (xs_set (i := 5) (xe_add (xe_mul (xe_int (xe_abs b_abs (xe_name (i := 4) rfl ⟨c, rfl, _, _, rfl, rfl, .inl (by decide), ?_⟩))))) nd)
    refine xe_intB b_int (xe_cm (xc_lt (xe_name (i := 4) rfl (xe_int ⟨_, _, rfl, rfl, _, rfl, _, _, rfl, rfl, ?_⟩))))
    generalize hw : (2 * (if c < 0 then -c else c) + if decide (c < 0) = true then (1 : Int) else 0) = wh
    have wh0 : 0 ≤ wh := by
      rw [← hw]
      split <;> split <;> omega
    refine xs_cons (xs_dput hr (xe_fdiv (xe_name (i := 5) rfl (xe_name (i := 1) rfl ⟨_, _, rfl, rfl, ⟨n0, by omega⟩, xe_name (i := 0) rfl (xe_str ⟨p, _, _, _, rfl, rfl, by simp [kPen], .here, ?_⟩)⟩))))
    rw [kp_putLeft]
    refine xs_one (xs_ret (xe_mod (xe_name (i := 5) rfl (xe_name (i := 1) rfl ⟨_, _, rfl, rfl, n0, _, .refl _, ?_⟩))))
    exact q _ { x with a := x.a + 1, l := wh / n } (mod_pos n0).1 (mod_pos n0).2 ⟨ok1.a0, ok1.aN, Int.ediv_nonneg wh0 (by omega), ok.few⟩
  rintro δ' μ' ⟨rfl, rfl⟩
  have a0 := ok.a0
  have aN := ok.aN
  have m1 := mod_pos (a := c) (b := 2147483563) (by decide)
  refine xs_cons (xs_set (i := 6) (xe_mod (xe_pow (xe_add (xe_add (xe_mod (xe_name (i := 4) rfl (xe_int ⟨_, _, rfl, rfl, by decide, xe_mul (xe_int (xe_name (i := 3) rfl ⟨_, _, rfl, rfl, .inl (by decide), _, _, rfl, rfl, xe_int ⟨_, _, rfl, rfl, xe_int ⟨_, _, rfl, rfl, ⟨by decide, by decide, by omega⟩, xe_int ⟨_, _, rfl, rfl, by decide, ?_⟩⟩⟩⟩))⟩))))))) nd)
  generalize hz : (c % 2147483563 + 70997 * x.a + 79) ^ (5 : Int).toNat % 2147483647 = z
  have z0 : 0 ≤ z ∧ z < 2147483647 := by rw [← hz]; exact mod_pos (by decide)
  have pz : 0 ≤ z * (x.a + 65539) ∧ z * (x.a + 65539) ≤ 2147483647 * 165539 := ⟨Int.mul_nonneg z0.1 (by omega), Int.le_trans (Int.mul_le_mul_of_nonneg_right (Int.le_of_lt z0.2) (by omega)) (Int.mul_le_mul_of_nonneg_left (by omega) (by decide))⟩
  have pa : 0 ≤ 85009 * x.a * x.a ∧ 85009 * x.a * x.a ≤ 85009 * 100000 * 100000 := ⟨Int.mul_nonneg (by omega) a0, Int.le_trans (Int.mul_le_mul_of_nonneg_right (b := 85009 * 100000) (by omega) a0) (Int.mul_le_mul_of_nonneg_left (by omega) (by decide))⟩
  refine xs_cons (xs_set (i := 7) (xe_mod (xe_pow (xe_add (xe_mul (xe_name (i := 6) rfl (xe_add (xe_name (i := 3) rfl (xe_int ⟨_, _, rfl, rfl, _, _, rfl, rfl, .inl (by omega), xe_mul (xe_mul (xe_int (xe_name (i := 3) rfl ⟨_, _, rfl, rfl, .inl (by decide), xe_name (i := 3) rfl ⟨_, _, rfl, rfl, .inr (by omega), _, _, rfl, rfl, xe_int ⟨_, _, rfl, rfl, ⟨by decide, by decide, by omega⟩, xe_int ⟨_, _, rfl, rfl, by decide, ?_⟩⟩⟩⟩)))⟩)))))))) nd)
  refine xs_one (xs_ret (xe_mod (xe_fdiv (xe_name (i := 7) rfl (xe_int ⟨_, _, rfl, rfl, ⟨by decide, by decide⟩, xe_name (i := 1) rfl ⟨_, _, rfl, rfl, n0, _, .refl _, ?_⟩⟩)))))
  exact q _ { x with a := x.a + 1 } (mod_pos n0).1 (mod_pos n0).2 ok1
end
end Wk

/-! text Wk25 -/
/-! The walk: the law's pen: a list that the caller holds is read. -/
namespace Ds
open PySem PySem.Spec PyProof.Rows L2
/-- a list that stood there at the entry, whatever is done -/
def Kn (K : PySem.W.Frag) (F : Fm) (p : Addr) (vs : List V) : Prop := F.M = [] ∧ SqL K F.H0 p vs
section
variable {K : PySem.W.Frag} {F : Fm} {H : Hp} {μ : Mu} {p : Addr} {vs : List V}
theorem sql_up {H H' : Hp} (h : SqL K H p vs) (k : ∀ a o, H a = some o → H' a = some o) : SqL K H' p vs := by
  rcases h with h | h
  · rcases h with h | ⟨o, h⟩
    · exact .inl (.inl (k _ _ h))
    · exact .inl (.inr ⟨o, k _ _ h⟩)
  · exact .inr h
theorem Kn.at_ (h : Kn K F p vs) (f : Fk F H μ) : SqL K H p vs := sql_up h.2 fun a o e => f.kp a o e (by rw [h.1]; exact List.not_mem_nil)
end
section
variable {X : Cx} {F : Fm} {δ : De} {μ : Mu} {a : Expr} {p2 pos : Pos} {Q : Rv → Mu → Prop} {lo hi : Option Expr}
/-- xs[lo:hi] of it -/
theorem xe_slK (h : XE X F δ μ a fun ra μ1 => XO X F δ μ1 lo fun l μ2 => XO X F δ μ2 hi fun u μ3 => ∃ (p : Addr) (ns : List Int), ra = .r (.ref p) ∧ Kn X.K F p (ns.map V.int) ∧ ∀ p, Q (.r (.ref p)) ((p, .lst (cutR (ns.map fun n => Rv.d (.int n)) l u)) :: μ3)) : XE X F δ μ (.Subscript a (.Slice lo hi none p2) pos) Q := fun σ H lo0 ow fk =>
  we_of (pe_slice sl_list pe_w po_w po_w) (h.run lo0 ow fk fun v H1 ra μ1 t1 lo1 r1 ow1 fk1 q1 => q1.run lo1 ow1 fk1 fun l H2 μ2 t2 lo2 ow2 fk2 q2 => q2.run lo2 ow2 fk2 fun u H3 μ3 t3 lo3 ow3 fk3 ⟨p, ns, e, hk, q⟩ => by
    subst e
    cases r1
    have hv : ∀ (H : Hp) (ns : List Int), Rks X.K H (ns.map V.int) (ns.map fun n => Rv.d (.int n)) := fun H ns => by
      induction ns with
      | nil => exact .nil
      | cons n ns ih => exact .cons (.d (.int n)) ih
    exact ⟨p, ns.map V.int, rfl, hk.at_ fk3, fun p hp => Pe.back ((t1.trans t2).trans t3) _ _ (pe_newO (ob := .lst (cutR (ns.map fun n => Rv.d (.int n)) l u)) hp ⟨_, upd_same, (hv _ ns).cut l u⟩ ow3 fk3 (q p))⟩)
/-- {'a': .., ..} where nothing is held yet -/
theorem xe_dispK {keys : List (Option Expr)} {values : List Expr} (h : ∀ F', (∀ p vs, Kn X.K F p vs → Kn X.K F' p vs) → XPs X F' δ [] keys values fun rs μ1 => ∀ p, Q (.r (.ref p)) ((p, .dic (dmerge [] rs)) :: μ1)) (hall : keys.all (·.isSome) = true := by rfl) (hl : keys.length = values.length := by rfl) (h0 : keys ≠ [] := by exact List.cons_ne_nil _ _) (h15 : keys.length ≤ 15 := by decide) :
    XE X F δ [] (.Dict keys values pos) Q := fun σ H lo ow fk =>
  we_of (pe_disp (pps_w (by rw [hall, hl]; simp)) hall hl h0 h15) fun p hp => by
    have tn : TK H (upd H p (.dK [])) := TK.new hp _
    have ow0 := ow.new hp (.dK [])
    have fk0 := fk.new hp (.dK [])
    refine xps_run (h ⟨upd H p (.dK []), []⟩ fun a vs k => ⟨rfl, sql_up (k.at_ fk) fun b o e => by show upd H p _ b = _; rw [upd_ne (ne_of_none e hp)]; exact e⟩) (lo.keep tn) ow0 (Fk.start fk.nd) fun ps H2 rs μ2 t2 e0 e1 r2 ow2 fk2 q => ?_
    have hp2 : H2 p = some (.dK []) := fk2.kp p _ upd_same List.not_mem_nil
    refine ⟨hp2, ?_⟩
    obtain ⟨kv, k1, k2, k3⟩ := pairs_back e1
    have hl2 : kv.length = rs.length := by have := congrArg List.length k2; simpa using this
    have t3 : TK H2 (upd H2 p (.dK (mergeK [] kv))) := TK.upd hp2 fun z => z
    have hn2 : p ∉ μ2.map (·.1) := fun z => by
      obtain ⟨q, hq, e⟩ := List.mem_map.mp z
      rcases fk2.nw q hq with g | g
      · cases g
      · have g' : upd H p (.dK []) q.1 = none := g
        rw [e, upd_same] at g'
        cases g'
    refine ⟨kv, k1, by rw [hl2, e0]; exact h15, (tn.trans t2).trans t3, _, _, .r _, (ow2.upd hp2 (fun z => z) hn2).more (a := p) (o := .dic (dmerge [] rs)) ⟨_, upd_same, ?_⟩, ?_, q p⟩
    · have z : DR X.K (upd H2 p (.dK (mergeK [] kv))) kv rs := ⟨k2, by rw [k3]; exact r2.keep t3⟩
      exact z.merge .nil
    · have f := (Fk.then fk0 ow0 fk2).upd (o := .dK (mergeK [] kv)) (fk.new_or hp)
      refine ⟨List.nodup_cons.mpr ⟨hn2, f.nd⟩, f.kp, fun q hq => ?_⟩
      rcases List.mem_cons.mp hq with rfl | hq
      · exact fk.new_or hp
      · exact f.nw q hq
end
/-! ### promises that speak of the caller's heap -/
abbrev ScH := Hp → Sc
def spOfH (K : PySem.W.Frag) (S : ScH) : Sp := fun vs H Q E => spOf K (S H) vs H Q E
structure DfH (P : Program) (w : World) (K : PySem.W.Frag) (mg : Str → Option Value) (base : Heap) (k : Nat) (f : Addr) (ps : List Str) (S : ScH) : Prop where
  ex : ∃ fd : FuncData, FnOk P w K mg base CX0 k f fd ps (spOfH K S) ∧ Binds K fd ps [] ∧ PySem.W.keepIn K (.ref f) = true
section
variable {X : Cx} {F : Fm} {δ : De} {μ : Mu} {k : Nat} {f : Addr} {ps : List Str} {S : ScH} {x : Str} {p pos : Pos} {e : Expr} {es : List Expr} {Q : Rv → Mu → Prop}
theorem xe_callH (D : DfH X.prog X.w X.K X.mg X.base k f ps S) (hr : Room k X.A) (hm : X.mg x = some (.ref f))
    (h : XA X F δ μ (e :: es) fun rs μ1 => ∃ μa μr, μ1.Perm (μa ++ μr) ∧ ∀ H1, Fk F H1 μ1 → S H1 rs μa fun r μb => Q r (μb ++ μr)) (hg : Gl X x := by rfl) (hdb : (x == ("__debug__" : Str)) = false := by decide)
    (he : starEach (e :: es) X.env = (false, eval e X.env) :: starEach es X.env := by rfl) (hpl : (backTo pos (starEach es X.env)).any (·.1) = false := by rfl) : XE X F δ μ (.Call (.Name x p) (e :: es) [] pos) Q := fun σ H lo ow fk => by
  obtain ⟨fd, G, b, kp⟩ := D.ex
  refine we_of (pe_call G hr hg hm kp b .nil pass0 pa_w hdb he hpl) (h.run lo ow fk fun vs H1 rs μ1 t1 _ r1 ow1 fk1 ⟨μa, μr, pm, q⟩ => ?_)
  show spOf X.K (S H1) (vs ++ []) H1 (Pe X.K F H Q) E0
  rw [List.append_nil]
  exact (sp_call (E := E0) ow1 fk1 pm r1 (q H1 fk1)).mono (Pe.back t1)
end
section
variable {P : Program} {w : World} {K : PySem.W.Frag} {mg : Str → Option Value} {base : Heap} {x qual : Str} {params : Arguments} {body : List Stmt} {scope : Scope} {dvs : List V} {kws : List (Str × V)} {f : Addr} {fd : FuncData}
theorem df_fnH {N ps : List Str} {k : Nat} {S : ScH} (Fn : FunD K x qual params body scope dvs kws f fd) (sc : FnScope N ps scope) (len : ∀ H args μ Q, S H args μ Q → args.length = ps.length)
    (hb : ∀ (cdv : Value) (A : Around) (outer : List Env) (s : Shared) (H : Hp) (E : XK), Room k (A.deeper (envOfC qual scope s.heap.objs.size f cdv)) → ∀ (H0 : Hp) (args : List Rv) (μ : Mu) (Q : Rv → Mu → Prop), S H0 args μ Q →
      XSs (bodyX P w K mg base N qual scope f cdv A outer s H E) ⟨H0, μ.map (·.1)⟩ (startD N args) μ body (DnE Q)) : FnOk P w K mg base CX0 (k + 1) f fd ps (spOfH K S) := by
  refine Fn.ok sc (fun vs H Q E ⟨args, μ, Qd, r, _, _, h, _⟩ => by rw [r.length]; exact len _ _ _ _ h) fun cdv A outer s H vs Q E hr h => ?_
  obtain ⟨args, μ, Qd, r, ow, nd, hS, hQ⟩ := h
  refine ⟨_, PSs.nox pss_w, ?_⟩
  have hl : args.length ≤ N.length := by
    rw [len _ _ _ _ hS]
    have := congrArg List.length sc.pre
    rw [List.length_take] at this
    omega
  have z := (XSs.subs (sp_false (hb cdv A outer s H E hr H args μ Qd hS))) (L2.start N vs) H (lo_start r hl) ow (Fk.start nd)
  intro pins s' I
  refine thn (z pins s' I) fun fl s2 y => ?_
  cases fl with
  | next =>
    obtain ⟨σ', H', I', _, δ', μ', _, ow', fk', q⟩ := y
    exact ⟨σ', H', I', hQ _ _ V.non H' (.d .non) ow' fk' (TK.of_kp ow fk'.kp) q⟩
  | ret u =>
    obtain ⟨v, σ', H', I', rv, rr, μ', h1, ow', fk', q⟩ := y
    exact ⟨v, σ', H', I', rv, hQ _ _ v H' h1 ow' fk' (TK.of_kp ow fk'.kp) q⟩
  | brk =>
    obtain ⟨_, _, _, _, _, _, _, _, _, q⟩ := y
    exact q.elim
  | cont =>
    obtain ⟨_, _, _, _, _, _, _, _, _, q⟩ := y
    exact q.elim
end
end Ds
namespace Wk
open PySem PySem.Spec PyProof.Rows L2 Ds Cw
def sPen (K : PySem.W.Frag) : ScH := fun H args μ Q => ∃ (a : Addr) (ns : List Int), args = [.r (.ref a)] ∧ ns.length ≤ 63 ∧ SqL K H a (ns.map V.int) ∧ μ = [] ∧ ∀ (p : Addr) (x : Pen), PenOk 0 x → Q (.r (.ref p)) (penMu p x)
section
variable {P : Program} {w : World} {K : PySem.W.Frag} {mg : Str → Option Value} {base : Heap} {f C CS fH : Addr} {fd : FuncData} {k : Nat} {kws : List (Str × V)}
theorem sc_pen : FnScope ["_law_script"] ["_law_script"] (defScope (top 85)) := ⟨rfl, rfl, rfl, by decide +kernel, rfl, by decide +kernel, by decide +kernel⟩
theorem d_pen (F : FnP K "_law_pen" (top 85) f fd) (b_list : mg "list" = none) : DfH P w K mg base (k + 1) f ["_law_script"] (sPen K) := by
  have nd := sc_pen.nd
  refine ⟨fd, df_fnH F sc_pen (fun H args μ Q ⟨_, _, e, _⟩ => by rw [e]; rfl) fun cdv A outer s H E hr H0 args μ Q h => ?_, F.bindsN fun _ _ _ _ _ _ us hl => match us, hl with | [_], _ => rfl, F.kp⟩
  obtain ⟨a, ns, rfl, hl, hs, rfl, q⟩ := h
  refine xs_one (xs_ret (xe_dispK fun F' hk => ?_))
  refine xe_str ⟨_, rfl, xe_listOf b_list (xa_cons (xe_slK (xe_name (i := 0) rfl (xe_int ⟨_, rfl, a, ns, rfl, hk a _ ⟨rfl, hs⟩, fun p1 => xa_nil ⟨_, _, rfl, .lst (.head _), fun pc => ?_⟩⟩)))) rfl rfl⟩
  refine xe_str ⟨_, rfl, xe_int (xe_str ⟨_, rfl, xe_int fun p => ?_⟩)⟩
  have e : cutR (ns.map fun n => Rv.d (.int n)) none (some 63) = ns.map fun n => Rv.d (.int n) := by
    have e1 : ∀ n : Nat, HT.sIx n 0 none = 0 := fun _ => rfl
    have e2 : HT.sIx (ns.map fun n => Rv.d (.int n)).length (ns.map fun n => Rv.d (.int n)).length (some 63) = ns.length := by
      rw [List.length_map]
      unfold HT.sIx
      simp
      omega
    unfold cutR
    rw [e1, e2, List.drop_zero, Nat.sub_zero]
    exact List.take_of_length_le (by rw [List.length_map]; exact Nat.le_refl _)
  rw [e]
  exact ⟨_, .cons₂ _ (.cons₂ _ (List.nil_sublist _)), q p ⟨pc, ns, 0, 0⟩ ⟨Int.le_refl _, Int.le_refl _, Int.le_refl _, hl⟩⟩
end
end Wk

/-! text Wk26 -/
/-! The walk: drawn kinds and worths. -/
namespace Ds
open PySem PySem.Spec PyProof.Rows L2
section
variable {X : Cx} {F : Fm} {δ : De} {μ : Mu} {D : Dn}
theorem xa_strs : ∀ (cs : List (Str × Pos)) (Q : List Rv → Mu → Prop), Q (cs.map fun c => .d (.str c.1)) μ → XA X F δ μ (cs.map fun c => .Constant (.str c.1) 0 c.2) Q
  | [], Q, q => xa_nil q
  | c :: cs, Q, q => xa_cons (xe_str (xa_strs cs _ q))
theorem xa_ints : ∀ (cs : List (Int × Pos)) (Q : List Rv → Mu → Prop), Q (cs.map fun c => .d (.int c.1)) μ → XA X F δ μ (cs.map fun c => .Constant (.int c.1) 0 c.2) Q
  | [], Q, q => xa_nil q
  | c :: cs, Q, q => xa_cons (xe_int (xa_ints cs _ q))
section
variable {i : Nat} {y : Str} {py lpos spos : Pos} {rest : List Stmt} {es : List Expr}
/-- a list's parts out of sight -/
theorem xss_hide (h : ∀ es', es' = es → XSs X F δ μ (.Assign [.Name y py] (.List es' lpos) spos :: rest) D) : XSs X F δ μ (.Assign [.Name y py] (.List es lpos) spos :: rest) D := h es rfl
/-- y = ['a', ..] -/
theorem xss_strs (cs : List (Str × Pos)) (he : es = cs.map fun c => .Constant (.str c.1) 0 c.2) (hl : cs.length ≤ 100000) (hN : X.N.Nodup) (h : ∀ p, XSs X F (δ.set i (some (.r (.ref p)))) ((p, .lst (cs.map fun c => .d (.str c.1))) :: μ) rest D)
    (hi : X.N[i]? = some y := by rfl) (hx : Loc X.env.scope y := by first | exact Or.inl rfl | exact Or.inr rfl) (hf : X.fn y = true ∨ X.env.scope.names.lookup y = some .local := by first | exact .inl rfl | exact .inr rfl) :
    XSs X F δ μ (.Assign [.Name y py] (.List es lpos) spos :: rest) D := by
  subst he
  exact xs_cons (xs_set (i := i) (xe_lst (xa_strs cs _ ⟨by rw [List.length_map]; exact hl, h⟩)) hN hi hx rfl hf)
theorem xss_ints (cs : List (Int × Pos)) (he : es = cs.map fun c => .Constant (.int c.1) 0 c.2) (hl : cs.length ≤ 100000) (hN : X.N.Nodup) (h : ∀ p, XSs X F (δ.set i (some (.r (.ref p)))) ((p, .lst (cs.map fun c => .d (.int c.1))) :: μ) rest D)
    (hi : X.N[i]? = some y := by rfl) (hx : Loc X.env.scope y := by first | exact Or.inl rfl | exact Or.inr rfl) (hf : X.fn y = true ∨ X.env.scope.names.lookup y = some .local := by first | exact .inl rfl | exact .inr rfl) :
    XSs X F δ μ (.Assign [.Name y py] (.List es lpos) spos :: rest) D := by
  subst he
  exact xs_cons (xs_set (i := i) (xe_lst (xa_ints cs _ ⟨by rw [List.length_map]; exact hl, h⟩)) hN hi hx rfl hf)
end
end
end Ds
namespace Wk
open PySem PySem.Spec PyProof.Rows L2 Ds Cw
theorem PenOk.mono {N M : Int} {x : Pen} (h : PenOk N x) (l : N ≤ M) : PenOk M x := ⟨h.a0, by have := h.aN; omega, h.l0, h.few⟩
def NM12 : List Str := ["a", "aa", "b", "ba", "c", "k", "l", "o", "zz", "zzzzzzzz", "m", "ma"]
def WT8 : List Int := [0, 1, 2, 3, 7, 10, 9999, 5000]
theorem erase_perm {α : Type} : ∀ (l : List α) (j : Nat) (y : α), l[j]? = some y → l.Perm (y :: l.eraseIdx j)
  | [], j, y, h => by simp at h
  | a :: l, 0, y, h => by
    simp at h
    subst h
    exact .refl _
  | a :: l, j + 1, y, h => by
    simp at h
    have := erase_perm l j y h
    rw [List.eraseIdx_cons_succ]
    exact (this.cons a).trans (List.Perm.swap y a _)
theorem map_erase {α β : Type} (g : α → β) : ∀ (l : List α) (j : Nat), (l.map g).eraseIdx j = (l.eraseIdx j).map g
  | [], _ => rfl
  | _ :: _, 0 => rfl
  | a :: l, j + 1 => congrArg (g a :: ·) (map_erase g l j)
/-- one more of them is taken -/
theorem taken {α : Type} {ks rest all : List α} {j : Nat} {y : α} (h : (ks ++ rest).Perm all) (e : rest[j]? = some y) : ((ks ++ [y]) ++ rest.eraseIdx j).Perm all := by
  rw [List.append_assoc]
  exact (List.Perm.append_left ks (erase_perm rest j y e).symm).trans h
def dS (x : Str) : Rv := .d (.str x)
def dI (x : Int) : Rv := .d (.int x)
def sKinds : Sc := fun args μ Q => ∃ (p : Addr) (x : Pen) (m : Nat) (N : Int), args = [.r (.ref p), .d (.int m)] ∧ m ≤ 3 ∧ N ≤ 1000 ∧ PenOk N x ∧ μ = penMu p x ∧
  ∀ (q : Addr) (ks : List Str) (y : Pen), ks.length ≤ 3 → ks.Nodup → (∀ k ∈ ks, k ∈ NM12) → PenOk (N + 3) y → Q (.r (.ref q)) ((q, .lst (ks.map dS)) :: penMu p y)
def sWorths : Sc := fun args μ Q => ∃ (p : Addr) (x : Pen) (N : Int), args = [.r (.ref p), .d (.int 3)] ∧ N ≤ 1000 ∧ PenOk N x ∧ μ = penMu p x ∧
  ∀ (l : List Int) (y : Pen), l ≠ [] → l.length ≤ 3 → l.Nodup → (∀ n ∈ l, n ∈ WT8) → PenOk (N + 7) y → Q (.d (eInts l)) (penMu p y)
section
variable {P : Program} {w : World} {K : PySem.W.Frag} {mg : Str → Option Value} {base : Heap} {f C CS fH : Addr} {fd : FuncData} {k : Nat} {kws : List (Str × V)}
theorem sc_kinds : FnScope ["_law_pen_here", "_law_many", "_law_some", "_law_k"] ["_law_pen_here", "_law_many"] (defScope (top 87)) := ⟨rfl, rfl, rfl, by decide +kernel, rfl, by decide +kernel, by decide +kernel⟩
theorem d_kinds (F : FnP K "_law_kinds" (top 87) f fd) {fD : Addr} (DD : Df P w K mg base k fD ["_law_pen_here", "_law_many"] sDraw) (gD : mg "_law_draw" = some (.ref fD)) (b_len : mg "len" = none) (b_range : mg "range" = none) : Df P w K mg base (k + 1) f ["_law_pen_here", "_law_many"] sKinds := by
  have nd := sc_kinds.nd
  refine df_by F sc_kinds (fun _ _ _ _ _ _ us hl => match us, hl with | [_, _], _ => rfl) (fun args μ Q ⟨_, _, _, _, e, _⟩ => by rw [e]; rfl) fun cdv A outer s H E hr F args μ Q h => ?_
  obtain ⟨p, x, m, N, rfl, hm, hN, ok, rfl, q⟩ := h
  refine xss_hide ?_
  intro es he
  refine xss_strs (i := 2) [("a", _), ("aa", _), ("b", _), ("ba", _), ("c", _), ("k", _), ("l", _), ("o", _), ("zz", _), ("zzzzzzzz", _), ("m", _), ("ma", _)] (he.trans rfl) (by simp) nd fun q0 => ?_
  refine XSs.hs (μ0 := penMu p x ++ [(q0, .lst (NM12.map dS))]) ((Hs.refl _).perm (List.perm_append_comm (l₁ := [(q0, Ob.lst (NM12.map dS))]))) ?_
  refine xs_one (xs_ret (xe_lc (own := [("_law_k", 3)]) ?_ nd (blk_ok (by kernel_rfl))))
  refine xi_rng b_range (xa_cons (xe_name (i := 1) rfl (xa_nil ⟨m, rfl, by omega, by omega, ?_⟩)))
  refine ⟨by simp [rngItems]; omega, fun i acc μ' => ∃ (ks rest : List Str) (y : Pen), acc = ks.map dS ∧ ks.length = i ∧ (ks ++ rest).Perm NM12 ∧ PenOk (N + i) y ∧ μ' = penMu p y ++ [(q0, .lst (rest.map dS))], ⟨[], NM12, x, rfl, rfl, .refl _, ok.mono (by omega), rfl⟩, fun _ _ _ _ => trivial, ?_, ?_⟩
  · rintro i z acc μ' hi ⟨ks, rest, y, rfl, hl, pm, oy, rfl⟩ F' s H C cl fp
    have hlt : i < m := by
      have := (List.getElem?_eq_some_iff.mp hi).1
      simpa [rngItems] using this
    have hlen : ks.length + rest.length = 12 := by
      have := pm.length_eq
      rw [List.length_append] at this
      exact this
    refine xg_name (i := 3) (fun s H C cl fp => ?_) nd
    refine xe_popAt (xe_name (i := 2) rfl ⟨q0, rest.map dS, rfl, .tail _ (.tail _ (.head _)), xe_call DD hr gD (xa_cons (xe_name (i := 0) rfl (xa_cons (xe_len b_len (xa_cons (xe_name (i := 2) rfl (xa_nil (.inl ⟨_, _, rfl, .lst (.tail _ (.tail _ (.head _))), xa_nil ?_⟩))))))))⟩)
    refine ⟨penMu p y, [(q0, .lst (rest.map dS))], .refl _, p, y, _, N + i, rfl, by rw [List.length_map]; omega, by rw [List.length_map]; omega, by omega, oy, rfl, fun r y' r0 rn oky => ?_⟩
    obtain ⟨j, rfl⟩ := Int.eq_ofNat_of_zero_le r0
    rw [List.length_map] at rn
    have hj : j < rest.length := by omega
    refine ⟨rest.map dS, j, dS rest[j], _, rfl, by rw [List.length_map]; omega, by rw [List.getElem?_map, List.getElem?_eq_getElem hj]; rfl, .there (.there .here), ks ++ [rest[j]], rest.eraseIdx j, y', by rw [List.map_append]; rfl, by rw [List.length_append, hl]; rfl, taken pm (List.getElem?_eq_getElem hj), oky.mono (by omega), ?_⟩
    rw [map_erase]
    rfl
  · rintro acc μ' ⟨ks, rest, y, rfl, hl, pm, oy, rfl⟩ p2
    have hm' : ks.length = m := by rw [hl]; simp [rngItems]
    have ndk : (ks ++ rest).Nodup := pm.nodup_iff.mpr (by decide +kernel)
    refine ⟨_, .cons₂ _ (List.sublist_append_left _ _), q p2 ks y (by omega) (List.nodup_append.mp ndk).1 (fun k hk => pm.subset (List.mem_append_left _ hk)) (oy.mono ?_)⟩
    simp [rngItems]
    omega
end
end Wk

/-! text Wk27 -/
/-! The walk: drawn worths. -/
namespace Wk
open PySem PySem.Spec PyProof.Rows L2 Ds Cw
section
variable {P : Program} {w : World} {K : PySem.W.Frag} {mg : Str → Option Value} {base : Heap} {f C CS fH : Addr} {fd : FuncData} {k : Nat} {kws : List (Str × V)}
theorem sc_worths : FnScope ["_law_pen_here", "_law_most", "_law_some", "_law_found", "_law_k"] ["_law_pen_here", "_law_most"] (defScope (top 88)) := ⟨rfl, rfl, rfl, by decide +kernel, rfl, by decide +kernel, by decide +kernel⟩
theorem d_worths (F : FnP K "_law_worths" (top 88) f fd) {fD : Addr} (DD : Df P w K mg base k fD ["_law_pen_here", "_law_many"] sDraw) (gD : mg "_law_draw" = some (.ref fD)) (b_len : mg "len" = none) (b_range : mg "range" = none) (b_min : mg "min" = none) (b_tuple : mg "tuple" = none) : Df P w K mg base (k + 1) f ["_law_pen_here", "_law_most"] sWorths := by
  have nd := sc_worths.nd
  refine df_by F sc_worths (fun _ _ _ _ _ _ us hl => match us, hl with | [_, _], _ => rfl) (fun args μ Q ⟨_, _, _, e, _⟩ => by rw [e]; rfl) fun cdv A outer s H E hr F args μ Q h => ?_
  obtain ⟨p, x, N, rfl, hN, ok, rfl, q⟩ := h
  refine xss_hide ?_
  intro es he
  refine xss_ints (i := 2) [(0, _), (1, _), (2, _), (3, _), (7, _), (10, _), (9999, _), (5000, _)] (he.trans rfl) (by simp) nd fun qs => ?_
  clear he es
  refine xs_cons (xs_set (i := 3) (xe_lst (xa_nil ⟨by simp, fun qf => ?_⟩)) nd)
  refine XSs.hs (μ0 := penMu p x ++ [(qs, .lst (WT8.map dI)), (qf, .lst [])]) ((Hs.refl _).perm (((List.Perm.swap (qs, Ob.lst (WT8.map dI)) (qf, Ob.lst []) (penMu p x)).trans (List.perm_append_comm (l₁ := [(qs, Ob.lst (WT8.map dI)), (qf, Ob.lst [])]))))) ?_
  refine xs_cons (xs_for [4] (xi_rng b_range (xa_cons (xe_add (xe_int (xe_call DD hr gD (xa_cons (xe_name (i := 0) rfl (xa_cons (xe_name (i := 1) rfl (xa_nil ?_)))))))))))
  refine ⟨penMu p x, _, .refl _, p, x, 3, N, rfl, by decide, by decide, by omega, ok, rfl, fun r y r0 rn oky => ⟨1, r, rfl, rfl, xa_nil ⟨1 + r, rfl, by omega, by omega, ?_⟩⟩⟩
  refine ⟨fun i δ' μ' => ∃ (l rest : List Int) (y : Pen) (o : Option Rv), δ' = [some (.r (.ref p)), some (.d (.int 3)), some (.r (.ref qs)), some (.r (.ref qf)), o] ∧ l.length = i ∧ (l ++ rest).Perm WT8 ∧ PenOk (N + 1 + 2 * i) y ∧ μ' = penMu p y ++ [(qs, .lst (rest.map dI)), (qf, .lst (l.map dI))], ⟨[], WT8, y, none, rfl, rfl, .refl _, oky.mono (by omega), rfl⟩, fun _ _ _ _ => trivial, ?_, ?_⟩
  · rintro i z δ' μ' hi ⟨l, rest, y, o, rfl, hl, pm, oy, rfl⟩
    have hlt : i < 3 := by
      have := (List.getElem?_eq_some_iff.mp hi).1
      simp [rngItems] at this
      omega
    have hlen : l.length + rest.length = 8 := by
      have := pm.length_eq
      rw [List.length_append] at this
      exact this
    refine xg_name (i := 4) ?_ nd
    refine xs_one (xs_expr (XE.sub (xe_append (xe_name (i := 3) rfl ⟨qf, l.map dI, rfl, .tail _ (.tail _ (.tail _ (.head _))), xe_popAt (xe_name (i := 2) rfl ⟨qs, rest.map dI, rfl, .tail _ (.tail _ (.head _)), xe_call DD hr gD (xa_cons (xe_name (i := 0) rfl (xa_cons (xe_ix (xe_lst ?_)))))⟩)⟩))))
    refine xa_cons (xe_len b_len (xa_cons (xe_name (i := 2) rfl (xa_nil (.inl ⟨_, _, rfl, .lst (.tail _ (.tail _ (.head _))), ?_⟩)))))
    refine xa_cons (xe_min2 b_min (xe_int (xe_len b_len (xa_cons (xe_name (i := 2) rfl (xa_nil (.inl ⟨_, _, rfl, .lst (.tail _ (.tail _ (.head _))), _, _, rfl, rfl, xa_nil ⟨by simp, fun pl => ?_⟩⟩)))))))
    rw [List.length_map]
    refine xe_call DD hr gD (xa_cons (xe_name (i := 0) rfl (xa_cons (xe_int (xa_nil ?_)))))
    refine ⟨penMu p y, _, List.perm_append_comm (l₁ := [_]), p, y, 2, _, rfl, by decide, by decide, by omega, oy, rfl, fun r1 y1 r10 r1n ok1 => ?_⟩
    have he4 : (if ((rest.length : Nat) : Int) < 4 then ((rest.length : Nat) : Int) else 4) = 4 := if_neg (by omega)
    rw [he4]
    obtain ⟨n, hn, n1, n2⟩ : ∃ n : Int, atI [Rv.d (.int rest.length), Rv.d (.int 4)] r1 = some (.d (.int n)) ∧ 1 ≤ n ∧ n ≤ rest.length := by
      have : r1 = 0 ∨ r1 = 1 := by omega
      rcases this with rfl | rfl
      · exact ⟨_, rfl, by omega, Int.le_refl _⟩
      · exact ⟨4, rfl, by decide, by omega⟩
    refine ⟨_, _, .d (.int n), .lst (.tail _ (.tail _ (.tail _ (.tail _ (.head _))))), rfl, hn, xa_nil ⟨penMu p y1, _, .refl _, p, y1, n, _, rfl, n1, by omega, by omega, ok1, rfl, fun r2 y2 r20 r2n ok2 => ?_⟩⟩
    obtain ⟨j, rfl⟩ := Int.eq_ofNat_of_zero_le r20
    have hj : j < rest.length := by omega
    refine ⟨rest.map dI, j, dI rest[j], _, rfl, by rw [List.length_map]; omega, by rw [List.getElem?_map, List.getElem?_eq_getElem hj]; rfl, .there (.there .here), l.map dI, _, by rw [List.length_map]; omega, .there (.there (.there .here)), ?_⟩
    refine ⟨penMu p y2 ++ [(qs, .lst ((rest.map dI).eraseIdx j)), (qf, .lst (l.map dI ++ [dI rest[j]]))], .cons₂ _ (.cons₂ _ (.cons₂ _ (.cons₂ _ (List.nil_sublist _)))), l ++ [rest[j]], rest.eraseIdx j, y2, _, rfl, by rw [List.length_append, hl]; rfl, taken pm (List.getElem?_eq_getElem hj), ok2.mono (by omega), ?_⟩
    rw [map_erase, List.map_append]
    rfl
  · rintro δ' μ' ⟨l, rest, y, o, rfl, hl, pm, oy, rfl⟩
    have hl' : l.length = (1 + r).toNat := by rw [hl]; simp [rngItems]
    have ndk : (l ++ rest).Nodup := pm.nodup_iff.mpr (by decide +kernel)
    refine xs_one (xs_ret (xe_tupleD b_tuple (xa_cons (xe_name (i := 3) rfl (xa_nil ⟨qf, l.map .int, rfl, by rw [List.map_map]; exact .tail _ (.tail _ (.tail _ (.head _))), ?_⟩)))))
    refine ⟨penMu p y, List.sublist_append_left _ _, q l y (fun z => by rw [z] at hl'; simp at hl'; omega) (by omega) (List.nodup_append.mp ndk).1 (fun n hn => pm.subset (List.mem_append_left _ hn)) (oy.mono ?_)⟩
    rw [← hl]
    omega
end
end Wk

/-! text Wk28 -/
/-! The walk: drawn wishes. -/
namespace Wk
open PySem PySem.Spec PyProof.Rows L2 Ds Cw
theorem sh_wishk {v : Wish} (h1 : KOk v.kind) (h2 : ∀ n, v.needs = some n → KOk n.1) : Sh 2 (eWish v) := sh_tup fun x hx => by
  simp only [List.mem_cons, List.not_mem_nil, or_false] at hx
  rcases hx with rfl | rfl | rfl | rfl
  · exact (sh_str h1).mono (by decide)
  · exact sh_ints _
  · exact (sh_bool _).mono (by decide)
  · cases e : v.needs with
    | none => exact sh_none.mono (by decide)
    | some n => exact sh_pair (h2 n e)
theorem nm12 : ∀ k ∈ NM12, NameOk k := by
  unfold NameOk
  decide +kernel
theorem wt8 : ∀ n ∈ WT8, 0 ≤ n ∧ n ≤ 9999 := by decide +kernel
def dW (v : Wish) : Rv := .d (eWish v)
structure WsDrawn (ks : List Str) (ws : List Wish) : Prop where
  kd : ∀ v ∈ ws, v.kind ∈ ks
  wo : ∀ v ∈ ws, v.worths.length ≤ 3 ∧ v.worths.Nodup ∧ ∀ n ∈ v.worths, n ∈ WT8
  nn : ∀ v ∈ ws, ∀ n, v.needs = some n → KOk n.1
def sWishes : Sc := fun args μ Q => ∃ (p qk : Addr) (ks : List Str) (x : Pen) (N : Int), args = [.r (.ref p), .r (.ref qk), .d (.int 3)] ∧ ks.length ≤ 3 ∧ ks.Nodup ∧ (∀ k ∈ ks, k ∈ NM12) ∧ N ≤ 900 ∧ PenOk N x ∧ μ = penMu p x ++ [(qk, .lst (ks.map dS))] ∧
  ∀ (ws : List Wish) (y : Pen), GW ws → PenOk (N + 36) y → Q (.d (eWishes ws)) (penMu p y ++ [(qk, .lst (ks.map dS))])
theorem WsDrawn.gw {ks : List Str} {ws : List Wish} (h : WsDrawn ks ws) (pm : (ws.map (·.kind)).Perm ks) (few : ks.length ≤ 3) (nd : ks.Nodup) (nm : ∀ k ∈ ks, k ∈ NM12) : GW ws where
  few := by have := pm.length_eq; rw [List.length_map] at this; omega
  nd := pm.nodup_iff.mpr nd
  nm := fun v hv => nm12 _ (nm _ (h.kd v hv))
  wo := fun v hv => ⟨(h.wo v hv).1, (h.wo v hv).2.1, fun n hn => wt8 n ((h.wo v hv).2.2 n hn)⟩
  nn := h.nn
theorem at_ints {l : List Int} {r : Int} (h0 : 0 ≤ r) (h1 : r < l.length) : ∃ z : Int, atI (l.map fun n => Rv.d (.int n)) r = some (.d (.int z)) := by
  obtain ⟨j, rfl⟩ := Int.eq_ofNat_of_zero_le h0
  have hj : j < l.length := by omega
  exact ⟨l[j], atI_nat (by rw [List.getElem?_map, List.getElem?_eq_getElem hj]; rfl)⟩
section
variable {P : Program} {w : World} {K : PySem.W.Frag} {mg : Str → Option Value} {base : Heap} {f C CS fH : Addr} {fd : FuncData} {k : Nat} {kws : List (Str × V)}
theorem sc_wishes : FnScope ["_law_pen_here", "_law_kinds_here", "_law_most", "_law_left", "_law_found", "_law_kind", "_law_needs", "_law_ahead"] ["_law_pen_here", "_law_kinds_here", "_law_most"] (defScope (top 89)) := ⟨rfl, rfl, rfl, by decide +kernel, rfl, by decide +kernel, by decide +kernel⟩
theorem d_wishes (F : FnP K "_law_wishes" (top 89) f fd) {fD : Addr} (DD : Df P w K mg base k fD ["_law_pen_here", "_law_many"] sDraw) (gD : mg "_law_draw" = some (.ref fD)) {fW : Addr} (DW : Df P w K mg base k fW ["_law_pen_here", "_law_most"] sWorths) (gW : mg "_law_worths" = some (.ref fW))
    (b_len : mg "len" = none) (b_list : mg "list" = none) (b_tuple : mg "tuple" = none) : Df P w K mg base (k + 1) f ["_law_pen_here", "_law_kinds_here", "_law_most"] sWishes := by
  have nd := sc_wishes.nd
  refine df_by F sc_wishes (fun _ _ _ _ _ _ us hl => match us, hl with | [_, _, _], _ => rfl) (fun args μ Q ⟨_, _, _, _, _, e, _⟩ => by rw [e]; rfl) fun cdv A outer s H E hr F args μ Q h => ?_
  obtain ⟨p, qk, ks, x, N, rfl, few, ndk, nm, hN, ok, rfl, q⟩ := h
  refine xs_cons (xs_set (i := 3) (xe_listOf b_list (xa_cons (xe_name (i := 1) rfl (xa_nil ⟨_, _, rfl, .lst (.tail _ (.tail _ (.head _))), fun ql => ?_⟩)))) nd)
  refine xs_cons (xs_set (i := 4) (xe_lst (xa_nil ⟨by simp, fun qf => ?_⟩)) nd)
  refine XSs.hs (μ0 := penMu p x ++ [(qk, .lst (ks.map dS)), (ql, .lst (ks.map dS)), (qf, .lst [])]) ((Hs.refl _).perm ?_) ?_
  · have h1 : ([(qf, Ob.lst []), (ql, Ob.lst (ks.map dS))] ++ (penMu p x ++ [(qk, Ob.lst (ks.map dS))])).Perm ((penMu p x ++ [(qk, Ob.lst (ks.map dS))]) ++ [(qf, Ob.lst []), (ql, Ob.lst (ks.map dS))]) := List.perm_append_comm
    refine h1.trans ?_
    exact .cons _ (.cons _ (.cons _ (.swap _ _ _)))
  refine xs_cons (xs_while (fun m δ' μ' => ∃ (ws : List Wish) (left : List Str) (y : Pen) (o5 o6 o7 : Option Rv), δ' = [some (.r (.ref p)), some (.r (.ref qk)), some (.d (.int 3)), some (.r (.ref ql)), some (.r (.ref qf)), o5, o6, o7] ∧ m = left.length ∧ (ws.map (·.kind) ++ left).Perm ks ∧ WsDrawn ks ws ∧ PenOk (N + 12 * ws.length) y ∧ μ' = penMu p y ++ [(qk, .lst (ks.map dS)), (ql, .lst (left.map dS)), (qf, .lst (ws.map dW))]) ks.length
    ⟨[], ks, x, none, none, none, rfl, rfl, .refl _, ⟨fun _ h => (by cases h), fun _ h => (by cases h), fun _ h => (by cases h)⟩, ok.mono (by simp), rfl⟩ ?_)
  rintro m δ' μ' ⟨ws, left, y, o5, o6, o7, rfl, rfl, pm, wd, oy, rfl⟩
  have hlen : ws.length + left.length = ks.length := by
    have := pm.length_eq
    rw [List.length_append, List.length_map] at this
    exact this
  have kok : ∀ k ∈ ks, KOk k := fun k hk => (nm12 k (nm k hk)).k
  refine XT.sub (xt_cm (xc_ne hr (xe_name (i := 3) rfl (xe_lst (xa_nil ⟨by simp, fun q0 => ?_⟩)))))
  refine ⟨.list (left.map .str), .list [], .lst (by rw [List.map_map]; exact .tail _ (.tail _ (.tail _ (.tail _ (.head _))))), .lst (.head _), (sh_mapL fun k hk => sh_str (kok k (pm.subset (List.mem_append_right _ hk)))).ok (by decide), rfl, _, .cons _ (.refl _), fun h2 => ?_, fun h2 => ?_⟩
  · rw [eqv_list0] at h2
    have hne : left ≠ [] := fun z => by rw [z] at h2; cases h2
    have hl0 : 0 < left.length := List.length_pos_iff.mpr hne
    refine xs_cons (xs_set (i := 5) (xe_popAt (xe_name (i := 3) rfl ⟨ql, left.map dS, rfl, .tail _ (.tail _ (.tail _ (.head _))), xe_call DD hr gD (xa_cons (xe_name (i := 0) rfl (xa_cons (xe_len b_len (xa_cons (xe_name (i := 3) rfl (xa_nil (.inl ⟨_, _, rfl, .lst (.tail _ (.tail _ (.tail _ (.head _)))), xa_nil ?_⟩))))))))⟩)) nd)
    refine ⟨penMu p y, _, .refl _, p, y, _, _, rfl, by rw [List.length_map]; omega, by rw [List.length_map]; omega, by omega, oy, rfl, fun r y1 r0 rn ok1 => ?_⟩
    obtain ⟨j, rfl⟩ := Int.eq_ofNat_of_zero_le r0
    rw [List.length_map] at rn
    have hj : j < left.length := by omega
    refine ⟨left.map dS, j, dS left[j], _, rfl, by rw [List.length_map]; omega, by rw [List.getElem?_map, List.getElem?_eq_getElem hj]; rfl, .there (.there (.there .here)), ?_⟩
    rw [map_erase]
    refine xs_cons (xs_set (i := 6) (xe_non ?_) nd)
    have hkj : left[j] ∈ ks := pm.subset (List.mem_append_right _ (List.getElem_mem hj))
    refine xs_cons (XS.nxm (fun δ' μ' => ∃ (need : Option Pair) (o7 : Option Rv) (y2 : Pen), δ' = [some (.r (.ref p)), some (.r (.ref qk)), some (.d (.int 3)), some (.r (.ref ql)), some (.r (.ref qf)), some (dS left[j]), some (.d (eNeeds need)), o7] ∧ (∀ n, need = some n → KOk n.1) ∧ PenOk (N + 12 * ws.length + 4) y2 ∧ μ' = penMu p y2 ++ [(qk, .lst (ks.map dS)), (ql, .lst ((left.eraseIdx j).map dS)), (qf, .lst (ws.map dW))]) ?_ ?_)
    · refine xs_if (XT.sub (xt_w (xw_and (xt_cm (xc_ne hr (xe_name (i := 4) rfl (xe_lst (xa_nil ⟨by simp, fun q0 => ?_⟩))))))))
      refine ⟨.list (ws.map eWish), .list [], .lst (by rw [List.map_map]; exact .tail _ (.tail _ (.tail _ (.tail _ (.tail _ (.head _)))))), .lst (.head _), (sh_mapL fun v hv => sh_wishk (kok _ (wd.kd v hv)) (wd.nn v hv)).ok (by decide), rfl, fun h3 => ?_, fun h3 => ⟨_, .cons _ (.refl _), (fun z => by cases z), fun _ => xs_nil ⟨none, o7, y1, rfl, (fun n h => by cases h), ok1.mono (by omega), rfl⟩⟩⟩
      rw [eqv_list0] at h3
      have hne3 : ws ≠ [] := fun z => by rw [z] at h3; cases h3
      have hl3 : 0 < ws.length := List.length_pos_iff.mpr hne3
      refine xw_and1 (xt_cm (xc_eq hr (xe_call DD hr gD (xa_cons (xe_name (i := 0) rfl (xa_cons (xe_int (xa_nil ⟨penMu p y1, _, List.perm_append_comm (l₁ := [_]), p, y1, 3, _, rfl, by decide, by decide, by omega, ok1, rfl, fun r2 y2 r20 r2n ok2 => ?_⟩))))))))
      refine xe_int ⟨.int r2, .int 0, .d _, .d _, (sh_int _).ok (by decide), (sh_int _).ok (by decide), penMu p y2 ++ [(qk, .lst (ks.map dS)), (ql, .lst ((left.eraseIdx j).map dS)), (qf, .lst (ws.map dW))], .cons₂ _ (.cons₂ _ (.cons₂ _ (.cons₂ _ (.cons₂ _ (List.nil_sublist _))))), fun h4 => ?_, fun h4 => xs_nil ⟨none, o7, y2, rfl, (fun n h => by cases h), ok2.mono (by omega), rfl⟩⟩
      refine xs_cons (xs_set (i := 7) (xe_ix (xe_name (i := 4) rfl (xe_call DD hr gD (xa_cons (xe_name (i := 0) rfl (xa_cons (xe_len b_len (xa_cons (xe_name (i := 4) rfl (xa_nil (.inl ⟨_, _, rfl, .lst (.tail _ (.tail _ (.tail _ (.tail _ (.head _))))), xa_nil ?_⟩))))))))))) nd)
      refine ⟨penMu p y2, _, .refl _, p, y2, _, _, rfl, by rw [List.length_map]; omega, by rw [List.length_map]; omega, by omega, ok2, rfl, fun r3 y3 r30 r3n ok3 => ?_⟩
      obtain ⟨i3, rfl⟩ := Int.eq_ofNat_of_zero_le r30
      rw [List.length_map] at r3n
      have hi3 : i3 < ws.length := by omega
      refine ⟨_, _, dW ws[i3], .lst (.tail _ (.tail _ (.tail _ (.tail _ (.head _))))), rfl, atI_nat (by rw [List.getElem?_map, List.getElem?_eq_getElem hi3]; rfl), ?_⟩
      have hv3 : ws[i3] ∈ ws := List.getElem_mem hi3
      generalize ws[i3] = v at hv3 ⊢
      have lv := (wd.wo v hv3).1
      refine xs_one (xs_set (i := 6) (xe_tupD (xa_cons (xe_ix (xe_name (i := 7) rfl (xe_int ⟨_, 0, .d (.str v.kind), .tup _, rfl, rfl, xa_cons ?_⟩))))) nd)
      refine xe_ix (xe_cat (xe_ix (xe_name (i := 7) rfl (xe_int ⟨_, 1, .d (eInts v.worths), .tup _, rfl, rfl, xe_tup (xa_cons (xe_int (xa_nil ?_)))⟩))))
      refine ⟨by simp, _, _, trivial, .tup _, trivial, .t _, by simp; omega, ?_⟩
      refine xe_call DD hr gD (xa_cons (xe_name (i := 0) rfl (xa_cons (xe_add (xe_len b_len (xa_cons (xe_ix (xe_name (i := 7) rfl (xe_int ⟨_, 1, .d (eInts v.worths), .tup _, rfl, rfl, xa_nil (.inl ⟨_, _, rfl, .tup _, xe_int ⟨_, _, rfl, rfl, xa_nil ?_⟩⟩)⟩)))))))))
      refine ⟨penMu p y3, _, .refl _, p, y3, _, _, rfl, by omega, by rw [List.length_map, List.length_map]; omega, by omega, ok3, rfl, fun r4 y4 r40 r4n ok4 => ?_⟩
      rw [List.length_map, List.length_map] at r4n
      obtain ⟨z, hz⟩ := at_ints (l := v.worths ++ [4]) r40 (by rw [List.length_append]; simp; omega)
      refine ⟨_, _, .d (.int z), .t _, rfl, by rw [List.map_append] at hz; rw [List.map_map]; exact hz, xa_nil ⟨[.str v.kind, .int z], rfl, by simp, ?_⟩⟩
      exact ⟨some (v.kind, z), _, y4, rfl, (fun n h => by cases h; exact kok _ (wd.kd v hv3)), ok4.mono (by omega), rfl⟩
    rintro δ' μ' ⟨need, o7', y2, rfl, hneed, ok2, rfl⟩
    have hws3 : ws.length < 3 := by omega
    refine xs_one (xs_expr (xe_append (xe_name (i := 4) rfl ⟨qf, ws.map dW, rfl, .tail _ (.tail _ (.tail _ (.tail _ (.head _)))), xe_tupD (xa_cons (xe_name (i := 5) rfl (xa_cons (xe_call DW hr gW (xa_cons (xe_name (i := 0) rfl (xa_cons (xe_name (i := 2) rfl (xa_nil ?_)))))))))⟩)))
    refine ⟨penMu p y2, _, .refl _, p, y2, _, rfl, by omega, ok2, rfl, fun l y3 l0 ln lnd lm ok3 => xa_cons (xe_cm (xc_eq hr (xe_call DD hr gD (xa_cons (xe_name (i := 0) rfl (xa_cons (xe_int (xa_nil ?_))))))))⟩
    refine ⟨penMu p y3, _, .refl _, p, y3, 3, _, rfl, by decide, by decide, by omega, ok3, rfl, fun r4 y4 r40 r4n ok4 => ?_⟩
    refine xe_int ⟨.int r4, .int 0, .d _, .d _, (sh_int _).ok (by decide), (sh_int _).ok (by decide), xa_cons (xe_name (i := 6) rfl (xa_nil ⟨[.str left[j], eInts l, .bool _, eNeeds need], rfl, by simp, ws.map dW, _, by rw [List.length_map]; omega, .there (.there (.there (.there .here))), ?_⟩))⟩
    generalize PyData.eqv (.int r4) (.int 0) = bt
    refine ⟨(left.eraseIdx j).length, ?_, ws ++ [⟨left[j], l, bt, need⟩], left.eraseIdx j, y4, _, _, _, rfl, rfl, ?_, ?_, ok4.mono ?_, ?_⟩
    · rw [List.length_eraseIdx_of_lt hj]
      omega
    · rw [List.map_append]
      exact taken pm (List.getElem?_eq_getElem hj)
    · refine ⟨fun v hv => ?_, fun v hv => ?_, fun v hv => ?_⟩ <;> rcases List.mem_append.mp hv with hv | hv
      · exact wd.kd v hv
      · rw [List.mem_singleton.mp hv]; exact hkj
      · exact wd.wo v hv
      · rw [List.mem_singleton.mp hv]; exact ⟨ln, lnd, lm⟩
      · exact wd.nn v hv
      · rw [List.mem_singleton.mp hv]; exact hneed
    · rw [List.length_append, List.length_singleton]
      omega
    · rw [List.map_append]
      rfl
  · rw [eqv_list0] at h2
    have hnil : left = [] := by cases left with | nil => rfl | cons a l => cases h2
    subst hnil
    refine xs_one (xs_ret (xe_tupleD b_tuple (xa_cons (xe_name (i := 4) rfl (xa_nil ⟨qf, ws.map eWish, rfl, by rw [List.map_map]; exact .tail _ (.tail _ (.tail _ (.tail _ (.head _)))), ?_⟩)))))
    rw [List.append_nil] at pm
    simp only [List.length_nil, Nat.add_zero] at hlen
    have e1 : PyData.tuple (ws.map eWish) = eWishes ws := rfl
    rw [e1]
    exact ⟨penMu p y ++ [(qk, .lst (ks.map dS))], .cons₂ _ (.cons₂ _ (.cons₂ _ (List.nil_sublist _))), q ws y (wd.gw pm few ndk nm) (oy.mono (by omega))⟩
end
end Wk

/-! text Wk29 -/
/-! The walk: drawn bounds, books. -/
namespace Wk
open PySem PySem.Spec PyProof.Rows L2 Ds Cw
def dE (e : Str × List Int) : Rv := .d (eEntry e)
structure BdDrawn (b : Bounds) : Prop where
  wo : ∀ e ∈ b, e.2 ≠ [] ∧ e.2.length ≤ 3 ∧ ∀ n ∈ e.2, n ∈ WT8
theorem BdDrawn.snoc {b : Bounds} {e : Str × List Int} (h : BdDrawn b) (he : e.2 ≠ [] ∧ e.2.length ≤ 3 ∧ ∀ n ∈ e.2, n ∈ WT8) : BdDrawn (b ++ [e]) := ⟨fun z hz => by
  rcases List.mem_append.mp hz with hz | hz
  · exact h.wo z hz
  · rw [List.mem_singleton.mp hz]; exact he⟩
theorem qq_not : ("qq" : Str) ∉ NM12 := by decide +kernel
theorem qq_ok : KOk "qq" := by unfold KOk; decide +kernel
theorem bd_gb {b : Bounds} {ks : List Str} (h : BdDrawn b) (s : (b.map (·.1)).Sublist (ks ++ [("qq" : Str)])) (few : ks.length ≤ 3) (nd : ks.Nodup) (nm : ∀ k ∈ ks, k ∈ NM12) : GB b where
  nd := s.nodup (List.nodup_append.mpr ⟨nd, by simp, fun a ha c hc e => by
    rw [List.mem_singleton] at hc
    rw [e, hc] at ha
    exact qq_not (nm _ ha)⟩)
  few := by
    have := s.length_le
    rw [List.length_map, List.length_append, List.length_singleton] at this
    omega
  at_ := fun e he => by
    refine ⟨?_, (h.wo e he).1, by have := (h.wo e he).2.1; omega, fun x hx => wt8 x ((h.wo e he).2.2 x hx)⟩
    rcases List.mem_append.mp (s.subset (List.mem_map.mpr ⟨e, he, rfl⟩)) with hk | hk
    · exact (nm12 _ (nm _ hk)).k
    · rw [List.mem_singleton.mp hk]
      exact qq_ok
def sBounds : Sc := fun args μ Q => ∃ (p qk : Addr) (ks : List Str) (x : Pen) (N : Int), args = [.r (.ref p), .r (.ref qk), .d (.int 3)] ∧ ks.length ≤ 3 ∧ ks.Nodup ∧ (∀ k ∈ ks, k ∈ NM12) ∧ N ≤ 900 ∧ PenOk N x ∧ μ = penMu p x ++ [(qk, .lst (ks.map dS))] ∧
  ∀ (b : Bounds) (y : Pen), GB b → PenOk (N + 25) y → Q (.d (ePlan b)) (penMu p y ++ [(qk, .lst (ks.map dS))])
def sBooks : Sc := fun args μ Q => ∃ (p : Addr) (x : Pen) (N : Int), args = [.r (.ref p), .d (.int 3), .d (.int 3)] ∧ N ≤ 700 ∧ PenOk N x ∧ μ = penMu p x ∧
  ∀ (bk : Bool → Book) (y : Pen), Good bk → PenOk (N + 130) y → Q (.d (eBooks bk)) (penMu p y)
section
variable {P : Program} {w : World} {K : PySem.W.Frag} {mg : Str → Option Value} {base : Heap} {f C CS fH : Addr} {fd : FuncData} {k : Nat} {kws : List (Str × V)}
theorem sc_bounds : FnScope ["_law_pen_here", "_law_kinds_here", "_law_most", "_law_found", "_law_kind"] ["_law_pen_here", "_law_kinds_here", "_law_most"] (defScope (top 90)) := ⟨rfl, rfl, rfl, by decide +kernel, rfl, by decide +kernel, by decide +kernel⟩
theorem d_bounds (F : FnP K "_law_bounds" (top 90) f fd) {fD : Addr} (DD : Df P w K mg base k fD ["_law_pen_here", "_law_many"] sDraw) (gD : mg "_law_draw" = some (.ref fD)) {fW : Addr} (DW : Df P w K mg base k fW ["_law_pen_here", "_law_most"] sWorths) (gW : mg "_law_worths" = some (.ref fW))
    (b_tuple : mg "tuple" = none) : Df P w K mg base (k + 1) f ["_law_pen_here", "_law_kinds_here", "_law_most"] sBounds := by
  have nd := sc_bounds.nd
  refine df_by F sc_bounds (fun _ _ _ _ _ _ us hl => match us, hl with | [_, _, _], _ => rfl) (fun args μ Q ⟨_, _, _, _, _, e, _⟩ => by rw [e]; rfl) fun cdv A outer s H E hr F args μ Q h => ?_
  obtain ⟨p, qk, ks, x, N, rfl, few, ndk, nm, hN, ok, rfl, q⟩ := h
  refine xs_cons (xs_set (i := 3) (xe_lst (xa_nil ⟨by simp, fun qf => ?_⟩)) nd)
  refine XSs.hs (μ0 := penMu p x ++ [(qk, .lst (ks.map dS)), (qf, .lst [])]) ((Hs.refl _).perm (List.perm_append_comm (l₁ := [(qf, Ob.lst [])]))) ?_
  refine xs_cons (xs_for [4] (xi_lst (xe_name (i := 1) rfl ⟨qk, ks.map dS, rfl, .tail _ (.tail _ (.head _)), ?_⟩)))
  refine ⟨fun i δ' μ' => ∃ (b : Bounds) (y : Pen) (o : Option Rv), δ' = [some (.r (.ref p)), some (.r (.ref qk)), some (.d (.int 3)), some (.r (.ref qf)), o] ∧ (b.map (·.1)).Sublist (ks.take i) ∧ BdDrawn b ∧ PenOk (N + 8 * i) y ∧ μ' = penMu p y ++ [(qk, .lst (ks.map dS)), (qf, .lst (b.map dE))], ⟨[], x, none, rfl, List.nil_sublist _, ⟨fun _ h => (by cases h)⟩, ok.mono (by omega), rfl⟩, fun i δ' μ' ⟨b, y, o, e1, e2, e3, e4, e5⟩ => by rw [e5]; exact .tail _ (.tail _ (.head _)), ?_, ?_⟩
  · rintro i z δ' μ' hi ⟨b, y, o, rfl, sb, bd, oy, rfl⟩
    rw [List.getElem?_map] at hi
    cases hk : ks[i]? with
    | none => rw [hk] at hi; cases hi
    | some kd =>
      rw [hk] at hi
      cases hi
      have hik : i < ks.length := (List.getElem?_eq_some_iff.mp hk).1
      have et : ks.take (i + 1) = ks.take i ++ [kd] := by rw [List.take_succ, hk]; rfl
      have lb : b.length ≤ 3 := by
        have := sb.length_le
        rw [List.length_map, List.length_take] at this
        omega
      refine xg_name (i := 4) ?_ nd
      refine xs_one (xs_if (xt_cm (xc_gt (xe_call DD hr gD (xa_cons (xe_name (i := 0) rfl (xa_cons (xe_int (xa_nil ?_)))))))))
      refine ⟨penMu p y, _, .refl _, p, y, 5, _, rfl, by decide, by decide, by omega, oy, rfl, fun r1 y1 r10 r1n ok1 => xe_int ⟨_, _, rfl, rfl, fun h1 => ?_, fun h1 => xs_nil ?_⟩⟩
      · refine xs_one (xs_expr (xe_append (xe_name (i := 3) rfl ⟨qf, b.map dE, rfl, .tail _ (.tail _ (.tail _ (.head _))), xe_tupD (xa_cons (xe_name (i := 4) rfl (xa_cons (xe_call DW hr gW (xa_cons (xe_name (i := 0) rfl (xa_cons (xe_name (i := 2) rfl (xa_nil ?_)))))))))⟩)))
        refine ⟨penMu p y1, _, .refl _, p, y1, _, rfl, by omega, ok1, rfl, fun l y3 l0 ln lnd lm ok3 => xa_nil ⟨[.str kd, eInts l], rfl, by simp, b.map dE, _, by rw [List.length_map]; omega, .there (.there (.there .here)), ?_⟩⟩
        refine ⟨b ++ [(kd, l)], y3, _, rfl, ?_, bd.snoc ⟨l0, ln, lm⟩, ok3.mono (by omega), by rw [List.map_append]; rfl⟩
        rw [List.map_append, et]
        exact sb.append (.refl _)
      · refine ⟨b, y1, _, rfl, ?_, bd, ok1.mono (by omega), rfl⟩
        rw [et]
        exact sb.trans (List.sublist_append_left _ _)
  · rintro δ' μ' ⟨b, y, o, rfl, sb, bd, oy, rfl⟩
    rw [List.length_map] at oy
    rw [List.length_map, List.take_length] at sb
    have lb : b.length ≤ 3 := by
      have := sb.length_le
      rw [List.length_map] at this
      omega
    refine xs_cons (XS.nxm (fun δ' μ' => ∃ (b : Bounds) (y : Pen), δ' = [some (.r (.ref p)), some (.r (.ref qk)), some (.d (.int 3)), some (.r (.ref qf)), o] ∧ (b.map (·.1)).Sublist (ks ++ [("qq" : Str)]) ∧ BdDrawn b ∧ PenOk (N + 25) y ∧ μ' = penMu p y ++ [(qk, .lst (ks.map dS)), (qf, .lst (b.map dE))]) ?_ ?_)
    · refine xs_if (xt_cm (xc_eq hr (xe_call DD hr gD (xa_cons (xe_name (i := 0) rfl (xa_cons (xe_int (xa_nil ?_))))))))
      refine ⟨penMu p y, _, .refl _, p, y, 4, _, rfl, by decide, by decide, by omega, oy, rfl, fun r1 y1 r10 r1n ok1 => xe_int ⟨.int r1, .int 0, .d _, .d _, (sh_int _).ok (by decide), (sh_int _).ok (by decide), fun h1 => ?_, fun h1 => xs_nil ⟨b, y1, rfl, sb.trans (List.sublist_append_left _ _), bd, ok1.mono (by omega), rfl⟩⟩⟩
      refine xs_one (xs_expr (xe_append (xe_name (i := 3) rfl ⟨qf, b.map dE, rfl, .tail _ (.tail _ (.tail _ (.head _))), xe_tupD (xa_cons (xe_str (xa_cons (xe_tupD (xa_cons (xe_int (xa_nil ?_)))))))⟩)))
      refine ⟨[.int 1], rfl, by simp, xa_nil ⟨[.str "qq", eInts [1]], rfl, by simp, b.map dE, _, by rw [List.length_map]; omega, .there (.there (.there .here)), ?_⟩⟩
      refine ⟨b ++ [(("qq" : Str), [(1 : Int)])], y1, rfl, by rw [List.map_append]; exact sb.append (.refl _), bd.snoc ⟨by simp, by simp, by decide⟩, ok1.mono (by omega), by rw [List.map_append]; rfl⟩
    rintro δ' μ' ⟨b, y, rfl, sb, bd, oy, rfl⟩
    refine xs_one (xs_ret (xe_tupleD b_tuple (xa_cons (xe_name (i := 3) rfl (xa_nil ⟨qf, b.map eEntry, rfl, by rw [List.map_map]; exact .tail _ (.tail _ (.tail _ (.head _))), ?_⟩)))))
    have e1 : PyData.tuple (b.map eEntry) = ePlan b := rfl
    rw [e1]
    exact ⟨penMu p y ++ [(qk, .lst (ks.map dS))], .cons₂ _ (.cons₂ _ (.cons₂ _ (List.nil_sublist _))), q b y (bd_gb bd sb few ndk nm) oy⟩
theorem sc_books : FnScope ["_law_pen_here", "_law_many", "_law_most", "_law_mine", "_law_yours", "_law_one"] ["_law_pen_here", "_law_many", "_law_most"] (defScope (top 91)) := ⟨rfl, rfl, rfl, by decide +kernel, rfl, by decide +kernel, by decide +kernel⟩
theorem d_books (F : FnP K "_law_books" (top 91) f fd) {fD : Addr} (DD : Df P w K mg base k fD ["_law_pen_here", "_law_many"] sDraw) (gD : mg "_law_draw" = some (.ref fD)) {fK : Addr} (DK : Df P w K mg base k fK ["_law_pen_here", "_law_many"] sKinds) (gK : mg "_law_kinds" = some (.ref fK))
    {fW : Addr} (DW : Df P w K mg base k fW ["_law_pen_here", "_law_kinds_here", "_law_most"] sWishes) (gW : mg "_law_wishes" = some (.ref fW)) {fB : Addr} (DB : Df P w K mg base k fB ["_law_pen_here", "_law_kinds_here", "_law_most"] sBounds) (gB' : mg "_law_bounds" = some (.ref fB)) : Df P w K mg base (k + 1) f ["_law_pen_here", "_law_many", "_law_most"] sBooks := by
  have nd := sc_books.nd
  refine df_by F sc_books (fun _ _ _ _ _ _ us hl => match us, hl with | [_, _, _], _ => rfl) (fun args μ Q ⟨_, _, _, e, _⟩ => by rw [e]; rfl) fun cdv A outer s H E hr F args μ Q h => ?_
  obtain ⟨p, x, N, rfl, hN, ok, rfl, q⟩ := h
  refine xs_cons (xs_set (i := 3) (xe_call DK hr gK (xa_cons (xe_name (i := 0) rfl (xa_cons (xe_call DD hr gD (xa_cons (xe_name (i := 0) rfl (xa_cons (xe_add (xe_name (i := 1) rfl (xe_int ⟨_, _, rfl, rfl, xa_nil ?_⟩))))))))))) nd)
  refine ⟨penMu p x, [], by rw [List.append_nil], p, x, 4, N, rfl, by decide, by decide, by omega, ok, rfl, fun r y1 r0 rn ok1 => xa_nil ?_⟩
  obtain ⟨m1, rfl⟩ := Int.eq_ofNat_of_zero_le r0
  refine ⟨penMu p y1, [], .refl _, p, y1, m1, _, rfl, by omega, by omega, ok1, rfl, fun qm mine y2 fm ndm nmm ok2 => ?_⟩
  refine XSs.hs (μ0 := penMu p y2 ++ [(qm, .lst (mine.map dS))]) ((Hs.refl _).perm (List.perm_append_comm (l₁ := [(qm, Ob.lst (mine.map dS))]))) ?_
  refine xs_cons (xs_set (i := 4) (xe_call DK hr gK (xa_cons (xe_name (i := 0) rfl (xa_cons (xe_call DD hr gD (xa_cons (xe_name (i := 0) rfl (xa_cons (xe_add (xe_name (i := 1) rfl (xe_int ⟨_, _, rfl, rfl, xa_nil ?_⟩))))))))))) nd)
  refine ⟨penMu p y2, _, .refl _, p, y2, 4, _, rfl, by decide, by decide, by omega, ok2, rfl, fun r y3 r0 rn ok3 => xa_nil ?_⟩
  obtain ⟨m2, rfl⟩ := Int.eq_ofNat_of_zero_le r0
  refine ⟨penMu p y3, _, .refl _, p, y3, m2, _, rfl, by omega, by omega, ok3, rfl, fun qy yours y4 fy ndy nmy ok4 => ?_⟩
  refine XSs.hs (μ0 := penMu p y4 ++ [(qm, .lst (mine.map dS)), (qy, .lst (yours.map dS))]) ((Hs.refl _).perm (List.perm_append_comm (l₁ := [(qy, Ob.lst (yours.map dS))]))) ?_
  have sw : ∀ (y : Pen) (a b : Addr × Ob), ((penMu p y ++ [a]) ++ [b]).Perm ((penMu p y ++ [b]) ++ [a]) := fun y a b => .cons _ (.cons _ (.swap _ _ _))
  refine xs_cons (xs_set (i := 5) (xe_tupD (xa_cons (xe_call DW hr gW (xa_cons (xe_name (i := 0) rfl (xa_cons (xe_name (i := 3) rfl (xa_cons (xe_name (i := 2) rfl (xa_nil ?_)))))))))) nd)
  refine ⟨penMu p y4 ++ [(qm, .lst (mine.map dS))], [(qy, .lst (yours.map dS))], .refl _, p, qm, mine, y4, _, rfl, fm, ndm, nmm, by omega, ok4, rfl, fun w1 y5 gw1 ok5 => ?_⟩
  refine xa_cons (xe_call DB hr gB' (xa_cons (xe_name (i := 0) rfl (xa_cons (xe_name (i := 4) rfl (xa_cons (xe_name (i := 2) rfl (xa_nil ?_))))))))
  refine ⟨penMu p y5 ++ [(qy, .lst (yours.map dS))], [(qm, .lst (mine.map dS))], sw y5 _ _, p, qy, yours, y5, _, rfl, fy, ndy, nmy, by omega, ok5, rfl, fun b1 y6 gb1 ok6 => xa_nil ⟨[eWishes w1, ePlan b1], rfl, by simp, ?_⟩⟩
  refine xs_one (xs_ret (xe_tupD (xa_cons (xe_name (i := 5) rfl (xa_cons (xe_tupD (xa_cons (xe_call DW hr gW (xa_cons (xe_name (i := 0) rfl (xa_cons (xe_name (i := 4) rfl (xa_cons (xe_name (i := 2) rfl (xa_nil ?_)))))))))))))))
  refine ⟨penMu p y6 ++ [(qy, .lst (yours.map dS))], [(qm, .lst (mine.map dS))], .refl _, p, qy, yours, y6, _, rfl, fy, ndy, nmy, by omega, ok6, rfl, fun w2 y7 gw2 ok7 => ?_⟩
  refine xa_cons (xe_call DB hr gB' (xa_cons (xe_name (i := 0) rfl (xa_cons (xe_name (i := 3) rfl (xa_cons (xe_name (i := 2) rfl (xa_nil ?_))))))))
  refine ⟨penMu p y7 ++ [(qm, .lst (mine.map dS))], [(qy, .lst (yours.map dS))], sw y7 _ _, p, qm, mine, y7, _, rfl, fm, ndm, nmm, by omega, ok7, rfl, fun b2 y8 gb2 ok8 => xa_nil ⟨[eWishes w2, ePlan b2], rfl, by simp, xa_nil ⟨[.tuple [eWishes w1, ePlan b1], .tuple [eWishes w2, ePlan b2]], rfl, by simp, ?_⟩⟩⟩
  refine ⟨penMu p y8, .cons₂ _ (.cons₂ _ (List.nil_sublist _)), q (fun i => if i then ⟨w2, b2⟩ else ⟨w1, b1⟩) y8 ⟨fun i => ?_, fun i => ?_⟩ (ok8.mono (by omega))⟩
  · cases i
    · exact gw1
    · exact gw2
  · cases i
    · exact gb1
    · exact gb2
end
end Wk

/-! text Wk30 -/
/-! Objects picked by their places. -/
namespace Ds
open PySem PySem.Spec PyProof.Rows L2
def pickBy {α : Type} : List Nat → List α → List α
  | [], _ => []
  | i :: is, l => match l[i]? with
    | some a => a :: pickBy is (l.eraseIdx i)
    | none => []
def permBy {α : Type} : List Nat → List α → List α
  | [], l => l
  | i :: is, l => match l[i]? with
    | some a => a :: permBy is (l.eraseIdx i)
    | none => l
theorem erase_pm {α : Type} : ∀ (l : List α) (j : Nat) (y : α), l[j]? = some y → l.Perm (y :: l.eraseIdx j)
  | [], j, y, h => by simp at h
  | a :: l, 0, y, h => by
    simp at h
    subst h
    exact .refl _
  | a :: l, j + 1, y, h => by
    simp at h
    have := erase_pm l j y h
    rw [List.eraseIdx_cons_succ]
    exact (this.cons a).trans (List.Perm.swap y a _)
theorem pm_by {α : Type} : ∀ (is : List Nat) (l : List α), l.Perm (permBy is l)
  | [], l => .refl _
  | i :: is, l => by
    unfold permBy
    cases h : l[i]? with
    | none => exact .refl _
    | some a => exact (erase_pm l i a h).trans ((pm_by is _).cons a)
theorem pick_rest {α : Type} : ∀ (is : List Nat) (l : List α), ∃ r, (pickBy is l ++ r).Perm l
  | [], l => ⟨l, .refl _⟩
  | i :: is, l => by
    unfold pickBy
    cases h : l[i]? with
    | none => exact ⟨l, .refl _⟩
    | some a =>
      obtain ⟨r, hr⟩ := pick_rest is (l.eraseIdx i)
      exact ⟨r, (hr.cons a).trans (erase_pm l i a h).symm⟩
theorem hs_by (is : List Nat) (μ : Mu) : Hs (pickBy is μ) μ :=
  let ⟨_, hr⟩ := pick_rest is μ
  Hs.less ⟨μ, .refl _, hr.symm⟩ (List.sublist_append_left _ _)
section
variable {X : Cx} {F : Fm} {δ : De} {μ : Mu} {e : Expr}
theorem XE.hsr {Q : Rv → Mu → Prop} (h : XE X F δ μ e fun r μ1 => ∃ μ0, Hs μ0 μ1 ∧ Q r μ0) : XE X F δ μ e Q := fun σ H lo ow fk =>
  h.run lo ow fk fun v H' r μ1 t _ h1 h2 h3 ⟨μ0, ⟨μ2, s, pm⟩, q⟩ => ⟨t, r, μ0, h1, (h2.sub s).perm pm, (h3.sub s).perm pm, q⟩
theorem XT.hsr {Q : Bool → Mu → Prop} (h : XT X F δ μ e fun r μ1 => ∃ μ0, Hs μ0 μ1 ∧ Q r μ0) : XT X F δ μ e Q := fun σ H lo ow fk =>
  h.run lo ow fk fun v H' μ1 t _ h2 h3 ⟨μ0, ⟨μ2, s, pm⟩, q⟩ => ⟨t, μ0, (h2.sub s).perm pm, (h3.sub s).perm pm, q⟩
end
end Ds

/-! text Wk31 -/
/-! The walk: the wire, unsettled. -/
namespace Wk
open PySem PySem.Spec PyProof.Rows L2 Ds Cw
/-- what the law holds: the pen, the wire -/
def PW (p : Addr) (y : Pen) (C pw pp ps : Addr) (bk : Bool → Book) (s : WS) (past : List WS) (said : List Deed) : Mu := penMu p y ++ WireMu C pw pp ps bk s past said
def sUnsettled (C : Addr) : Sc := fun args μ Q => ∃ (p pw pp ps : Addr) (x : Pen) (N : Int) (bk : Bool → Book) (s : WS) (past : List WS) (said : List Deed), args = [.r (.ref p), .r (.ref pw)] ∧ Good bk ∧ Way bk 0 s ∧ Shp bk s ∧ Plain bk s ∧ past.length ≤ 100 ∧ said.length ≤ 100 ∧ N ≤ 900 ∧ PenOk N x ∧ μ = PW p x C pw pp ps bk s past said ∧
  ∀ (b : Bool) (s' : WS) (past' : List WS) (said' : List Deed) (y : Pen), Way bk 7 s' → Shp bk s' → (b = true → Plain bk s') → past'.length ≤ 120 → said'.length ≤ 120 → PenOk (N + 22) y → Q (.d (.bool b)) (PW p y C pw pp ps bk s' past' said')
theorem who_ab {r : Int} (h0 : 0 ≤ r) (h1 : r < 2) : ∃ (i : Bool) (c : Nat), atI ("ab" : Str).cps.toList r = some c ∧ (⟨#[c]⟩ : Str) = tNm i := by
  have : r = 0 ∨ r = 1 := by omega
  rcases this with rfl | rfl
  · exact ⟨false, 97, by decide +kernel, by decide +kernel⟩
  · exact ⟨true, 98, by decide +kernel, by decide +kernel⟩
/-- an end's name among those of the closed ones -/
theorem closed_any (s : WS) (h : ∀ i, (s.e i).name = i) (i : Bool) : ((([s.e false, s.e true].filter (·.closed)).map fun e => PyData.str (tNm e.name)).any fun z => PyData.eqv z (.str (tNm i))) = (s.e i).closed := by
  rw [List.any_map]
  have h0 := h false
  have h1 := h true
  have e00 : PyData.eqv (.str (tNm false)) (.str (tNm false)) = true := by rw [eqv_str]; decide +kernel
  have e01 : PyData.eqv (.str (tNm false)) (.str (tNm true)) = false := by rw [eqv_str]; decide +kernel
  have e10 : PyData.eqv (.str (tNm true)) (.str (tNm false)) = false := by rw [eqv_str]; decide +kernel
  have e11 : PyData.eqv (.str (tNm true)) (.str (tNm true)) = true := by rw [eqv_str]; decide +kernel
  cases c0 : (s.e false).closed <;> cases c1 : (s.e true).closed <;> cases i <;> simp [c0, c1, h0, h1, e00, e01, e10, e11]
section
variable {P : Program} {w : World} {K : PySem.W.Frag} {mg : Str → Option Value} {base : Heap} {f C CS fH : Addr} {fd : FuncData} {k : Nat} {kws : List (Str × V)}
theorem sc_unsettled : FnScope ["_law_pen_here", "_law_wire", "_law_plain", "_law_k", "_law_many", "_law_way", "_law_who", "_law_closed_ones", "_law_end"] ["_law_pen_here", "_law_wire"] (defScope (top 92)) := ⟨rfl, rfl, rfl, by decide +kernel, rfl, by decide +kernel, by decide +kernel⟩
theorem d_unsettled (kl : Kls K C wireFl) (F : FnP K "_law_unsettled" (top 92) f fd) {fD : Addr} (DD : Df P w K mg base k fD ["_law_pen_here", "_law_many"] sDraw) (gD : mg "_law_draw" = some (.ref fD))
    {fA : Addr} (DA : Df P w K mg base k fA ["self"] (sAir C)) (mA : Meth K C "air" fA) {fE : Addr} (DE : Df P w K mg base k fE ["self"] (sEnds C)) (mE : Meth K C "ends" fE) {fO : Addr} (DO : Df P w K mg base k fO ["self", "deed"] (sWireDo C)) (mO : Meth K C "do" fO)
    (b_len : mg "len" = none) (b_range : mg "range" = none) : Df P w K mg base (k + 1) f ["_law_pen_here", "_law_wire"] (sUnsettled C) := by
  have nd := sc_unsettled.nd
  refine df_by F sc_unsettled (fun _ _ _ _ _ _ us hl => match us, hl with | [_, _], _ => rfl) (fun args μ Q ⟨_, _, _, _, _, _, _, _, _, _, e, _⟩ => by rw [e]; rfl) fun cdv A outer s H E hr F args μ Q h => ?_
  obtain ⟨p, pw, pp, ps, x, N, bk, s0, past0, said0, rfl, g, w0, h0, pl0, lp, ls, hN, ok, rfl, q⟩ := h
  refine xs_cons (xs_set (i := 2) (xe_bl ?_) nd)
  refine xs_cons (xs_for [3] (xi_rng b_range (xa_cons (xe_call DD hr gD (xa_cons (xe_name (i := 0) rfl (xa_cons (xe_int (xa_nil ?_)))))))))
  refine ⟨penMu p x, _, .refl _, p, x, 8, N, rfl, by decide, by decide, by omega, ok, rfl, fun r y r0 rn oky => xa_nil ⟨r, rfl, by omega, by omega, ?_⟩⟩
  refine ⟨fun i δ' μ' => ∃ (b : Bool) (s : WS) (past : List WS) (said : List Deed) (y : Pen) (o3 o4 o5 o6 o7 : Option Rv), δ' = [some (.r (.ref p)), some (.r (.ref pw)), some (.d (.bool b)), o3, o4, o5, o6, o7, none] ∧ Way bk i s ∧ Shp bk s ∧ (b = true → Plain bk s) ∧ past.length ≤ 100 + 2 * i ∧ said.length ≤ 100 + 2 * i ∧ PenOk (N + 1 + 3 * i) y ∧ μ' = PW p y C pw pp ps bk s past said,
    ⟨true, s0, past0, said0, y, none, none, none, none, none, rfl, w0, h0, fun _ => pl0, by omega, by omega, oky.mono (by omega), rfl⟩, fun _ _ _ _ => trivial, ?_, ?_⟩
  · rintro i z δ' μ' hi ⟨b, s, past, said, y, o3, o4, o5, o6, o7, rfl, wy, sh, pl, lp, ls, oy, rfl⟩
    have hlt : i < 7 := by
      have := (List.getElem?_eq_some_iff.mp hi).1
      simp [rngItems] at this
      omega
    have la := wy.len
    have kp : Kp bk s := ⟨wy.inv, sh⟩
    have fine := (keeps g).fine s kp
    refine xg_name (i := 3) ?_ nd
    refine xs_cons (xs_set (i := 4) (xe_len b_len (xa_cons (xe_meth0 DA kl mA hr (xe_name (i := 1) rfl ⟨pw, _, rfl, .tail _ (.tail _ (.tail _ (.tail _ (.head _)))), fw_air bk pp ps s false, [_], _, pm_by [4] _, pw, pp, ps, bk, s, rfl, rfl, fun q0 => xa_nil (.inl ⟨_, _, rfl, .lst (.head _), ?_⟩)⟩)))) nd)
    refine XSs.hs (μ0 := PW p y C pw pp ps bk s past said) (hs_by [2, 2, 2, 2, 1] _) ?_
    rw [List.length_map, List.length_map]
    refine xs_cons (xs_set (i := 5) (xe_call DD hr gD (xa_cons (xe_name (i := 0) rfl (xa_cons (xe_int (xa_nil ⟨penMu p y, _, .refl _, p, y, 8, _, rfl, by decide, by decide, by omega, oy, rfl, fun r1 y1 r10 r1n ok1 => ?_⟩)))))) nd)
    refine xs_one (xs_if (XT.mono (Q := fun k μ1 => (k = true → 0 < s.air.length) ∧ μ1 = PW p y1 C pw pp ps bk s past said) ?_ ?_))
    · refine xt_w (xw_and (xt_cm (xc_lt (xe_name (i := 5) rfl (xe_int ⟨_, _, rfl, rfl, fun h => ?_, fun h => ⟨(fun z => by cases z), rfl⟩⟩)))))
      refine xw_and1 (xt_cm (xc_gt (xe_name (i := 4) rfl (xe_int ⟨_, _, rfl, rfl, fun z => ?_, rfl⟩))))
      have := of_decide_eq_true z
      omega
    rintro k1 μ1 ⟨hk1, rfl⟩
    refine ⟨fun e1 => ?_, fun e1 => ?_⟩
    · -- one comes
      cases ea : s.air with
      | nil => have := hk1 e1; rw [ea] at this; exact absurd this (Nat.lt_irrefl 0)
      | cons l r =>
        have eact : act bk s (.air .come 0) = comes bk s l r := by
          show (match s.air[0]? with | some l => comes bk s l (s.air.eraseIdx 0) | none => s) = _
          rw [ea]
          rfl
        have wy2 := wy.comes g.bk ea
        have la2 := wy2.len
        refine xs_one (xs_expr (XE.hsr (xe_meth DO kl mO hr (xe_name (i := 1) rfl ⟨pw, _, rfl, .tail _ (.tail _ (.tail _ (.tail _ (.head _)))), fw_do bk pp ps s false, xa_cons (xe_tupD (xa_cons (xe_str (xa_cons (xe_int (xa_nil ⟨[.str "come", .int 0], rfl, by simp, xa_nil ?_⟩))))))⟩))))
        refine ⟨WireMu C pw pp ps bk s past said, penMu p y1, List.perm_append_comm (l₁ := penMu p y1), pw, pp, ps, bk, s, past, said, .air .come 0, rfl, fine, by omega, ⟨hk1 e1, (fun h => by cases h)⟩, by rw [eact]; omega, by omega, by omega, rfl, fun r2 => ⟨PW p y1 C pw pp ps bk (comes bk s l r) (past ++ [s]) (said ++ [.air .come 0]), (Hs.refl _).perm ?_, ?_⟩⟩
        · rw [eact]
          exact List.perm_append_comm (l₂ := penMu p y1)
        · exact ⟨b, comes bk s l r, _, _, y1, _, _, _, _, _, rfl, wy2, sh.comes g (by rw [ea]; exact .head _) (fun m hm => by rw [ea]; exact .tail _ hm), fun hb => (pl hb).comes g.bk wy.inv ea, by rw [List.length_append, List.length_singleton]; omega, by rw [List.length_append, List.length_singleton]; omega, ok1.mono (by omega), rfl⟩
    refine xs_one (xs_if (XT.mono (Q := fun k μ1 => (k = true → 0 < s.air.length) ∧ μ1 = PW p y1 C pw pp ps bk s past said) ?_ ?_))
    · refine xt_w (xw_and (xt_cm (xc_eq hr (xe_name (i := 5) rfl (xe_int ⟨.int r1, .int 4, .d _, .d _, (sh_int _).ok (by decide), (sh_int _).ok (by decide), fun h => ?_, fun h => ⟨(fun z => by cases z), rfl⟩⟩)))))
      refine xw_and1 (xt_cm (xc_gt (xe_name (i := 4) rfl (xe_int ⟨_, _, rfl, rfl, fun z => ?_, rfl⟩))))
      have := of_decide_eq_true z
      omega
    rintro k2 μ1 ⟨hk2, rfl⟩
    refine ⟨fun e2 => ?_, fun e2 => ?_⟩
    · -- one is lost, or doubled
      have la0 := hk2 e2
      refine xs_cons (xs_expr (XE.hsr (xe_meth DO kl mO hr (xe_name (i := 1) rfl ⟨pw, _, rfl, .tail _ (.tail _ (.tail _ (.tail _ (.head _)))), fw_do bk pp ps s false, xa_cons (xe_tupD (xa_cons (xe_ix (xe_lst (xa_cons (xe_str (xa_cons (xe_str (xa_nil ⟨by simp, fun pl => ?_⟩)))))))))⟩))))
      refine xe_call DD hr gD (xa_cons (xe_name (i := 0) rfl (xa_cons (xe_int (xa_nil ⟨penMu p y1, _, List.perm_append_comm (l₁ := [_]), p, y1, 2, _, rfl, by decide, by decide, by omega, ok1, rfl, fun r2 y2 r20 r2n ok2 => ?_⟩)))))
      obtain ⟨o, ho, hoe⟩ : ∃ o : Aw, atI [Rv.d (.str "lost"), Rv.d (.str "twice")] r2 = some (.d (.str (tAw o))) ∧ o ≠ .come := by
        have : r2 = 0 ∨ r2 = 1 := by omega
        rcases this with rfl | rfl
        · exact ⟨.lost, rfl, fun h => by cases h⟩
        · exact ⟨.twice, rfl, fun h => by cases h⟩
      refine ⟨_, _, .d (.str (tAw o)), .lst (.tail _ (.tail _ (.tail _ (.tail _ (.tail _ (.head _)))))), rfl, ho, ?_⟩
      refine xa_cons (xe_call DD hr gD (xa_cons (xe_name (i := 0) rfl (xa_cons (xe_name (i := 4) rfl (xa_nil ⟨penMu p y2, _, .refl _, p, y2, _, _, rfl, by omega, by omega, by omega, ok2, rfl, fun r3 y3 r30 r3n ok3 => ?_⟩))))))
      obtain ⟨j, rfl⟩ := Int.eq_ofNat_of_zero_le r30
      have hj : j < s.air.length := by omega
      have key : Way bk (i + 1) (act bk s (.air o j)) ∧ Shp bk (act bk s (.air o j)) := by
        cases o with
        | come => exact absurd rfl hoe
        | lost => exact ⟨wy.lost j, sh.fewer fun m hm => List.mem_of_mem_eraseIdx hm⟩
        | twice =>
          have eact : act bk s (.air .twice j) = ⟨s.e, s.air ++ [s.air[j]]⟩ := by
            show (match s.air[j]? with | some l => (⟨s.e, s.air ++ [l]⟩ : WS) | none => s) = _
            rw [List.getElem?_eq_getElem hj]
          rw [eact]
          refine ⟨wy.twice (List.getElem_mem hj), sh.fewer fun m hm => ?_⟩
          rcases List.mem_append.mp hm with h | h
          · exact h
          · rw [List.mem_singleton.mp h]
            exact List.getElem_mem hj
      have la2 := key.1.len
      refine xa_nil ⟨[.str (tAw o), .int j], rfl, by simp, xa_nil ⟨WireMu C pw pp ps bk s past said, _, pm_by [2, 2, 2] _, pw, pp, ps, bk, s, past, said, .air o j, rfl, fine, by omega, ⟨hj, fun _ => by omega⟩, by omega, by omega, by omega, rfl, fun r4 => ⟨PW p y3 C pw pp ps bk (act bk s (.air o j)) (past ++ [s]) (said ++ [Deed.air o j]), hs_by [3, 3, 0, 0, 0] _, ?_⟩⟩⟩
      refine xs_one (xs_set (i := 2) (xe_bl ?_) nd)
      exact ⟨false, _, _, _, y3, _, _, _, _, _, rfl, key.1, key.2, (fun h => by cases h), by rw [List.length_append, List.length_singleton]; omega, by rw [List.length_append, List.length_singleton]; omega, ok3.mono (by omega), rfl⟩
    refine xs_one (xs_if (xt_cm (xc_eq hr (xe_name (i := 5) rfl (xe_int ⟨.int r1, .int 5, .d _, .d _, (sh_int _).ok (by decide), (sh_int _).ok (by decide), fun e3 => ?_, fun e3 => xs_nil ⟨b, s, past, said, y1, _, _, _, _, _, rfl, wy.mono (by omega), sh, pl, by omega, by omega, ok1.mono (by omega), rfl⟩⟩)))))
    refine xs_cons (xs_set (i := 6) (xe_ixS (xe_str (xe_call DD hr gD (xa_cons (xe_name (i := 0) rfl (xa_cons (xe_int (xa_nil ⟨penMu p y1, _, .refl _, p, y1, 2, _, rfl, by decide, by decide, by omega, ok1, rfl, fun r2 y2 r20 r2n ok2 => ?_⟩)))))))) nd)
    obtain ⟨j, c, hc, ec⟩ := who_ab r20 r2n
    refine ⟨"ab", r2, c, rfl, rfl, by decide +kernel, hc, ?_⟩
    rw [ec]
    refine xs_cons (xs_setMapF (i := 7) [s.e false, s.e true] (fun e => .d (eEnd e)) (fun e => .d (.str (tNm e.name))) (fun e => e.closed) nd (own := [("_law_end", 8)]) (by kernel_rfl) ?_)
    refine xi_tup (xe_meth0 DE kl mE hr (xe_name (i := 1) rfl ⟨pw, _, rfl, .tail _ (.tail _ (.tail _ (.tail _ (.head _)))), fw_ends bk pp ps s false, [_], _, pm_by [4] _, pw, pp, ps, bk, s, rfl, rfl, trivial, _, .tup _, rfl, trivial, by simp, fun e he F' s H C cl fp => ?_, fun qc => ?_⟩))
    · refine xg_name (i := 8) (fun s H C cl fp => ?_) nd
      refine xt_cm (xc_eq hr (xe_ix (xe_name (i := 8) rfl (xe_int ⟨_, 2, .d (.str (tStand e)), .tup _, rfl, rfl, xe_str ⟨_, _, .d _, .d _, (sh_str (ok_stand e)).ok (by decide), (sh_str k_closed).ok (by decide), ne_closed e, fun _ s H C cl fp => ?_, fun _ => .refl _⟩⟩))))
      exact xe_ix (xe_name (i := 8) rfl (xe_int ⟨_, 0, .d (.str (tNm e.name)), .tup _, rfl, rfl, rfl, .refl _⟩))
    refine XSs.hs (μ0 := PW p y2 C pw pp ps bk s past said ++ [(qc, .lst (([s.e false, s.e true].filter (·.closed)).map fun e => .d (.str (tNm e.name))))]) (hs_by [2, 2, 2, 2, 1, 0] _) ?_
    refine xs_cons (XS.nxm (fun δ' μ' => ∃ (past' : List WS) (said' : List Deed) (s1 : WS) (o7 : Option Rv), δ' = [some (.r (.ref p)), some (.r (.ref pw)), some (.d (.bool b)), some z, some (.d (.int s.air.length)), some (.d (.int r1)), some (.d (.str (tNm j))), o7, none] ∧ s1 = (if (s.e j).closed then s else closes s j) ∧ past'.length ≤ past.length + 1 ∧ said'.length ≤ said.length + 1 ∧ Hs (PW p y2 C pw pp ps bk s1 past' said') μ') ?_ ?_)
    · refine xs_if (xt_cm (xc_notin hr (xe_name (i := 6) rfl (xe_name (i := 7) rfl ⟨.str (tNm j), ([s.e false, s.e true].filter (·.closed)).map fun e => .str (tNm e.name), .d _, .lst (by rw [List.map_map]; exact .tail _ (.tail _ (.tail _ (.tail _ (.tail _ (.head _)))))), (sh_str (ok_nm j)).ok (by decide), (sh_map (enc := fun e : Cw.End => PyData.str (tNm e.name)) fun e he => sh_str (ok_nm e.name)).ok (by decide), fun hc2 => ?_, fun hc2 => xs_nil ?_⟩))))
      · rw [closed_any s fine.nm j] at hc2
        have hc3 : (s.e j).closed = false := by simpa using hc2
        have hcl : (closes s j).air.length ≤ s.air.length + 1 := by
          show (s.air ++ _).length ≤ _
          rw [List.length_append]
          exact Nat.le_refl _
        refine xs_one (xs_expr (XE.hsr (xe_meth DO kl mO hr (xe_name (i := 1) rfl ⟨pw, _, rfl, .tail _ (.tail _ (.tail _ (.tail _ (.head _)))), fw_do bk pp ps s false, xa_cons (xe_tupD (xa_cons (xe_str (xa_cons (xe_name (i := 6) rfl (xa_nil ⟨[.str "close", .str (tNm j)], rfl, by simp, xa_nil ?_⟩))))))⟩))))
        exact ⟨WireMu C pw pp ps bk s past said, _, pm_by [2, 2, 2] _, pw, pp, ps, bk, s, past, said, Deed.own .cls j, rfl, fine, by omega, hc3, by show (closes s j).air.length ≤ _; omega, by omega, by omega, rfl, fun r4 => ⟨PW p y2 C pw pp ps bk (closes s j) (past ++ [s]) (said ++ [Deed.own .cls j]), hs_by [3, 3, 0, 0, 0] _, past ++ [s], said ++ [Deed.own .cls j], closes s j, _, rfl, by rw [hc3]; rfl, by rw [List.length_append]; exact Nat.le_refl _, by rw [List.length_append]; exact Nat.le_refl _, Hs.refl _⟩⟩
      · rw [closed_any s fine.nm j] at hc2
        have hc3 : (s.e j).closed = true := by simpa using hc2
        exact ⟨past, said, s, _, rfl, by rw [hc3]; rfl, by omega, by omega, hs_by [0, 0, 0, 0, 0] _⟩
    rintro δ' μ' ⟨past1, said1, s1, o7', rfl, es1, lp1, ls1, hs1⟩
    refine XSs.hs hs1 ?_
    have h1 : Kp bk s1 ∧ (s1.e j).closed = true ∧ s1.air.length ≤ s.air.length + 1 := by
      cases hc : (s.e j).closed with
      | true =>
        rw [hc] at es1
        subst es1
        exact ⟨kp, hc, Nat.le_succ _⟩
      | false =>
        rw [hc] at es1
        subst es1
        refine ⟨⟨wy.inv.closes hc, sh.closes j⟩, ?_, ?_⟩
        · show ((closes s j).e j).closed = true
          rw [show (Cw.closes s j).e j = (closing (s.e j)).1 from put_self ..]
          rfl
        · show (s.air ++ _).length ≤ _
          rw [List.length_append]
          exact Nat.le_refl _
    obtain ⟨kp1, hc1, la1⟩ := h1
    have hol : (opens s1 j).air.length ≤ s1.air.length + 1 := by
      show (s1.air ++ _).length ≤ _
      rw [List.length_append]
      exact Nat.le_refl _
    have ere : opens s1 j = reopens s j := by rw [es1]; rfl
    refine xs_cons (xs_expr (XE.hsr (xe_meth DO kl mO hr (xe_name (i := 1) rfl ⟨pw, _, rfl, .tail _ (.tail _ (.tail _ (.tail _ (.head _)))), fw_do bk pp ps s1 false, xa_cons (xe_tupD (xa_cons (xe_str (xa_cons (xe_name (i := 6) rfl (xa_nil ⟨[.str "open", .str (tNm j)], rfl, by simp, xa_nil ?_⟩))))))⟩))))
    refine ⟨WireMu C pw pp ps bk s1 past1 said1, _, pm_by [2, 2, 2] _, pw, pp, ps, bk, s1, past1, said1, Deed.own .opn j, rfl, (keeps g).fine s1 kp1, by omega, hc1, by show (opens s1 j).air.length ≤ _; omega, by omega, by omega, rfl, fun r4 => ⟨PW p y2 C pw pp ps bk (opens s1 j) (past1 ++ [s1]) (said1 ++ [Deed.own .opn j]), hs_by [3, 3, 0, 0, 0] _, ?_⟩⟩
    refine xs_one (xs_set (i := 2) (xe_bl ?_) nd)
    exact ⟨false, opens s1 j, _, _, y2, _, _, _, _, _, rfl, by rw [ere]; exact wy.reopens g.bk j, kp1.2.opens g j, (fun h => by cases h), by rw [List.length_append, List.length_singleton]; omega, by rw [List.length_append, List.length_singleton]; omega, ok2.mono (by omega), rfl⟩
  · rintro δ' μ' ⟨b, s, past, said, y, o3, o4, o5, o6, o7, rfl, wy, sh, pl, lp, ls, oy, rfl⟩
    have hl7 : (rngItems 0 r.toNat).length ≤ 7 := by simp [rngItems]; omega
    exact xs_one (xs_ret (xe_name (i := 2) rfl ⟨_, .refl _, q b s past said y (wy.mono hl7) sh pl (by omega) (by omega) (oy.mono (by omega))⟩))
end
end Wk

/-! text Wk32 -/
/-! The walk: how many worths; whether a settled wire stands as it must. -/
namespace Wk
open PySem PySem.Spec PyProof.Rows L2 Ds Cw
def sWorthsMany : Sc := fun args μ Q => ∃ bk : Bool → Book, args = [.d (eBooks bk)] ∧ Good bk ∧ μ = [] ∧ Q (.d (.int (allW bk))) []
/-- what is known where both courses are over -/
structure Ends (bk : Bool → Book) (s : WS) (wd : Str) (rest : List PyData) : Prop where
  st : eStand (s.e false) (s.e true) = .tuple (.str wd :: rest)
  is : (openWith (s.e false) (s.e true) = true ∧ wd = "open" ∧ s.air = [] ∧ ∃ g0 g1, (s.e false).given = some g0 ∧ (s.e true).given = some g1 ∧ rest = [eAsk g0, eAsk g1] ∧
      (∀ z, CTo (bk false).wishes (bk true).bounds (planOf (bk false).wishes) z → z = .agreed g0) ∧ ∀ z, CTo (bk true).wishes (bk false).bounds (planOf (bk true).wishes) z → z = .agreed g1) ∨ (openWith (s.e false) (s.e true) = false ∧ wd = "closed" ∧ rest = [])
theorem ends_of {bk : Bool → Book} {s : WS} (hi : Cw.Inv bk s) (hf : final s = true) : ∃ wd rest, Ends bk s wd rest := by
  rcases final_closed hf with ho | ⟨ho, hc⟩
  · obtain ⟨g0, h1, _, _, _, _, h2⟩ := open_right hi ho false
    obtain ⟨g1, h3, _, _, _, _, h4⟩ := open_right hi ho true
    refine ⟨"open", [eAsk g0, eAsk g1], ?_, .inl ⟨ho, rfl, ?_, g0, g1, h1, h3, rfl, h2, h4⟩⟩
    · unfold eStand
      rw [if_pos ho, h1, h3]
      rfl
    · unfold final at hf
      obtain ⟨c0, _⟩ := openWith_split ho false
      have hb : bothClosed s = false := by unfold bothClosed; rw [c0]; rfl
      rw [hb, ho, Bool.false_or, Bool.true_and] at hf
      exact List.isEmpty_iff.mp hf
  · refine ⟨"closed", [], ?_, .inr ⟨ho, rfl, rfl⟩⟩
    unfold eStand
    rw [ho, hc false, hc true]
    rfl
theorem sum_cast {α : Type} (g : α → Nat) : ∀ l : List α, (l.map fun w => ((g w : Nat) : Int)).sum = ((l.map g).sum : Nat)
  | [] => rfl
  | w :: l => by
    rw [List.map_cons, List.map_cons, List.sum_cons, List.sum_cons, sum_cast g l]
    omega
section
variable {P : Program} {w : World} {K : PySem.W.Frag} {mg : Str → Option Value} {base : Heap} {f C CS fH : Addr} {fd : FuncData} {k : Nat} {kws : List (Str × V)}
theorem sc_worths_many : FnScope ["_law_books_here", "_law_wish"] ["_law_books_here"] (defScope (top 93)) := ⟨rfl, rfl, rfl, by decide +kernel, rfl, by decide +kernel, by decide +kernel⟩
theorem d_worths_many (F : FnP K "_law_worths_many" (top 93) f fd) (b_len : mg "len" = none) (b_sum : mg "sum" = none) : Df P w K mg base (k + 1) f ["_law_books_here"] sWorthsMany := by
  have nd := sc_worths_many.nd
  refine df_by F sc_worths_many (fun _ _ _ _ _ _ us hl => match us, hl with | [_], _ => rfl) (fun args μ Q ⟨_, e, _⟩ => by rw [e]; rfl) fun cdv A outer s H E hr F args μ Q h => ?_
  obtain ⟨bk, rfl, g, rfl, q⟩ := h
  refine xs_one (xs_ret (xe_sum b_sum (xa_cons (xe_map ((bk false).wishes ++ (bk true).wishes) (fun w => .d (eWish w)) (fun w => .d (.int w.worths.length)) nd (own := [("_law_wish", 1)]) (by kernel_rfl) ?_))))
  refine xi_tup (xe_cat (xe_ix (xe_ix (xe_name (i := 0) rfl (xe_int ⟨_, 0, .d (eBook (bk false)), .tup _, rfl, rfl, xe_int ⟨_, 0, .d (eWishes (bk false).wishes), .tup _, rfl, rfl, ?_⟩⟩)))))
  refine xe_ix (xe_ix (xe_name (i := 0) rfl (xe_int ⟨_, 1, .d (eBook (bk true)), .tup _, rfl, rfl, xe_int ⟨_, 0, .d (eWishes (bk true).wishes), .tup _, rfl, rfl, ?_⟩⟩)))
  have l0 := (g.w false).few
  have l1 := (g.w true).few
  refine ⟨_, _, trivial, .tup _, trivial, .tup _, by rw [List.length_map, List.length_map, List.length_map, List.length_map]; omega, trivial, _, .t _, by rw [List.map_append, List.map_map, List.map_map]; rfl, trivial, by rw [List.length_append]; omega, fun v hv F' s H C cl fp => ?_, fun p => xa_nil ?_⟩
  · refine xg_name (i := 1) (fun s H C cl fp => ?_) nd
    refine xe_len b_len (xa_cons (xe_ix (xe_name (i := 1) rfl (xe_int ⟨_, 1, .d (eInts v.worths), .tup _, rfl, rfl, xa_nil (.inl ⟨_, _, rfl, .tup _, ?_, .refl _⟩)⟩))))
    rw [List.length_map, List.length_map]
  · refine ⟨p, ((bk false).wishes ++ (bk true).wishes).map fun v => ((v.worths.length : Nat) : Int), rfl, by rw [List.map_map]; exact .head _, [], List.nil_sublist _, ?_⟩
    rw [sum_cast]
    have e : ((((bk false).wishes ++ (bk true).wishes).map fun v => v.worths.length).sum) = allW bk := by
      unfold allW full
      rw [many_planOf, many_planOf, List.map_append, List.sum_append]
    rw [e]
    exact q
end
end Wk

/-! text Wk33 -/
/-! The walk: whether a settled wire stands as it must. -/
namespace Wk
open PySem PySem.Spec PyProof.Rows L2 Ds Cw
def sComeRight (C : Addr) : Sc := fun args μ Q => ∃ (pw pp ps : Addr) (bk : Bool → Book) (b : Bool) (n : Nat) (s : WS) (past : List WS) (said : List Deed), args = [.r (.ref pw), .d (eBooks bk), .d (.bool b), .d (.int n)] ∧ Good bk ∧ Kp bk s ∧ final s = true ∧ n ≤ 100 * (1 + allW bk) ∧ (b = true → (openWith (s.e false) (s.e true) = true ↔ Both bk)) ∧ past.length ≤ 40000 ∧ said.length ≤ 40000 ∧ s.air.length ≤ 40000 ∧
  μ = WireMu C pw pp ps bk s past said ∧ ∀ past' : List WS, past'.length ≤ past.length → Q (.d (.bool true)) (WireMu C pw pp ps bk s past' said)
def cv (zf : Bool → Beh) (i : Bool) (q : Addr) : Rv := .t [.d (.str (wBeh (zf i))), .d (dBeh (zf i)), .r (.ref q)]
theorem k_beh (z : Beh) : KOk (wBeh z) := by
  cases z
  · exact k_agreed
  · exact k_failed
  · exact k_planw
theorem k_else : KOk "else" := by unfold KOk; decide +kernel
section
variable {P : Program} {w : World} {K : PySem.W.Frag} {mg : Str → Option Value} {base : Heap} {f C CS fH : Addr} {fd : FuncData} {k : Nat} {kws : List (Str × V)}
theorem sc_come_right : FnScope ["_law_wire", "_law_books_here", "_law_plain", "_law_many", "_law_stand", "_law_comes", "_law_words", "_law_k", "_law_one"] ["_law_wire", "_law_books_here", "_law_plain", "_law_many"] (defScope (top 94)) := ⟨rfl, rfl, rfl, by decide +kernel, rfl, by decide +kernel, by decide +kernel⟩
theorem d_come_right (kl : Kls K C wireFl) (F : FnP K "_law_come_right" (top 94) f fd) {fM : Addr} (DM : Df P w K mg base k fM ["_law_books_here"] sWorthsMany) (gM : mg "_law_worths_many" = some (.ref fM)) {fU : Addr} (DU : Df P w K mg base k fU ["wire"] (sUnsafe C)) (gU : mg "unsafe" = some (.ref fU))
    {fC : Addr} (DC : Df P w K mg base k fC ["wishes", "bounds"] sCourse) (gC : mg "course" = some (.ref fC)) {fA : Addr} (DA : Df P w K mg base k fA ["self"] (sAir C)) (mA : Meth K C "air" fA) {fS : Addr} (DS : Df P w K mg base k fS ["self"] (sStands C)) (mS : Meth K C "stands" fS)
    {fT : Addr} (DT : Df P w K mg base k fT ["self"] (sSettle C)) (mT : Meth K C "settle" fT) (b_range : mg "range" = none) : Df P w K mg base (k + 1) f ["_law_wire", "_law_books_here", "_law_plain", "_law_many"] (sComeRight C) := by
  have nd := sc_come_right.nd
  refine df_by F sc_come_right (fun _ _ _ _ _ _ us hl => match us, hl with | [_, _, _, _], _ => rfl) (fun args μ Q ⟨_, _, _, _, _, _, _, _, _, e, _⟩ => by rw [e]; rfl) fun cdv A outer s H E hr F args μ Q h => ?_
  obtain ⟨pw, pp, ps, bk, b, n, s, past, said, rfl, g, kp, hf, hn, hb, lp, ls, la, rfl, q⟩ := h
  have fine := (keeps g).fine s kp
  obtain ⟨wd, rest, en⟩ := ends_of kp.1 hf
  have shst := sh_stand fine
  refine xs_cons (xs_set (i := 4) (xe_meth0 DS kl mS hr (xe_name (i := 0) rfl ⟨pw, _, rfl, .tail _ (.tail _ (.head _)), fw_stands bk pp ps s false, [_], _, pm_by [2] _, pw, pp, ps, bk, s, rfl, rfl, ?_⟩)) nd)
  refine XSs.hs (μ0 := WireMu C pw pp ps bk s past said) (hs_by [1, 1, 0] _) ?_
  rw [en.st]
  rw [en.st] at shst
  have kwd : KOk wd := by
    rcases en.is with ⟨_, e, _⟩ | ⟨_, e, _⟩ <;> rw [e]
    · unfold KOk; decide +kernel
    · exact k_closed
  have wopen : PyData.eqv (.str wd) (.str "open") = openWith (s.e false) (s.e true) := by
    rw [eqv_str]
    rcases en.is with ⟨ho, e, _⟩ | ⟨ho, e, _⟩ <;> rw [e, ho] <;> decide +kernel
  have welse : PyData.eqv (.str wd) (.str "else") = false := by
    rw [eqv_str]
    rcases en.is with ⟨ho, e, _⟩ | ⟨ho, e, _⟩ <;> rw [e] <;> decide +kernel
  have kopen : KOk "open" := by unfold KOk; decide +kernel
  refine xs_cons (xs_ifF (XT.mono (Q := fun k μ1 => k = false ∧ μ1 = WireMu C pw pp ps bk s past said) (XT.hsr ?_) fun k μ1 ⟨ek, em⟩ => ⟨ek, xs_nil ?_⟩))
  · refine xt_w (xw_orF (xt_cm (xc_gt (xe_name (i := 3) rfl (xe_mul (xe_int (xe_add (xe_int (xe_call DM hr gM (xa_cons (xe_name (i := 1) rfl (xa_nil ⟨[], _, .refl _, bk, rfl, g, rfl, ?_⟩))))))))))))
    refine ⟨_, _, rfl, rfl, _, _, rfl, rfl, .inl (by decide), _, _, rfl, rfl, decide_eq_false (by omega), ?_⟩
    refine xw_or1 (xt_cm (xc_ne hr (xe_call DU hr gU (xa_cons (xe_name (i := 0) rfl (xa_nil ⟨[(pw, _)], _, pm_by [2] _, pw, pp, ps, bk, s, rfl, g, kp.1, kp.2, hf, rfl, fun q1 => xe_lst (xa_nil ⟨by simp, fun q2 => ?_⟩)⟩))))))
    exact ⟨.list [], .list [], .lst (ds := []) (.tail _ (.head _)), .lst (ds := []) (.head _), rfl, rfl, WireMu C pw pp ps bk s past said, hs_by [3, 3, 2] _, by rw [eqv_list0]; rfl, rfl⟩
  subst em
  refine xs_cons (xs_ifF (XT.mono (Q := fun k μ1 => k = false ∧ μ1 = WireMu C pw pp ps bk s past said) (XT.hsr ?_) fun k μ1 ⟨ek, em⟩ => ⟨ek, xs_nil ?_⟩))
  · refine xt_w (xw_orF (xt_cm (xc_eq hr (xe_ix (xe_name (i := 4) rfl (xe_int ⟨_, 0, .d (.str wd), .tup (.str wd :: rest), rfl, atI_nat (j := 0) rfl, xe_str ⟨.str wd, .str "else", .d _, .d _, (sh_str kwd).ok (by decide), (sh_str k_else).ok (by decide), welse, ?_⟩⟩))))))
    refine xw_or1 (xt_w (xw_and (xt_cm (xc_eq hr (xe_ix (xe_name (i := 4) rfl (xe_int ⟨_, 0, .d (.str wd), .tup (.str wd :: rest), rfl, atI_nat (j := 0) rfl, xe_str ⟨.str wd, .str "open", .d _, .d _, (sh_str kwd).ok (by decide), (sh_str kopen).ok (by decide), fun ho => ?_, fun ho => ⟨_, Hs.refl _, rfl, rfl⟩⟩⟩)))))))
    rw [wopen] at ho
    have ha : s.air = [] := by
      rcases en.is with ⟨_, _, e, _⟩ | ⟨e, _⟩
      · exact e
      · rw [e] at ho; cases ho
    refine xw_and1 (xt_cm (xc_ne hr (xe_meth0 DA kl mA hr (xe_name (i := 0) rfl ⟨pw, _, rfl, .tail _ (.tail _ (.head _)), fw_air bk pp ps s false, [_], _, pm_by [2] _, pw, pp, ps, bk, s, rfl, rfl, fun q1 => xe_lst (xa_nil ⟨by simp, fun q2 => ?_⟩)⟩))))
    refine ⟨.list (s.air.map eAir), .list [], .lst (.tail _ (.head _)), .lst (ds := []) (.head _), by rw [ha]; rfl, rfl, WireMu C pw pp ps bk s past said, hs_by [3, 3, 2] _, by rw [ha, eqv_list0]; rfl, rfl⟩
  subst em
  refine xs_cons (XS.nxm (fun δ' μ' => ∃ o5 o6 o7 o8 : Option Rv, δ' = [some (.r (.ref pw)), some (.d (eBooks bk)), some (.d (.bool b)), some (.d (.int n)), some (.d (.tuple (.str wd :: rest))), o5, o6, o7, o8] ∧ Hs (WireMu C pw pp ps bk s past said) μ') ?_ ?_)
  · refine xs_if (xt_val (xe_name (i := 2) rfl ⟨b, rfl, fun hb1 => ?_, fun hb1 => xs_nil ⟨_, _, _, _, rfl, Hs.refl _⟩⟩))
    have hboth := hb hb1
    have ez : ∀ i, ∃ z, CTo (bk i).wishes (bk !i).bounds (planOf (bk i).wishes) z := fun i =>
      let ⟨z, hz, _⟩ := CTo.ex (ws := (bk i).wishes) (g.bk.b (!i)) _ (Nat.le_refl _) (p := planOf (bk i).wishes) (PlanOk.first (g.bk.w i)).fit
      ⟨z, hz⟩
    obtain ⟨zf, hz⟩ : ∃ zf : Bool → Beh, ∀ i, CTo (bk i).wishes (bk !i).bounds (planOf (bk i).wishes) (zf i) := by
      obtain ⟨z0, h0⟩ := ez false
      obtain ⟨z1, h1⟩ := ez true
      exact ⟨fun i => if i then z1 else z0, fun i => by cases i; exact h0; exact h1⟩
    have ag : ∀ z : Beh, decide (wBeh z = "agreed") = true → ∃ a, z = .agreed a := fun z hz => by
      cases z with
      | agreed a => exact ⟨a, rfl⟩
      | failed k => exact absurd (show decide (("failed" : Str) = "agreed") = true from hz) (by decide +kernel)
      | plan p r => exact absurd (show decide (("plan" : Str) = "agreed") = true from hz) (by decide +kernel)
    have hag : PyData.eqv (.list [.str (wBeh (zf false)), .str (wBeh (zf true))]) (.list [.str "agreed", .str "agreed"]) = openWith (s.e false) (s.e true) := by
      rw [eqv_lst, eqvAll_cons, eqvAll_cons, eqvAll_nil, eqv_str, eqv_str]
      cases ho : openWith (s.e false) (s.e true) with
      | true =>
        obtain ⟨a0, h0⟩ := hboth.mp ho false
        obtain ⟨a1, h1⟩ := hboth.mp ho true
        rw [CTo.det (hz false) h0, CTo.det (hz true) h1]
        show (decide (("agreed" : Str) = "agreed") && (decide (("agreed" : Str) = "agreed") && true)) = true
        decide +kernel
      | false =>
        cases h0 : decide (wBeh (zf false) = "agreed") with
        | false => rfl
        | true =>
          cases h1 : decide (wBeh (zf true) = "agreed") with
          | false => rfl
          | true =>
            exfalso
            obtain ⟨a0, e0⟩ := ag _ h0
            obtain ⟨a1, e1⟩ := ag _ h1
            have : openWith (s.e false) (s.e true) = true := hboth.mpr fun i => by
              cases i
              · exact ⟨a0, by rw [← e0]; exact hz false⟩
              · exact ⟨a1, by rw [← e1]; exact hz true⟩
            rw [ho] at this
            cases this
    refine xs_cons (xs_setLc (i := 5) (own := [("_law_k", 7)]) ?_ nd (blk_ok (by kernel_rfl)) (by first | rfl | with_unfolding_all rfl | kernel_rfl))
    refine xi_rng b_range (xa_cons (xe_int (xa_nil ⟨2, rfl, by decide, by decide, by decide, fun i acc μ' => (match i with | 0 => acc = [] | 1 => ∃ q0, acc = [cv zf false q0] | _ => ∃ q0 q1, acc = [cv zf false q0, cv zf true q1]) ∧ μ' = WireMu C pw pp ps bk s past said, ⟨rfl, rfl⟩, fun _ _ _ _ => trivial, ?_, ?_⟩)))
    · intro i x acc μ' hi hI F' s1 H1 C1 cl1 fp1
      match i, hi, hI with
      | 0, hi, hI =>
        obtain ⟨rfl, rfl⟩ := hI
        cases hi
        refine xg_name (i := 7) (fun s H C cl fp => ?_) nd
        refine XE.sub (xe_call DC hr gC (xa_cons (xe_ix (xe_ix (xe_name (i := 1) rfl (xe_name (i := 7) rfl ⟨_, _, .d (eBook (bk false)), .tup _, rfl, rfl, xe_int ⟨_, 0, .d (eWishes (bk false).wishes), .tup _, rfl, rfl, xa_cons (xe_ix (xe_ix (xe_name (i := 1) rfl (xe_sub (xe_int (xe_name (i := 7) rfl ⟨_, _, rfl, rfl, _, _, .d (eBook (bk true)), .tup _, rfl, rfl, xe_int ⟨_, 1, .d (ePlan (bk true).bounds), .tup _, rfl, rfl, xa_nil ?_⟩⟩))))))⟩⟩))))))
        exact ⟨[], _, .refl _, (bk false).wishes, (bk true).bounds, zf false, rfl, g.w false, g.b true, hz false, rfl, fun q xs => ⟨_, .cons _ (.refl _), ⟨q, rfl⟩, rfl⟩⟩
      | 1, hi, hI =>
        obtain ⟨⟨q0, rfl⟩, rfl⟩ := hI
        cases hi
        refine xg_name (i := 7) (fun s H C cl fp => ?_) nd
        refine XE.sub (xe_call DC hr gC (xa_cons (xe_ix (xe_ix (xe_name (i := 1) rfl (xe_name (i := 7) rfl ⟨_, _, .d (eBook (bk true)), .tup _, rfl, rfl, xe_int ⟨_, 0, .d (eWishes (bk true).wishes), .tup _, rfl, rfl, xa_cons (xe_ix (xe_ix (xe_name (i := 1) rfl (xe_sub (xe_int (xe_name (i := 7) rfl ⟨_, _, rfl, rfl, _, _, .d (eBook (bk false)), .tup _, rfl, rfl, xe_int ⟨_, 1, .d (ePlan (bk false).bounds), .tup _, rfl, rfl, xa_nil ?_⟩⟩))))))⟩⟩))))))
        exact ⟨[], _, .refl _, (bk true).wishes, (bk false).bounds, zf true, rfl, g.w true, g.b false, hz true, rfl, fun q xs => ⟨_, .cons _ (.refl _), ⟨q0, q, rfl⟩, rfl⟩⟩
      | i + 2, hi, hI =>
        have := (List.getElem?_eq_some_iff.mp hi).1
        simp [rngItems] at this
        omega
    rintro acc μ' ⟨⟨q0, q1, rfl⟩, rfl⟩ pc
    refine xs_cons (xs_setMap (i := 6) [(false, q0), (true, q1)] (fun y => cv zf y.1 y.2) (fun y => .d (.str (wBeh (zf y.1)))) nd (own := [("_law_one", 8)]) (by kernel_rfl) ?_)
    refine xi_lst (xe_name (i := 5) rfl ⟨pc, _, rfl, .head _, rfl, .head _, by simp, fun y hy F' s H C cl fp => ?_, fun pq => ?_⟩)
    · refine xg_name (i := 8) (fun s H C cl fp => ?_) nd
      exact xe_ix (xe_name (i := 8) rfl (xe_int ⟨_, 0, .d (.str (wBeh (zf y.1))), .t _, rfl, rfl, rfl, .refl _⟩))
    have k2 : ∀ a c : Str, KOk a → KOk c → SeqAt.shaped (.list [.str a, .str c]) = true := fun a c ha hc => Sh.ok (n := 1) (sh_lst fun x hx => by
      simp only [List.mem_cons, List.not_mem_nil, or_false] at hx
      rcases hx with rfl | rfl
      · exact sh_str ha
      · exact sh_str hc) (by decide)
    refine xs_cons (xs_ifF (xt_cm (xc_ne hr (xe_cm (xc_eq hr (xe_ix (xe_name (i := 4) rfl (xe_int ⟨_, 0, .d (.str wd), .tup (.str wd :: rest), rfl, atI_nat (j := 0) rfl, xe_str ⟨.str wd, .str "open", .d _, .d _, (sh_str kwd).ok (by decide), (sh_str kopen).ok (by decide), ?_⟩⟩))))))))
    refine xe_cm (xc_eq hr (xe_name (i := 6) rfl (xe_lst (xa_cons (xe_str (xa_cons (xe_str (xa_nil ⟨by simp, fun pa => ?_⟩))))))))
    refine ⟨.list [.str (wBeh (zf false)), .str (wBeh (zf true))], .list [.str "agreed", .str "agreed"], .lst (.tail _ (.head _)), .lst (.head _), k2 _ _ (k_beh _) (k_beh _), k2 _ _ k_agreed k_agreed, .bool _, .bool _, .d _, .d _, rfl, rfl, ?_, xs_nil ?_⟩
    · rw [eqv_bool, wopen, hag]
      cases openWith (s.e false) (s.e true) <;> rfl
    refine xs_one (xs_ifF (xt_w (xw_and (xt_cm (xc_eq hr (xe_ix (xe_name (i := 4) rfl (xe_int ⟨_, 0, .d (.str wd), .tup (.str wd :: rest), rfl, atI_nat (j := 0) rfl, xe_str ⟨.str wd, .str "open", .d _, .d _, (sh_str kwd).ok (by decide), (sh_str kopen).ok (by decide), fun ho => ?_, fun ho => ⟨rfl, xs_nil ⟨_, _, _, _, rfl, hs_by [3, 3, 3] _⟩⟩⟩⟩))))))))
    rw [wopen] at ho
    obtain ⟨g0, g1, er, z0, z1⟩ : ∃ g0 g1, rest = [eAsk g0, eAsk g1] ∧ zf false = .agreed g0 ∧ zf true = .agreed g1 := by
      rcases en.is with ⟨_, _, _, g0, g1, _, _, e, h0, h1⟩ | ⟨e, _⟩
      · exact ⟨g0, g1, e, h0 _ (hz false), h1 _ (hz true)⟩
      · rw [e] at ho; cases ho
    have ewd : wd = "open" := by
      rcases en.is with ⟨_, e, _⟩ | ⟨e, _⟩
      · exact e
      · rw [e] at ho; cases ho
    refine xw_and1 (xt_cm (xc_ne hr (xe_name (i := 4) rfl (xe_tupD (xa_cons (xe_str (xa_cons (xe_ix (xe_ix (xe_name (i := 5) rfl (xe_int ⟨_, 0, cv zf false q0, .lst (.tail _ (.tail _ (.head _))), rfl, rfl, xe_int ⟨_, 1, .d (dBeh (zf false)), .t _, rfl, rfl, ?_⟩⟩)))))))))))
    refine xa_cons (xe_ix (xe_ix (xe_name (i := 5) rfl (xe_int ⟨_, 1, cv zf true q1, .lst (.tail _ (.tail _ (.head _))), rfl, rfl, xe_int ⟨_, 1, .d (dBeh (zf true)), .t _, rfl, rfl, xa_nil ⟨[.str "open", dBeh (zf false), dBeh (zf true)], rfl, by simp, ?_⟩⟩⟩))))
    have e2 : PyData.tuple [.str "open", dBeh (zf false), dBeh (zf true)] = .tuple (.str wd :: rest) := by rw [z0, z1, er, ewd]; rfl
    refine ⟨_, _, .d _, .d _, shst.ok (by decide), by rw [e2]; exact shst.ok (by decide), ?_, xs_nil ⟨_, _, _, _, rfl, hs_by [3, 3, 3] _⟩⟩
    rw [e2, eqv_refl _ shst.1]
    rfl
  rintro δ' μ' ⟨o5, o6, o7, o8, rfl, hs⟩
  refine XSs.hs hs ?_
  refine xs_one (xs_ret (XE.hsr (xe_andT (xe_cm (xc_eq hr (xe_meth0 DT kl mT hr (xe_name (i := 0) rfl ⟨pw, _, rfl, .tail _ (.tail _ (.head _)), fw_settle bk pp ps s false, WireMu C pw pp ps bk s past said, [], .refl _, pw, pp, ps, bk, s, s, 0, 0, past, said, Kp bk, rfl, keeps g, kp, .done hf, by omega, by omega, by omega, rfl, fun past' hp => ?_⟩)))))))
  refine xe_int ⟨.int 0, .int 0, .d _, .d _, rfl, rfl, by rw [eqv_int]; rfl, ?_⟩
  refine xe_one (xe_cm (xc_eq hr (xe_meth0 DS kl mS hr (xe_name (i := 0) rfl ⟨pw, _, rfl, .tail _ (.tail _ (.head _)), fw_stands bk pp ps s false, [_], _, pm_by [2] _, pw, pp, ps, bk, s, rfl, rfl, xe_name (i := 4) rfl ?_⟩))))
  rw [en.st]
  refine ⟨_, _, .d _, .d _, shst.ok (by decide), shst.ok (by decide), WireMu C pw pp ps bk s past' said, ?_, ?_⟩
  · have e : said ++ dd bk 0 s = said := List.append_nil _
    rw [e]
    exact hs_by [1, 1, 0] _
  · rw [eqv_refl _ shst.1]
    exact ⟨_, .refl _, q past' (by omega)⟩
end
end Wk

/-! text Wq2 -/
/-! What a settled wire is like; how deep what is saved. -/
namespace Wk
open PySem PySem.Spec PyProof.Rows L2 Ds Cw
theorem sh_letter {l : Letter} (h : ∀ z ∈ l.pairs, KOk z.1) : Sh 3 (eLetter l) := by
  refine sh_tup fun x hx => ?_
  simp only [List.mem_cons, List.not_mem_nil, or_false] at hx
  rcases hx with rfl | rfl | rfl | rfl | rfl | rfl
  · exact (sh_str (ok_nm _)).mono (by decide)
  · exact (sh_str (ok_wd _)).mono (by decide)
  · exact (sh_int _).mono (by decide)
  · exact (sh_int _).mono (by decide)
  · exact (sh_int _).mono (by decide)
  · exact sh_ask h
theorem sh_oLet {o : Option Letter} (h : ∀ l, o = some l → ∀ z ∈ l.pairs, KOk z.1) : Sh 3 (eOLet o) := by
  cases o with
  | none => exact sh_none.mono (by decide)
  | some l => exact sh_letter (h l rfl)
theorem sh_plan {pl : Plan} (h : ∀ p ∈ pl, KOk p.1) : Sh 3 (ePlan pl) := sh_map fun p hp => sh_tup fun x hx => by
  simp only [List.mem_cons, List.not_mem_nil, or_false] at hx
  rcases hx with rfl | rfl
  · exact (sh_str (h p hp)).mono (by decide)
  · exact sh_ints _
theorem sh_wishes {ws : List Wish} (g : GW ws) : Sh 3 (eWishes ws) := sh_map fun v hv => sh_wishk (g.nm v hv).k (g.nn v hv)
theorem sh_end {ws : List Wish} {e : Cw.End} (g : GW ws) (h : EShp ws e) : Sh 4 (eEnd e) := by
  refine sh_tup fun x hx => ?_
  simp only [List.mem_cons, List.not_mem_nil, or_false] at hx
  rcases hx with rfl | rfl | rfl | rfl | rfl | rfl | rfl | rfl | rfl | rfl | rfl | rfl | rfl | rfl | rfl
  · exact (sh_str (ok_nm _)).mono (by decide)
  · rw [h.wi]
    exact sh_wishes g
  · exact (sh_str (ok_stand _)).mono (by decide)
  · exact (sh_int _).mono (by decide)
  · exact (sh_int _).mono (by decide)
  · exact (sh_int _).mono (by decide)
  · exact sh_plan h.sv.2
  · exact (sh_ask fun z hz => allP_k g (h.rf.2 z hz)).mono (by decide)
  · exact (sh_oask fun a ea z hz => (h.gv a ea z hz).1.k).mono (by decide)
  · exact (sh_int _).mono (by decide)
  · exact (sh_oask fun a ea z hz => (h.tk a ea z hz).1.k).mono (by decide)
  · exact sh_oLet fun l el z hz => ((h.ls l el).2 z hz).1.k
  · exact (sh_int _).mono (by decide)
  · exact (sh_int _).mono (by decide)
  · exact (sh_str h.sv.1).mono (by decide)
theorem sh_book {b : Book} (g : GW b.wishes) (gb : GB b.bounds) : Sh 4 (eBook b) := by
  refine sh_tup fun x hx => ?_
  simp only [List.mem_cons, List.not_mem_nil, or_false] at hx
  rcases hx with rfl | rfl
  · exact sh_wishes g
  · exact sh_plan fun p hp => (gb.at_ p hp).1
theorem sh_saved {bk : Bool → Book} {s : WS} (g : Good bk) (h : Shp bk s) : Sh 6 (eSaved bk s) := by
  refine sh_tup fun x hx => ?_
  simp only [List.mem_cons, List.not_mem_nil, or_false] at hx
  rcases hx with rfl | rfl | rfl | rfl | rfl
  · exact (sh_book (g.w false) (g.b false)).mono (by decide)
  · exact (sh_book (g.w true) (g.b true)).mono (by decide)
  · exact (sh_int _).mono (by decide)
  · refine sh_tup fun x hx => ?_
    simp only [List.mem_cons, List.not_mem_nil, or_false] at hx
    rcases hx with rfl | rfl
    · exact sh_end (g.w false) (h.e false)
    · exact sh_end (g.w true) (h.e true)
  · exact sh_map fun l hl => sh_airL fun z hz => ((h.l l hl).2 z hz).1.k
theorem sh_deed (d : Deed) : Sh 1 (eDeed d) := by
  cases d with
  | own o i =>
    refine sh_tup fun x hx => ?_
    simp only [List.mem_cons, List.not_mem_nil, or_false] at hx
    rcases hx with rfl | rfl
    · exact sh_str (ok_ow o)
    · exact sh_str (ok_nm i)
  | air o j =>
    refine sh_tup fun x hx => ?_
    simp only [List.mem_cons, List.not_mem_nil, or_false] at hx
    rcases hx with rfl | rfl
    · exact sh_str (ok_aw o)
    · exact sh_int _
theorem keeps_round {bk : Bool → Book} {Kq : WS → Prop} (hK : Keeps bk Kq) {s : WS} (k : Kq s) : Kq (round s) := by
  unfold Cw.round
  dsimp only
  have h1 : Kq (if (s.e false).closed then s else ticks s false) := by
    split
    · exact k
    · exact hK.tick s false k
  split
  · exact h1
  · exact hK.tick _ true h1
theorem settles_keeps {bk : Bool → Book} {Kq : WS → Prop} (hK : Keeps bk Kq) {m n : Nat} {s s' : WS} (g : Settles bk m s n s') : Kq s → Kq s' := by
  induction g with
  | done _ => exact id
  | come _ e _ ih => exact fun k => ih (hK.come _ _ _ k e)
  | tick _ _ _ ih => exact fun k => ih (keeps_round hK k)
theorem round_len (s : WS) : (round s).air.length ≤ s.air.length + 2 := by
  unfold Cw.round
  dsimp only
  have h1 : (if (s.e false).closed then s else ticks s false).air.length ≤ s.air.length + 1 := by
    split
    · exact Nat.le_succ _
    · show (s.air ++ (ticked (s.e false)).2).length ≤ _
      rw [List.length_append]
      have := ticked_len (s.e false)
      omega
  split
  · omega
  · show (_ ++ (ticked _).2).length ≤ _
    rw [List.length_append]
    have := ticked_len ((if (s.e false).closed then s else ticks s false).e true)
    omega
theorem settles_len {bk : Bool → Book} {m n : Nat} {s s' : WS} (g : Settles bk m s n s') : s'.air.length ≤ s.air.length + 2 * m := by
  induction g with
  | done _ => exact Nat.le_refl _
  | @come k n s s' l r _ e _ ih =>
    have : (comes bk s l r).air.length ≤ r.length + 2 := by
      show (r ++ (Cw.heard (s.e (!l.who)) l (bk (!l.who)).bounds).2).length ≤ _
      rw [List.length_append]
      have := heard_len (s.e (!l.who)) l (bk (!l.who)).bounds
      omega
    rw [e, List.length_cons]
    omega
  | @tick k n s s' _ e _ ih =>
    have := round_len s
    omega
theorem dd_len (bk : Bool → Book) : ∀ (m : Nat) (s : WS), (dd bk m s).length ≤ 2 * m
  | 0, _ => Nat.le_refl _
  | m + 1, s => by
    show (nextDeeds s ++ dd bk m (comeTo bk s)).length ≤ _
    rw [List.length_append]
    have := next_len s
    have := dd_len bk m (comeTo bk s)
    omega
theorem allW_le {bk : Bool → Book} (g : Good bk) : allW bk ≤ 18 := by
  have h : ∀ i, full (bk i).wishes ≤ 9 := fun i => by
    unfold full
    rw [many_planOf]
    have h1 : ∀ l : List Wish, (∀ v ∈ l, v.worths.length ≤ 3) → (l.map fun v => v.worths.length).sum ≤ 3 * l.length := fun l => by
      induction l with
      | nil => exact fun _ => Nat.zero_le _
      | cons v l ih =>
        intro h
        have := ih fun u hu => h u (List.mem_cons_of_mem _ hu)
        have := h v List.mem_cons_self
        rw [List.map_cons, List.sum_cons, List.length_cons]
        omega
    have := h1 (bk i).wishes fun v hv => ((g.w i).wo v hv).1
    have := (g.w i).few
    omega
  have := h false
  have := h true
  unfold allW
  omega
end Wk

/-! text Wk34 -/
/-! The walk: the law. -/
namespace Wk
open PySem PySem.Spec PyProof.Rows L2 Ds Cw
def sLaw (K : PySem.W.Frag) : ScH := fun H args μ Q => ∃ (a : Addr) (ns : List Int), args = [.r (.ref a)] ∧ ns.length ≤ 63 ∧ SqL K H a (ns.map V.int) ∧ μ = [] ∧ Q (.d (.bool true)) []
theorem opened_one (bk : Bool → Book) (j : Bool) : [(opens (start bk) j).e false, (opens (start bk) j).e true].filter (·.closed) = [(opens (start bk) j).e (!j)] := by
  have h1 : ((opens (start bk) j).e j).closed = false := opens_closed j
  have h2 := two_shut bk j
  cases j
  · rw [List.filter_cons_of_neg (by rw [h1]; decide), List.filter_cons_of_pos (by exact h2)]
    rfl
  · rw [List.filter_cons_of_pos (by exact h2), List.filter_cons_of_neg (by rw [h1]; decide)]
    rfl
section
variable {P : Program} {w : World} {K : PySem.W.Frag} {mg : Str → Option Value} {base : Heap} {f C CS fH : Addr} {fd : FuncData} {k : Nat} {kws : List (Str × V)}
theorem sc_law : FnScope ["_law_script", "_law_pen_here", "_law_turn", "_law_books_here", "_law_wire", "_law_plain", "_law_other", "_law_many", "_law_end"] ["_law_script"] (defScope (top 95)) := ⟨rfl, rfl, rfl, by decide +kernel, rfl, by decide +kernel, by decide +kernel⟩
theorem f_law (kl : Kls K C wireFl) (F : FnP K "law" (top 95) f fd) {fP : Addr} (DP : DfH P w K mg base (k + 1) fP ["_law_script"] (sPen K)) (gP : mg "_law_pen" = some (.ref fP)) {fB : Addr} (DB : Df P w K mg base (k + 1) fB ["_law_pen_here", "_law_many", "_law_most"] sBooks) (gB' : mg "_law_books" = some (.ref fB))
    {fI : Addr} (DI : DfD P w K mg base k fI ["self", "one", "other", "tries"] [.d (.int 3)] (sWireInit C)) (M : Mk K C fI) (gW : mg "Wire" = some (.ref C)) {fD : Addr} (DD : Df P w K mg base (k + 1) fD ["_law_pen_here", "_law_many"] sDraw) (gD : mg "_law_draw" = some (.ref fD))
    {fO : Addr} (DO : Df P w K mg base (k + 1) fO ["self", "deed"] (sWireDo C)) (mO : Meth K C "do" fO) {fE : Addr} (DE : Df P w K mg base (k + 1) fE ["self"] (sEnds C)) (mE : Meth K C "ends" fE) {fU : Addr} (DU : Df P w K mg base (k + 1) fU ["_law_pen_here", "_law_wire"] (sUnsettled C)) (gU : mg "_law_unsettled" = some (.ref fU))
    {fW : Addr} (DW : Df P w K mg base (k + 1) fW ["self"] (sTwin C)) (mW : Meth K C "twin" fW) {fT : Addr} (DT : Df P w K mg base (k + 1) fT ["self"] (sSettle C)) (mT : Meth K C "settle" fT) {fR : Addr} (DR : Df P w K mg base (k + 1) fR ["_law_wire", "_law_books_here", "_law_plain", "_law_many"] (sComeRight C)) (gR : mg "_law_come_right" = some (.ref fR))
    {fQ : Addr} (DQ : Df P w K mg base (k + 1) fQ ["self", "other"] (sEqW C)) (hsQ : PySem.W.findIn K (.ref C) "__eq__" = some (some (.ref fQ))) (hfQ : PySem.W.isFn K (.ref fQ) = true) {fL : Addr} (DL : Df P w K mg base (k + 1) fL ["self"] (sDeeds C)) (mL : Meth K C "deeds" fL) (b_range : mg "range" = none) :
    FnOk P w K mg base CX0 (k + 2) f fd ["_law_script"] (spOfH K (sLaw K)) := by
  have nd := sc_law.nd
  refine df_fnH F sc_law (fun H args μ Q ⟨_, _, e, _⟩ => by rw [e]; rfl) fun cdv A outer s H E hr H0 args μ Q h => ?_
  obtain ⟨a, ns, rfl, hl, hs, rfl, q⟩ := h
  refine xs_cons (xs_set (i := 1) (xe_callH DP hr gP (xa_cons (xe_name (i := 0) rfl (xa_nil ⟨[], [], .refl _, fun H1 fk => ⟨a, ns, rfl, hl, Kn.at_ (F := ⟨H0, []⟩) ⟨rfl, hs⟩ fk, rfl, fun p x ok => ?_⟩⟩)))) nd)
  refine xs_cons (xs_for [2] (xi_rng b_range (xa_cons (xe_int (xa_nil ⟨2, rfl, by decide, by decide, ?_⟩)))))
  refine ⟨fun i δ' μ' => ∃ (y : Pen) (o2 o3 o4 o5 o6 o7 : Option Rv), δ' = [some (.r (.ref a)), some (.r (.ref p)), o2, o3, o4, o5, o6, o7, none] ∧ PenOk (200 * i) y ∧ Hs (penMu p y) μ', ⟨x, none, none, none, none, none, none, rfl, ok.mono (by omega), hs_by [0, 0] _⟩, fun _ _ _ _ => trivial, ?_, ?_⟩
  · rintro i z δ' μ' hi ⟨y, o2, o3, o4, o5, o6, o7, rfl, oy, hs1⟩
    have hlt : i < 2 := by
      have := (List.getElem?_eq_some_iff.mp hi).1
      simp [rngItems] at this
      omega
    refine xg_name (i := 2) (XSs.hs hs1 ?_) nd
    refine xs_cons (xs_set (i := 3) (xe_call DB hr gB' (xa_cons (xe_name (i := 1) rfl (xa_cons (xe_int (xa_cons (xe_int (xa_nil ⟨penMu p y, [], .refl _, p, y, _, rfl, by omega, oy, rfl, fun bk y1 g ok1 => ?_⟩)))))))) nd)
    refine xs_cons (xs_set (i := 4) (xe_makeD DI M hr gW (xa_cons (xe_ix (xe_name (i := 3) rfl (xe_int ⟨_, 0, .d (eBook (bk false)), .tup _, rfl, rfl, xa_cons (xe_ix (xe_name (i := 3) rfl (xe_int ⟨_, 1, .d (eBook (bk true)), .tup _, rfl, rfl, xa_nil fun pw => ⟨[(pw, .ins C [])], _, .refl _, pw, bk, rfl, rfl, fun pp ps => ⟨rfl, ?_⟩⟩⟩)))⟩))))) nd)
    refine XSs.hs (μ0 := PW p y1 C pw pp ps bk (start bk) [] []) (hs_by [3, 3, 0, 0, 0] _) ?_
    have kp0 : Kp bk (start bk) := ⟨Cw.Inv.start bk, Shp.start bk⟩
    have K' := keeps g
    -- one is opened
    refine xs_cons (xs_expr (XE.hsr (xe_meth DO kl mO hr (xe_name (i := 4) rfl ⟨pw, _, rfl, .tail _ (.tail _ (.tail _ (.tail _ (.head _)))), fw_do bk pp ps (start bk) false, xa_cons (xe_tupD (xa_cons (xe_str (xa_cons (xe_ixS (xe_str (xe_call DD hr gD (xa_cons (xe_name (i := 1) rfl (xa_cons (xe_int (xa_nil ?_))))))))))))⟩))))
    refine ⟨penMu p y1, _, .refl _, p, y1, 2, _, rfl, by decide, by decide, by omega, ok1, rfl, fun r2 y2 r20 r2n ok2 => ?_⟩
    obtain ⟨j, c, hc, ec⟩ := who_ab r20 r2n
    refine ⟨"ab", r2, c, rfl, rfl, by decide +kernel, hc, ?_⟩
    rw [ec]
    have kp1 : Kp bk (opens (start bk) j) := ⟨kp0.1.opens g.bk (start_closed bk j), kp0.2.opens g j⟩
    have kp2 : Kp bk (two bk j) := ⟨kp1.1.opens g.bk (two_shut bk j), kp1.2.opens g (!j)⟩
    refine xa_nil ⟨[.str "open", .str (tNm j)], rfl, by simp, xa_nil ⟨WireMu C pw pp ps bk (start bk) [] [], _, pm_by [2, 2, 2] _, pw, pp, ps, bk, start bk, [], [], Deed.own .opn j, rfl, K'.fine _ kp0, (show (0 : Nat) ≤ 50000 by decide), start_closed bk j, (show (1 : Nat) ≤ 50000 by decide), by decide, by decide, rfl, fun r4 => ⟨PW p y2 C pw pp ps bk (opens (start bk) j) [start bk] [Deed.own .opn j], hs_by [3, 3, 0, 0, 0] _, ?_⟩⟩⟩
    -- then the other one
    have fine1 := K'.fine _ kp1
    refine xs_cons (xs_expr (XE.hsr (xe_meth DO kl mO hr (xe_name (i := 4) rfl ⟨pw, _, rfl, .tail _ (.tail _ (.tail _ (.tail _ (.head _)))), fw_do bk pp ps (opens (start bk) j) false, xa_cons (xe_tupD (xa_cons (xe_str (xa_cons (xe_ix ?_)))))⟩))))
    refine xe_mapF [(opens (start bk) j).e false, (opens (start bk) j).e true] (fun e => .d (eEnd e)) (fun e => .d (.str (tNm e.name))) (fun e => e.closed) nd (own := [("_law_end", 8)]) (by kernel_rfl) ?_
    refine xi_tup (xe_meth0 DE kl mE hr (xe_name (i := 4) rfl ⟨pw, _, rfl, .tail _ (.tail _ (.tail _ (.tail _ (.head _)))), fw_ends bk pp ps (opens (start bk) j) false, [_], _, pm_by [4] _, pw, pp, ps, bk, opens (start bk) j, rfl, rfl, trivial, _, .tup _, rfl, trivial, by simp, fun e he F' s H C cl fp => ?_, fun qc => ?_⟩))
    · refine xg_name (i := 8) (fun s H C cl fp => ?_) nd
      refine xt_cm (xc_eq hr (xe_ix (xe_name (i := 8) rfl (xe_int ⟨_, 2, .d (.str (tStand e)), .tup _, rfl, rfl, xe_str ⟨_, _, .d _, .d _, (sh_str (ok_stand e)).ok (by decide), (sh_str k_closed).ok (by decide), ne_closed e, fun _ s H C cl fp => ?_, fun _ => .refl _⟩⟩))))
      exact xe_ix (xe_name (i := 8) rfl (xe_int ⟨_, 0, .d (.str (tNm e.name)), .tup _, rfl, rfl, rfl, .refl _⟩))
    rw [opened_one]
    have nm1 := fine1.nm (!j)
    refine xe_int ⟨_, 0, .d (.str (tNm ((opens (start bk) j).e (!j)).name)), .lst (.head _), rfl, rfl, ?_⟩
    rw [nm1]
    refine xa_nil ⟨[.str "open", .str (tNm (!j))], rfl, by simp, xa_nil ⟨WireMu C pw pp ps bk (opens (start bk) j) [start bk] [Deed.own .opn j], _, pm_by [4, 4, 1] _, pw, pp, ps, bk, opens (start bk) j, [start bk], [Deed.own .opn j], Deed.own .opn (!j), rfl, fine1, ?_, two_shut bk j, ?_, (show (1 : Nat) ≤ 50000 by decide), (show (1 : Nat) ≤ 50000 by decide), rfl, fun r4 => ⟨PW p y2 C pw pp ps bk (two bk j) [start bk, opens (start bk) j] [Deed.own .opn j, Deed.own .opn (!j)], hs_by [4, 4, 0, 0, 0] _, ?_⟩⟩⟩
    · exact (show (1 : Nat) ≤ 50000 by decide)
    · exact (show (2 : Nat) ≤ 50000 by decide)
    refine xs_cons (xs_set (i := 5) (xe_call DU hr gU (xa_cons (xe_name (i := 1) rfl (xa_cons (xe_name (i := 4) rfl (xa_nil ?_)))))) nd)
    refine ⟨PW p y2 C pw pp ps bk (two bk j) [start bk, opens (start bk) j] [Deed.own .opn j, Deed.own .opn (!j)], [], .refl _, p, pw, pp, ps, y2, _, bk, two bk j, _, _, rfl, g, Way.two g.bk j, kp2.2, Plain.two j, by simp, by simp, by omega, ok2, rfl, fun b s1 past1 said1 y3 wy sh1 pl lp ls ok3 => ?_⟩
    obtain ⟨k0, n, s2, st, n1, k1, inv2, f2, pl2⟩ := settled g.bk wy
    have aw := allW_le g
    have kp3 : Kp bk s1 := ⟨wy.inv, sh1⟩
    have kp4 : Kp bk s2 := settles_keeps K' st kp3
    have len4 := settles_len st
    have la1 := wy.len
    have dl := dd_len bk k0 s1
    have lsaid : (said1 ++ dd bk k0 s1).length ≤ 40000 := by rw [List.length_append]; omega
    refine xs_cons (xs_set (i := 6) (xe_meth0 DW kl mW hr (xe_name (i := 4) rfl ⟨pw, _, rfl, .tail _ (.tail _ (.tail _ (.tail _ (.head _)))), fw_twin bk pp ps s1 false, WireMu C pw pp ps bk s1 past1 said1, _, pm_by [2, 2, 2] _, pw, pp, ps, bk, s1, past1, said1, rfl, rfl, fun q0 qp qs => ?_⟩)) nd)
    refine xs_cons (xs_set (i := 7) (xe_meth0 DT kl mT hr (xe_name (i := 4) rfl ⟨pw, _, rfl, .tail _ (.tail _ (.tail _ (.tail _ (.tail _ (.head _))))), fw_settle bk pp ps s1 false, WireMu C pw pp ps bk s1 past1 said1, _, pm_by [3, 3, 3] _, pw, pp, ps, bk, s1, s2, k0, n, past1, said1, Kp bk, rfl, K', kp3, st, by omega, by omega, by omega, rfl, fun past2 lp2 => ?_⟩)) nd)
    refine xs_cons (xs_ifF (xt_not (xt_val (xe_call DR hr gR (xa_cons (xe_name (i := 4) rfl (xa_cons (xe_name (i := 3) rfl (xa_cons (xe_name (i := 5) rfl (xa_cons (xe_name (i := 7) rfl (xa_nil ?_)))))))))))))
    refine ⟨WireMu C pw pp ps bk s2 past2 (said1 ++ dd bk k0 s1), _, .refl _, pw, pp, ps, bk, b, n, s2, past2, _, rfl, g, kp4, f2, n1, fun hb => pl2 (pl hb), by omega, lsaid, by omega, rfl, fun past3 lp3 => ⟨true, rfl, rfl, xs_nil ?_⟩⟩
    refine xs_one (xs_ifF (XT.mono (Q := fun k μ1 => k = false ∧ Hs (penMu p y3) μ1) ?_ fun k μ1 ⟨ek, hs2⟩ => ⟨ek, xs_nil ⟨y3, _, _, _, _, _, _, rfl, ok3.mono (by omega), hs2⟩⟩))
    refine xt_w (xw_orF (xt_cm (xc_ne hr (xe_meth0 DT kl mT hr (xe_name (i := 6) rfl ⟨q0, _, rfl, .tail _ (.tail _ (.tail _ (.tail _ (.tail _ (.head _))))), fw_settle bk qp qs s1 false, WireMu C q0 qp qs bk s1 past1 said1, _, pm_by [3, 3, 3] _, q0, qp, qs, bk, s1, s2, k0, n, past1, said1, Kp bk, rfl, K', kp3, st, by omega, by omega, by omega, rfl, fun past4 lp4 => ?_⟩)))))
    refine xe_name (i := 7) rfl ⟨.int n, .int n, .d _, .d _, (sh_int _).ok (by decide), (sh_int _).ok (by decide), by rw [eqv_int]; simp, ?_⟩
    refine xw_orF (xt_not (xt_cm (xc_eqO DQ hsQ hfQ hr (xe_name (i := 6) rfl (xe_name (i := 4) rfl ⟨q0, pw, _, _, rfl, rfl, .tail _ (.tail _ (.head _)), .tail _ (.tail _ (.tail _ (.tail _ (.tail _ (.head _))))), [(q0, _), (pw, _)], _, pm_by [2, 4] _, q0, qp, qs, pw, pp, ps, bk, s2, rfl, (sh_saved g kp4.2).1, Nat.le_trans (sh_saved g kp4.2).2 (by decide), rfl, true, rfl, rfl, ?_⟩)))))
    have shd : Sh 2 (.list ((said1 ++ dd bk k0 s1).map eDeed)) := sh_mapL fun d _ => sh_deed d
    refine xw_or1 (xt_cm (xc_ne hr (xe_meth0 DL kl mL hr (xe_name (i := 6) rfl ⟨q0, _, rfl, .tail _ (.head _), fw_deeds bk qp qs s2 false, [(qs, oSaid (said1 ++ dd bk k0 s1)), (q0, _)], _, pm_by [2, 1] _, q0, qp, qs, bk, s2, said1 ++ dd bk k0 s1, rfl, rfl, fun d1 => ?_⟩))))
    refine xe_meth0 DL kl mL hr (xe_name (i := 4) rfl ⟨pw, _, rfl, .tail _ (.tail _ (.tail _ (.head _))), fw_deeds bk pp ps s2 false, [(ps, oSaid (said1 ++ dd bk k0 s1)), (pw, _)], _, pm_by [5, 3] _, pw, pp, ps, bk, s2, said1 ++ dd bk k0 s1, rfl, rfl, fun d2 => ?_⟩)
    refine ⟨.list ((said1 ++ dd bk k0 s1).map eDeed), .list ((said1 ++ dd bk k0 s1).map eDeed), .lst (.tail _ (.tail _ (.tail _ (.head _)))), .lst (.head _), shd.ok (by decide), shd.ok (by decide), ?_, hs_by [8, 8] _⟩
    rw [eqv_refl _ shd.1]
    rfl
  · rintro δ' μ' ⟨y, o2, o3, o4, o5, o6, o7, rfl, oy, hs1⟩
    exact xs_one (xs_ret (xe_bl ⟨[], List.nil_sublist _, q⟩))
end
end Wk

/-! text Hd0 -/
/-! The head: tables of the module. -/
namespace Wk
open PySem PySem.Spec PyProof.Rows L2 Ds Cw He
/-- the module's name x is a tuple of these texts, with no dict -/
def tupS (K : PySem.W.Frag) (x : Str) (vs : List Str) : Bool := match K.lookup (ga K x) with
  | some ⟨.type c, none, .seq its _, _⟩ => decide (c = "tuple") && (decide (its.size ≤ sizeLine) && relAll (vs.map V.str) its.toList)
  | _ => false
theorem tupS_ok {K : PySem.W.Frag} {x : Str} {vs : List Str} (h : tupS K x vs = true) : (∀ H, SqP K H (ga K x) (vs.map V.str)) ∧ ∃ o, K.lookup (ga K x) = some o ∧ o.cls = .type "tuple" ∧ o.dict = none := by
  unfold tupS at h
  cases q : K.lookup (ga K x) with
  | none =>
    rw [q] at h
    cases h
  | some o =>
    obtain ⟨oc, od, dt, osl⟩ := o
    rw [q] at h
    cases oc with
    | type c =>
      cases od with
      | none =>
        cases dt with
        | seq its n =>
          obtain ⟨h1, h2⟩ := ba (show (decide (c = "tuple") && (decide (its.size ≤ sizeLine) && relAll (vs.map V.str) its.toList)) = true from h)
          obtain ⟨h3, h4⟩ := ba h2
          have e := congrArg Value.type (of_decide_eq_true h1)
          exact ⟨fun H => .inr ⟨_, its, n, q, e, rfl, rfl, of_decide_eq_true h3, relAll_ok h4⟩, _, rfl, e, rfl⟩
        | _ => cases h
      | some a => cases dt <;> cases h
    | _ => cases od <;> cases dt <;> cases h
theorem strs_tds (K : PySem.W.Frag) (H : Hp) : ∀ vs : List Str, Tds K H (vs.map V.str) (vs.map PyData.str)
  | [] => .nil
  | v :: vs => .cons (.str v) (strs_tds K H vs)
/-! ### a dict of the module -/
def emptyB (K : PySem.W.Frag) (a : Addr) : Bool := match K.lookup a with
  | some ⟨.type c, none, .seq its _, _⟩ => decide (c = "tuple") && its.isEmpty
  | _ => false
theorem emptyB_ok {K : PySem.W.Frag} {a : Addr} (h : emptyB K a = true) (H : Hp) : SqP K H a [] := by
  unfold emptyB at h
  cases q : K.lookup a with
  | none =>
    rw [q] at h
    cases h
  | some o =>
    obtain ⟨oc, od, dt, osl⟩ := o
    rw [q] at h
    cases oc with
    | type c =>
      cases od with
      | none =>
        cases dt with
        | seq its n =>
          obtain ⟨h1, h2⟩ := ba (show (decide (c = "tuple") && its.isEmpty) = true from h)
          have e : its = #[] := Array.isEmpty_iff.mp h2
          subst e
          exact .inr ⟨_, #[], n, q, congrArg Value.type (of_decide_eq_true h1), rfl, rfl, Nat.zero_le _, .nil⟩
        | _ => cases h
      | some a => cases dt <;> cases h
    | _ => cases od <;> cases dt <;> cases h
def rvB (K : PySem.W.Frag) (u : Value) (d : PyData) : Bool := match d, u with
  | .str x, .str y _ => decide (y = x)
  | .int i, .int j _ => decide (j = i)
  | .none, .none => true
  | .tuple [], .ref a => emptyB K a
  | _, _ => false
theorem rvB_ok {K : PySem.W.Frag} {u : Value} {d : PyData} (h : rvB K u d = true) : ∃ v, RelV v u ∧ ∀ H, Rk K H v (.d d) := by
  unfold rvB at h
  split at h
  · rename_i x y t
    have e : y = x := of_decide_eq_true h
    exact ⟨.str x, ⟨t, by rw [e]⟩, fun H => .d (.str x)⟩
  · rename_i i j t
    have e : j = i := of_decide_eq_true h
    exact ⟨.int i, ⟨t, by rw [e]⟩, fun H => .d (.int i)⟩
  · exact ⟨.non, rfl, fun H => .d .non⟩
  · rename_i a
    exact ⟨.ref a, rfl, fun H => .d (.tup (emptyB_ok h H) .nil)⟩
  · cases h
def entB (K : PySem.W.Frag) : List DictEntry → List (Str × PyData) → Bool
  | [], [] => true
  | e :: es, q :: qs => (match e.key with
    | .str x _ => decide (x = q.1)
    | _ => false) && (rvB K e.val q.2 && entB K es qs)
  | _, _ => false
def dRv (q : Str × PyData) : Str × Rv := (q.1, .d q.2)
theorem ent_ok {K : PySem.W.Frag} (w : World) : ∀ {es : List DictEntry} {qs : List (Str × PyData)}, entB K es qs = true → ∃ (kv : List (Key × V)) (vs : List (Key × Value)), (∀ P : Program, Pairs (mixKind P w) es vs) ∧ KV kv vs ∧ vs.map (·.1) = qs.map (fun q => Sum.inr q.1) ∧ ∀ H, DR K H kv (qs.map dRv)
  | [], [], _ => ⟨[], [], fun _ => .nil, .nil, rfl, fun H => .nil⟩
  | [], _ :: _, h => by cases h
  | _ :: _, [], h => by cases h
  | e :: es, q :: qs, h => by
    obtain ⟨h1, h2⟩ := ba (show ((match e.key with | .str x _ => decide (x = q.1) | _ => false) && (rvB K e.val q.2 && entB K es qs)) = true from h)
    obtain ⟨h3, h4⟩ := ba h2
    obtain ⟨kv, vs, p1, p2, p3, p4⟩ := ent_ok w h4
    obtain ⟨v, r1, r2⟩ := rvB_ok h3
    cases ek : e.key with
    | str x t =>
      rw [ek] at h1
      have ex : x = q.1 := of_decide_eq_true h1
      refine ⟨(.inr q.1, v) :: kv, (.inr q.1, e.val) :: vs, fun P => .cons ?_ rfl (p1 P), .cons ⟨rfl, r1⟩ p2, by rw [List.map_cons, List.map_cons, p3], fun H => .cons (r2 H) (p4 H)⟩
      rw [ek, ex]
      exact keyIs_str _ t
    | _ => rw [ek] at h1; cases h1
def restD : List (Str × PyData) := [("stand", .str "closed"), ("number", .int 0), ("plan", .tuple []), ("refused", .tuple []), ("given", .none), ("heard", .int 0), ("took", .none), ("last", .none), ("tries", .int 0)]
def restB (K : PySem.W.Frag) (a : Addr) : Bool := match K.lookup a with
  | some ⟨_, _, .dict es _, _⟩ => entB K es.toList restD
  | _ => false
theorem rest_nodup : (restD.map fun q => (Sum.inr q.1 : Key)).Nodup := by decide +kernel
/-- dict(d) of such a one -/
theorem rest_ok {K : PySem.W.Frag} {w : World} {a : Addr} {es : Array DictEntry} {n : Nat} (D : KDict K w a es n) (h : restB K a = true) :
    ∃ kv, (∀ H, DR K H kv restK) ∧ ∀ X : Cx, X.K = K → X.w = w → CallR X (.type "dict") (fun xs H Q => xs = [V.ref a] ∧ ∀ p, H p = none → Q (.ref p) (upd H p (.dK kv))) := by
  unfold restB at h
  rw [D.at_] at h
  have h' : entB K es.toList restD = true := h
  obtain ⟨kv, vs, p1, p2, p3, p4⟩ := ent_ok (K := K) w h'
  have hl : kv.length ≤ sizeLine := by
    have e := congrArg List.length (p4 fun _ => none).1
    rw [List.length_map, List.length_map] at e
    rw [e]
    decide
  refine ⟨kv, p4, fun X hK hw => ?_⟩
  intro pins s σ H xs us Q I r q
  obtain ⟨ex, q⟩ := q
  subst ex
  obtain ⟨u, eu, rx⟩ := vals1 r
  subst eu
  cases rx
  have dd : s.heap.DictOf (mixKind X.prog X.w) a vs := by
    refine ⟨_, es, n, I.kIn a _ (by rw [hK]; exact D.at_), ⟨rfl, rfl, rfl⟩, rfl, fun e he => ?_, by rw [hw]; exact p1 X.prog, by rw [p3]; exact rest_nodup⟩
    obtain ⟨x, t, e1, e2⟩ := D.lit.all e (Array.mem_toList_iff.mpr he)
    refine ⟨.inr x, by rw [e1]; exact keyIs_str x t, ?_⟩
    rw [hw]
    exact e2
  refine kt_call_dict D.low dd (by rw [← p2.length]; exact hl) fun h' d' hs => ?_
  have hm : (s.heap.objs.size == sysModules) = false := beq_eq_false_iff_ne.mpr (Nat.ne_of_gt I.big)
  exact ⟨.ref s.heap.objs.size, upd H s.heap.objs.size (.dK kv), I.laid (t' := s.toks) (fun b u e => (hs.2 b (Nat.ne_of_lt (Heap.lt_size e))).trans (Heap.get?_push_of_some _ e)) (Nat.le_refl _)
    (show ObjOk X.prog X.w _ _ _ (.dK kv) from ⟨hl, hm, vs, p2, d'⟩), rfl, q _ (I.hok.fresh (Nat.le_refl _))⟩
end Wk

/-! text Hd1 -/
/-! The head: facts by names. Printed by gen_head.py. -/
namespace Ds
open PySem PySem.Spec PyProof.Rows L2
theorem DfH.mono {P : Program} {w : World} {K : PySem.W.Frag} {mg : Str → Option Value} {base : Heap} {j k : Nat} {f : Addr} {ps : List Str} {S : ScH} (D : DfH P w K mg base j f ps S) (h : j ≤ k) : DfH P w K mg base k f ps S :=
  let ⟨fd, F, b, kp⟩ := D.ex; ⟨fd, F.mono h, b, kp⟩
end Ds
namespace Wk
open PySem PySem.Spec PyProof.Rows L2 Ds Cw He
/-- a keyword's default that is an object -/
def kdAt (f : Str × Option Str) (x : Str) (K : PySem.W.Frag) : Addr := match K.lookup (fAd K f) with
  | some ⟨_, _, .func fd, _⟩ => (match fd.kwdefaults with
    | .ref D => (match PySem.W.nsIn K D x with
      | some (some (.ref a)) => a
      | _ => 0)
    | _ => 0)
  | _ => 0
/-- isinstance(x, C) of an own class -/
def clsIB (K : PySem.W.Frag) (C : Addr) : Bool := eqO (PySem.W.findIn K (.ref C) "__class__") (some (some (.builtin "object.__class__"))) && (eqO (PySem.W.specialIn K (.builtin "object.__class__") "__get__") (some (some (.builtin "getset_descriptor.__get__"))) &&
  (decide (PySem.W.takesIn K (.builtin "object.__class__") = some true) && (decide (PySem.W.mroIn K C (.type "object") = some true) && decide (PySem.W.kitOne K (.ref C) (.ref C) = some true))))
theorem clsI_ok {K : PySem.W.Frag} {C : Addr} (c : Cls K C) (h : clsIB K C = true) : ClsI K C := by
  obtain ⟨h1, h⟩ := ba h
  obtain ⟨h2, h⟩ := ba h
  obtain ⟨h3, h⟩ := ba h
  obtain ⟨h4, h5⟩ := ba h
  exact ⟨c, eqO_ok h1, eqO_ok h2, of_decide_eq_true h3, of_decide_eq_true h4, of_decide_eq_true h5⟩
def exB (K : PySem.W.Frag) : Bool := emptyB K (kdAt ("plan_of", none) "refused" K) && (emptyB K (kdAt ("written", none) "pairs" K) && (tupS K "PARTS" PARTS && (tupS K "NAMES" ["a", "b"] && (restB K (ga K "AT_REST") && clsIB K (ga K "Wire")))))
def dd_is_name : DefD := ⟨("is_name", none), "is_name", "is_name", defArgs (top 15), defBody (top 15), defScope (top 15), [], []⟩
def dd_is_worth : DefD := ⟨("is_worth", none), "is_worth", "is_worth", defArgs (top 16), defBody (top 16), defScope (top 16), [], []⟩
def dd_is_tuple : DefD := ⟨("is_tuple", none), "is_tuple", "is_tuple", defArgs (top 17), defBody (top 17), defScope (top 17), [], []⟩
def dd_is_pair : DefD := ⟨("is_pair", none), "is_pair", "is_pair", defArgs (top 19), defBody (top 19), defScope (top 19), [], []⟩
def dd_left_of : DefD := ⟨("left_of", none), "left_of", "left_of", defArgs (top 22), defBody (top 22), defScope (top 22), [], []⟩
def dd_plan_of : DefD := ⟨("plan_of", none), "plan_of", "plan_of", defArgs (top 23), defBody (top 23), defScope (top 23), [], [("refused", .adr (kdAt ("plan_of", none) "refused"))]⟩
def dd_ask_of : DefD := ⟨("ask_of", none), "ask_of", "ask_of", defArgs (top 24), defBody (top 24), defScope (top 24), [], []⟩
def dd_new_end : DefD := ⟨("new_end", none), "new_end", "new_end", defArgs (top 28), defBody (top 28), defScope (top 28), [], []⟩
def dd_known_of : DefD := ⟨("known_of", none), "known_of", "known_of", defArgs (top 29), defBody (top 29), defScope (top 29), [], []⟩
def dd_as_end : DefD := ⟨("as_end", none), "as_end", "as_end", defArgs (top 30), defBody (top 30), defScope (top 30), [], []⟩
def dd_written : DefD := ⟨("written", none), "written", "written", defArgs (top 31), defBody (top 31), defScope (top 31), [], [("number", .int 0), ("pairs", .adr (kdAt ("written", none) "pairs"))]⟩
def dd_ask_written : DefD := ⟨("ask_written", none), "ask_written", "ask_written", defArgs (top 32), defBody (top 32), defScope (top 32), [], []⟩
def dd_begin : DefD := ⟨("begin", none), "begin", "begin", defArgs (top 33), defBody (top 33), defScope (top 33), [], []⟩
def dd_shut : DefD := ⟨("shut", none), "shut", "shut", defArgs (top 34), defBody (top 34), defScope (top 34), [], [("is_told", .bl true)]⟩
def dd_opened : DefD := ⟨("opened", none), "opened", "opened", defArgs (top 35), defBody (top 35), defScope (top 35), [], [("tries", .int 3)]⟩
def dd_closing : DefD := ⟨("closing", none), "closing", "closing", defArgs (top 36), defBody (top 36), defScope (top 36), [], []⟩
def dd_ticked : DefD := ⟨("ticked", none), "ticked", "ticked", defArgs (top 37), defBody (top 37), defScope (top 37), [], []⟩
def dd_are_pairs : DefD := ⟨("are_pairs", none), "are_pairs", "are_pairs", defArgs (top 41), defBody (top 41), defScope (top 41), [], []⟩
def dd_is_said : DefD := ⟨("is_said", none), "is_said", "is_said", defArgs (top 42), defBody (top 42), defScope (top 42), [], []⟩
def dd_kinds_in : DefD := ⟨("kinds_in", none), "kinds_in", "kinds_in", defArgs (top 43), defBody (top 43), defScope (top 43), [], []⟩
def dd_answer : DefD := ⟨("answer", none), "answer", "answer", defArgs (top 44), defBody (top 44), defScope (top 44), [], []⟩
def dd_are_refusals : DefD := ⟨("are_refusals", none), "are_refusals", "are_refusals", defArgs (top 45), defBody (top 45), defScope (top 45), [], []⟩
def dd_left_behind : DefD := ⟨("left_behind", none), "left_behind", "left_behind", defArgs (top 46), defBody (top 46), defScope (top 46), [], []⟩
def dd_behind : DefD := ⟨("behind", none), "behind", "behind", defArgs (top 47), defBody (top 47), defScope (top 47), [], []⟩
def dd_letter_back : DefD := ⟨("letter_back", none), "letter_back", "letter_back", defArgs (top 49), defBody (top 49), defScope (top 49), [], []⟩
def dd_heard_closed : DefD := ⟨("heard_closed", none), "heard_closed", "heard_closed", defArgs (top 53), defBody (top 53), defScope (top 53), [], []⟩
def dd_heard_ask : DefD := ⟨("heard_ask", none), "heard_ask", "heard_ask", defArgs (top 54), defBody (top 54), defScope (top 54), [], []⟩
def dd_heard_answer : DefD := ⟨("heard_answer", none), "heard_answer", "heard_answer", defArgs (top 55), defBody (top 55), defScope (top 55), [], []⟩
def dd_heard_word : DefD := ⟨("heard_word", none), "heard_word", "heard_word", defArgs (top 56), defBody (top 56), defScope (top 56), [], []⟩
def dd_heard : DefD := ⟨("heard", none), "heard", "heard", defArgs (top 57), defBody (top 57), defScope (top 57), [], [("tries", .int 3)]⟩
def dd_stands_open_with : DefD := ⟨("stands_open_with", none), "stands_open_with", "stands_open_with", defArgs (top 58), defBody (top 58), defScope (top 58), [], []⟩
def dd_is_place : DefD := ⟨("is_place", none), "is_place", "is_place", defArgs (top 67), defBody (top 67), defScope (top 67), [], []⟩
def dd_is_deed : DefD := ⟨("is_deed", none), "is_deed", "is_deed", defArgs (top 68), defBody (top 68), defScope (top 68), [], []⟩
def dd_stand_of : DefD := ⟨("stand_of", none), "stand_of", "stand_of", defArgs (top 70), defBody (top 70), defScope (top 70), [], []⟩
def dd_given_to : DefD := ⟨("given_to", none), "given_to", "given_to", defArgs (top 71), defBody (top 71), defScope (top 71), [], []⟩
def dd_stand_word : DefD := ⟨("stand_word", none), "stand_word", "stand_word", defArgs (top 72), defBody (top 72), defScope (top 72), [], []⟩
def dd_course : DefD := ⟨("course", none), "course", "course", defArgs (top 76), defBody (top 76), defScope (top 76), [], []⟩
def dd_took_by : DefD := ⟨("took_by", none), "took_by", "took_by", defArgs (top 79), defBody (top 79), defScope (top 79), [], []⟩
def dd_are_unlike : DefD := ⟨("are_unlike", none), "are_unlike", "are_unlike", defArgs (top 80), defBody (top 80), defScope (top 80), [], []⟩
def dd_is_beyond : DefD := ⟨("is_beyond", none), "is_beyond", "is_beyond", defArgs (top 81), defBody (top 81), defScope (top 81), [], []⟩
def dd_asks_again : DefD := ⟨("asks_again", none), "asks_again", "asks_again", defArgs (top 82), defBody (top 82), defScope (top 82), [], []⟩
def dd_unsafe : DefD := ⟨("unsafe", none), "unsafe", "unsafe", defArgs (top 83), defBody (top 83), defScope (top 83), [], []⟩
def dd__law_pen : DefD := ⟨("_law_pen", none), "_law_pen", "_law_pen", defArgs (top 85), defBody (top 85), defScope (top 85), [], []⟩
def dd__law_draw : DefD := ⟨("_law_draw", none), "_law_draw", "_law_draw", defArgs (top 86), defBody (top 86), defScope (top 86), [], []⟩
def dd__law_kinds : DefD := ⟨("_law_kinds", none), "_law_kinds", "_law_kinds", defArgs (top 87), defBody (top 87), defScope (top 87), [], []⟩
def dd__law_worths : DefD := ⟨("_law_worths", none), "_law_worths", "_law_worths", defArgs (top 88), defBody (top 88), defScope (top 88), [], []⟩
def dd__law_wishes : DefD := ⟨("_law_wishes", none), "_law_wishes", "_law_wishes", defArgs (top 89), defBody (top 89), defScope (top 89), [], []⟩
def dd__law_bounds : DefD := ⟨("_law_bounds", none), "_law_bounds", "_law_bounds", defArgs (top 90), defBody (top 90), defScope (top 90), [], []⟩
def dd__law_books : DefD := ⟨("_law_books", none), "_law_books", "_law_books", defArgs (top 91), defBody (top 91), defScope (top 91), [], []⟩
def dd__law_unsettled : DefD := ⟨("_law_unsettled", none), "_law_unsettled", "_law_unsettled", defArgs (top 92), defBody (top 92), defScope (top 92), [], []⟩
def dd__law_worths_many : DefD := ⟨("_law_worths_many", none), "_law_worths_many", "_law_worths_many", defArgs (top 93), defBody (top 93), defScope (top 93), [], []⟩
def dd__law_come_right : DefD := ⟨("_law_come_right", none), "_law_come_right", "_law_come_right", defArgs (top 94), defBody (top 94), defScope (top 94), [], []⟩
def dd_law : DefD := ⟨("law", none), "law", "law", defArgs (top 95), defBody (top 95), defScope (top 95), [], []⟩
def dd_Setting_init : DefD := ⟨("Setting", some "__init__"), "__init__", "Setting.__init__", defArgs (cm 73 0), defBody (cm 73 0), defScope (cm 73 0), [], []⟩
def dd_Setting_put : DefD := ⟨("Setting", some "put"), "put", "Setting.put", defArgs (cm 73 1), defBody (cm 73 1), defScope (cm 73 1), [], []⟩
def dd_Setting_hear : DefD := ⟨("Setting", some "hear"), "hear", "Setting.hear", defArgs (cm 73 2), defBody (cm 73 2), defScope (cm 73 2), [], []⟩
def dd_Setting_of_itself : DefD := ⟨("Setting", some "of_itself"), "of_itself", "Setting.of_itself", defArgs (cm 73 3), defBody (cm 73 3), defScope (cm 73 3), [], []⟩
def dd_Setting_do : DefD := ⟨("Setting", some "do"), "do", "Setting.do", defArgs (cm 73 4), defBody (cm 73 4), defScope (cm 73 4), [], []⟩
def dd_Setting_is_final : DefD := ⟨("Setting", some "is_final"), "is_final", "Setting.is_final", defArgs (cm 73 5), defBody (cm 73 5), defScope (cm 73 5), [], []⟩
def dd_Setting_next_deed : DefD := ⟨("Setting", some "next_deed"), "next_deed", "Setting.next_deed", defArgs (cm 73 6), defBody (cm 73 6), defScope (cm 73 6), [], []⟩
def dd_Wire_init : DefD := ⟨("Wire", some "__init__"), "__init__", "Wire.__init__", defArgs (cm 74 0), defBody (cm 74 0), defScope (cm 74 0), [], [("tries", .int 3)]⟩
def dd_Wire_laid_out : DefD := ⟨("Wire", some "laid_out"), "laid_out", "Wire.laid_out", defArgs (cm 74 1), defBody (cm 74 1), defScope (cm 74 1), [], []⟩
def dd_Wire_do : DefD := ⟨("Wire", some "do"), "do", "Wire.do", defArgs (cm 74 2), defBody (cm 74 2), defScope (cm 74 2), [], []⟩
def dd_Wire_settle : DefD := ⟨("Wire", some "settle"), "settle", "Wire.settle", defArgs (cm 74 4), defBody (cm 74 4), defScope (cm 74 4), [], []⟩
def dd_Wire_ends : DefD := ⟨("Wire", some "ends"), "ends", "Wire.ends", defArgs (cm 74 5), defBody (cm 74 5), defScope (cm 74 5), [], []⟩
def dd_Wire_air : DefD := ⟨("Wire", some "air"), "air", "Wire.air", defArgs (cm 74 6), defBody (cm 74 6), defScope (cm 74 6), [], []⟩
def dd_Wire_deeds : DefD := ⟨("Wire", some "deeds"), "deeds", "Wire.deeds", defArgs (cm 74 7), defBody (cm 74 7), defScope (cm 74 7), [], []⟩
def dd_Wire_stands : DefD := ⟨("Wire", some "stands"), "stands", "Wire.stands", defArgs (cm 74 8), defBody (cm 74 8), defScope (cm 74 8), [], []⟩
def dd_Wire_saved : DefD := ⟨("Wire", some "saved"), "saved", "Wire.saved", defArgs (cm 74 9), defBody (cm 74 9), defScope (cm 74 9), [], []⟩
def dd_Wire_twin : DefD := ⟨("Wire", some "twin"), "twin", "Wire.twin", defArgs (cm 74 10), defBody (cm 74 10), defScope (cm 74 10), [], []⟩
def dd_Wire_eq : DefD := ⟨("Wire", some "__eq__"), "__eq__", "Wire.__eq__", defArgs (cm 74 12), defBody (cm 74 12), defScope (cm 74 12), [], []⟩
def hFn0 : List DefD := [dd_is_name, dd_is_worth, dd_is_tuple, dd_is_pair, dd_left_of, dd_plan_of, dd_ask_of, dd_new_end, dd_known_of, dd_as_end, dd_written, dd_ask_written, dd_begin, dd_shut, dd_opened, dd_closing]
def hFn1 : List DefD := [dd_ticked, dd_are_pairs, dd_is_said, dd_kinds_in, dd_answer, dd_are_refusals, dd_left_behind, dd_behind, dd_letter_back, dd_heard_closed, dd_heard_ask, dd_heard_answer, dd_heard_word, dd_heard, dd_stands_open_with, dd_is_place]
def hFn2 : List DefD := [dd_is_deed, dd_stand_of, dd_given_to, dd_stand_word, dd_course, dd_took_by, dd_are_unlike, dd_is_beyond, dd_asks_again, dd_unsafe, dd__law_pen, dd__law_draw, dd__law_kinds, dd__law_worths, dd__law_wishes, dd__law_bounds]
def hFn3 : List DefD := [dd__law_books, dd__law_unsettled, dd__law_worths_many, dd__law_come_right, dd_law, dd_Setting_init, dd_Setting_put, dd_Setting_hear, dd_Setting_of_itself, dd_Setting_do, dd_Setting_is_final, dd_Setting_next_deed, dd_Wire_init, dd_Wire_laid_out, dd_Wire_do, dd_Wire_settle]
def hFn4 : List DefD := [dd_Wire_ends, dd_Wire_air, dd_Wire_deeds, dd_Wire_stands, dd_Wire_saved, dd_Wire_twin, dd_Wire_eq]
def hFn : List DefD := hFn0 ++ (hFn1 ++ (hFn2 ++ (hFn3 ++ (hFn4))))
def hFa0 : List Fa := [.glo "is_name", .glo "is_worth", .glo "is_tuple", .glo "is_pair", .glo "left_of", .glo "plan_of", .glo "ask_of", .glo "new_end", .glo "known_of", .glo "as_end", .glo "written", .glo "ask_written", .glo "begin", .glo "shut", .glo "opened", .glo "closing"]
def hFa1 : List Fa := [.glo "ticked", .glo "are_pairs", .glo "is_said", .glo "kinds_in", .glo "answer", .glo "are_refusals", .glo "left_behind", .glo "behind", .glo "letter_back", .glo "heard_closed", .glo "heard_ask", .glo "heard_answer", .glo "heard_word", .glo "heard", .glo "stands_open_with", .glo "is_place"]
def hFa2 : List Fa := [.glo "is_deed", .glo "stand_of", .glo "given_to", .glo "stand_word", .glo "course", .glo "took_by", .glo "are_unlike", .glo "is_beyond", .glo "asks_again", .glo "unsafe", .glo "_law_pen", .glo "_law_draw", .glo "_law_kinds", .glo "_law_worths", .glo "_law_wishes", .glo "_law_bounds"]
def hFa3 : List Fa := [.glo "_law_books", .glo "_law_unsettled", .glo "_law_worths_many", .glo "_law_come_right", .glo "law", .glo "Setting", .glo "Wire", .glo "PARTS", .glo "AT_REST", .glo "NAMES", .free "isinstance", .free "len", .free "all", .free "str", .free "int", .free "bool"]
def hFa4 : List Fa := [.free "tuple", .free "zip", .free "any", .free "dict", .free "set", .free "sorted", .free "list", .free "range", .free "min", .free "abs", .free "sum", .int "LONGEST" (8), .int "GREATEST" (9999), .int "ALL_wishes" (-1), .int "ALL_unsafe" (-1), .int "MOST_LETTERS" (100)]
def hFa5 : List Fa := [.str "LETTERS" LETTERS, .cls "Setting", .mkr "Setting", .noat "Setting" "books", .noat "Setting" "many", .noat "Setting" "both", .noat "Setting" "letters", .noat "Setting" "hears", .cls "Wire", .mkr "Wire", .noat "Wire" "pair", .noat "Wire" "most_tries", .noat "Wire" "now", .noat "Wire" "past", .noat "Wire" "said", .noat "Wire" "busy"]
def hFa6 : List Fa := [.meth "Setting" "put", .meth "Setting" "hear", .meth "Setting" "of_itself", .meth "Setting" "do", .meth "Setting" "is_final", .meth "Setting" "next_deed", .meth "Wire" "laid_out", .meth "Wire" "do", .meth "Wire" "settle", .meth "Wire" "ends", .meth "Wire" "air", .meth "Wire" "deeds", .meth "Wire" "stands", .meth "Wire" "saved", .meth "Wire" "twin", .meth "Wire" "__eq__"]
def hFa : List Fa := hFa0 ++ (hFa1 ++ (hFa2 ++ (hFa3 ++ (hFa4 ++ (hFa5 ++ (hFa6))))))
def hTs : List Tab := [(fun K => ga K "AT_REST", restD.map (·.1))]
theorem emp (a : Addr) {K : PySem.W.Frag} (h : emptyB K a = true) (H : Hp) : Rk K H (.ref a) (.d (.tuple [])) := .d (.tup (emptyB_ok h H) .nil)
theorem law_all {P : Program} {w : World} {K : PySem.W.Frag} {h : Heap} {mg : Str → Option Value} {f : Addr} (X : K.In h) (G : h.Ns mainGlobals mg) (hfa : mg ("law" : Str) = some (.ref f)) (c : obsT hFa hFn hTs K = valT hFn hTs w) (ex : exB K = true) :
    ∃ fd : FuncData, (∀ (s : Shared) (v : Value), BindsTo s fd ⟨[v], []⟩ [("_law_script", v)]) ∧ ∀ base : Heap, FnOk P w K mg base CX0 14 f fd ["_law_script"] (spOfH K (sLaw K)) := by
  have cd : SaysD hFa hFn K := SaysT.d c
  obtain ⟨e1, ex⟩ := ba ex
  obtain ⟨e2, ex⟩ := ba ex
  obtain ⟨e3, ex⟩ := ba ex
  obtain ⟨e4, ex⟩ := ba ex
  obtain ⟨e5, e6⟩ := ba ex
  obtain ⟨fd_is_name, F_is_name⟩ := cd.def_ 0 (d := dd_is_name) rfl
  obtain ⟨fd_is_worth, F_is_worth⟩ := cd.def_ 1 (d := dd_is_worth) rfl
  obtain ⟨fd_is_tuple, F_is_tuple⟩ := cd.def_ 2 (d := dd_is_tuple) rfl
  obtain ⟨fd_is_pair, F_is_pair⟩ := cd.def_ 3 (d := dd_is_pair) rfl
  obtain ⟨fd_left_of, F_left_of⟩ := cd.def_ 4 (d := dd_left_of) rfl
  obtain ⟨fd_plan_of, F_plan_of⟩ := cd.def_ 5 (d := dd_plan_of) rfl
  obtain ⟨fd_ask_of, F_ask_of⟩ := cd.def_ 6 (d := dd_ask_of) rfl
  obtain ⟨fd_new_end, F_new_end⟩ := cd.def_ 7 (d := dd_new_end) rfl
  obtain ⟨fd_known_of, F_known_of⟩ := cd.def_ 8 (d := dd_known_of) rfl
  obtain ⟨fd_as_end, F_as_end⟩ := cd.def_ 9 (d := dd_as_end) rfl
  obtain ⟨fd_written, F_written⟩ := cd.def_ 10 (d := dd_written) rfl
  obtain ⟨fd_ask_written, F_ask_written⟩ := cd.def_ 11 (d := dd_ask_written) rfl
  obtain ⟨fd_begin, F_begin⟩ := cd.def_ 12 (d := dd_begin) rfl
  obtain ⟨fd_shut, F_shut⟩ := cd.def_ 13 (d := dd_shut) rfl
  obtain ⟨fd_opened, F_opened⟩ := cd.def_ 14 (d := dd_opened) rfl
  obtain ⟨fd_closing, F_closing⟩ := cd.def_ 15 (d := dd_closing) rfl
  obtain ⟨fd_ticked, F_ticked⟩ := cd.def_ 16 (d := dd_ticked) rfl
  obtain ⟨fd_are_pairs, F_are_pairs⟩ := cd.def_ 17 (d := dd_are_pairs) rfl
  obtain ⟨fd_is_said, F_is_said⟩ := cd.def_ 18 (d := dd_is_said) rfl
  obtain ⟨fd_kinds_in, F_kinds_in⟩ := cd.def_ 19 (d := dd_kinds_in) rfl
  obtain ⟨fd_answer, F_answer⟩ := cd.def_ 20 (d := dd_answer) rfl
  obtain ⟨fd_are_refusals, F_are_refusals⟩ := cd.def_ 21 (d := dd_are_refusals) rfl
  obtain ⟨fd_left_behind, F_left_behind⟩ := cd.def_ 22 (d := dd_left_behind) rfl
  obtain ⟨fd_behind, F_behind⟩ := cd.def_ 23 (d := dd_behind) rfl
  obtain ⟨fd_letter_back, F_letter_back⟩ := cd.def_ 24 (d := dd_letter_back) rfl
  obtain ⟨fd_heard_closed, F_heard_closed⟩ := cd.def_ 25 (d := dd_heard_closed) rfl
  obtain ⟨fd_heard_ask, F_heard_ask⟩ := cd.def_ 26 (d := dd_heard_ask) rfl
  obtain ⟨fd_heard_answer, F_heard_answer⟩ := cd.def_ 27 (d := dd_heard_answer) rfl
  obtain ⟨fd_heard_word, F_heard_word⟩ := cd.def_ 28 (d := dd_heard_word) rfl
  obtain ⟨fd_heard, F_heard⟩ := cd.def_ 29 (d := dd_heard) rfl
  obtain ⟨fd_stands_open_with, F_stands_open_with⟩ := cd.def_ 30 (d := dd_stands_open_with) rfl
  obtain ⟨fd_is_place, F_is_place⟩ := cd.def_ 31 (d := dd_is_place) rfl
  obtain ⟨fd_is_deed, F_is_deed⟩ := cd.def_ 32 (d := dd_is_deed) rfl
  obtain ⟨fd_stand_of, F_stand_of⟩ := cd.def_ 33 (d := dd_stand_of) rfl
  obtain ⟨fd_given_to, F_given_to⟩ := cd.def_ 34 (d := dd_given_to) rfl
  obtain ⟨fd_stand_word, F_stand_word⟩ := cd.def_ 35 (d := dd_stand_word) rfl
  obtain ⟨fd_course, F_course⟩ := cd.def_ 36 (d := dd_course) rfl
  obtain ⟨fd_took_by, F_took_by⟩ := cd.def_ 37 (d := dd_took_by) rfl
  obtain ⟨fd_are_unlike, F_are_unlike⟩ := cd.def_ 38 (d := dd_are_unlike) rfl
  obtain ⟨fd_is_beyond, F_is_beyond⟩ := cd.def_ 39 (d := dd_is_beyond) rfl
  obtain ⟨fd_asks_again, F_asks_again⟩ := cd.def_ 40 (d := dd_asks_again) rfl
  obtain ⟨fd_unsafe, F_unsafe⟩ := cd.def_ 41 (d := dd_unsafe) rfl
  obtain ⟨fd__law_pen, F__law_pen⟩ := cd.def_ 42 (d := dd__law_pen) rfl
  obtain ⟨fd__law_draw, F__law_draw⟩ := cd.def_ 43 (d := dd__law_draw) rfl
  obtain ⟨fd__law_kinds, F__law_kinds⟩ := cd.def_ 44 (d := dd__law_kinds) rfl
  obtain ⟨fd__law_worths, F__law_worths⟩ := cd.def_ 45 (d := dd__law_worths) rfl
  obtain ⟨fd__law_wishes, F__law_wishes⟩ := cd.def_ 46 (d := dd__law_wishes) rfl
  obtain ⟨fd__law_bounds, F__law_bounds⟩ := cd.def_ 47 (d := dd__law_bounds) rfl
  obtain ⟨fd__law_books, F__law_books⟩ := cd.def_ 48 (d := dd__law_books) rfl
  obtain ⟨fd__law_unsettled, F__law_unsettled⟩ := cd.def_ 49 (d := dd__law_unsettled) rfl
  obtain ⟨fd__law_worths_many, F__law_worths_many⟩ := cd.def_ 50 (d := dd__law_worths_many) rfl
  obtain ⟨fd__law_come_right, F__law_come_right⟩ := cd.def_ 51 (d := dd__law_come_right) rfl
  obtain ⟨fd_law, F_law⟩ := cd.def_ 52 (d := dd_law) rfl
  obtain ⟨fd_Setting_init, F_Setting_init⟩ := cd.def_ 53 (d := dd_Setting_init) rfl
  obtain ⟨fd_Setting_put, F_Setting_put⟩ := cd.def_ 54 (d := dd_Setting_put) rfl
  obtain ⟨fd_Setting_hear, F_Setting_hear⟩ := cd.def_ 55 (d := dd_Setting_hear) rfl
  obtain ⟨fd_Setting_of_itself, F_Setting_of_itself⟩ := cd.def_ 56 (d := dd_Setting_of_itself) rfl
  obtain ⟨fd_Setting_do, F_Setting_do⟩ := cd.def_ 57 (d := dd_Setting_do) rfl
  obtain ⟨fd_Setting_is_final, F_Setting_is_final⟩ := cd.def_ 58 (d := dd_Setting_is_final) rfl
  obtain ⟨fd_Setting_next_deed, F_Setting_next_deed⟩ := cd.def_ 59 (d := dd_Setting_next_deed) rfl
  obtain ⟨fd_Wire_init, F_Wire_init⟩ := cd.def_ 60 (d := dd_Wire_init) rfl
  obtain ⟨fd_Wire_laid_out, F_Wire_laid_out⟩ := cd.def_ 61 (d := dd_Wire_laid_out) rfl
  obtain ⟨fd_Wire_do, F_Wire_do⟩ := cd.def_ 62 (d := dd_Wire_do) rfl
  obtain ⟨fd_Wire_settle, F_Wire_settle⟩ := cd.def_ 63 (d := dd_Wire_settle) rfl
  obtain ⟨fd_Wire_ends, F_Wire_ends⟩ := cd.def_ 64 (d := dd_Wire_ends) rfl
  obtain ⟨fd_Wire_air, F_Wire_air⟩ := cd.def_ 65 (d := dd_Wire_air) rfl
  obtain ⟨fd_Wire_deeds, F_Wire_deeds⟩ := cd.def_ 66 (d := dd_Wire_deeds) rfl
  obtain ⟨fd_Wire_stands, F_Wire_stands⟩ := cd.def_ 67 (d := dd_Wire_stands) rfl
  obtain ⟨fd_Wire_saved, F_Wire_saved⟩ := cd.def_ 68 (d := dd_Wire_saved) rfl
  obtain ⟨fd_Wire_twin, F_Wire_twin⟩ := cd.def_ 69 (d := dd_Wire_twin) rfl
  obtain ⟨fd_Wire_eq, F_Wire_eq⟩ := cd.def_ 70 (d := dd_Wire_eq) rfl
  have g_is_name := glo_ok X G (cd.fact 0 (f := .glo "is_name") rfl)
  have g_is_worth := glo_ok X G (cd.fact 1 (f := .glo "is_worth") rfl)
  have g_is_tuple := glo_ok X G (cd.fact 2 (f := .glo "is_tuple") rfl)
  have g_is_pair := glo_ok X G (cd.fact 3 (f := .glo "is_pair") rfl)
  have g_left_of := glo_ok X G (cd.fact 4 (f := .glo "left_of") rfl)
  have g_plan_of := glo_ok X G (cd.fact 5 (f := .glo "plan_of") rfl)
  have g_ask_of := glo_ok X G (cd.fact 6 (f := .glo "ask_of") rfl)
  have g_new_end := glo_ok X G (cd.fact 7 (f := .glo "new_end") rfl)
  have g_known_of := glo_ok X G (cd.fact 8 (f := .glo "known_of") rfl)
  have g_as_end := glo_ok X G (cd.fact 9 (f := .glo "as_end") rfl)
  have g_written := glo_ok X G (cd.fact 10 (f := .glo "written") rfl)
  have g_ask_written := glo_ok X G (cd.fact 11 (f := .glo "ask_written") rfl)
  have g_begin := glo_ok X G (cd.fact 12 (f := .glo "begin") rfl)
  have g_shut := glo_ok X G (cd.fact 13 (f := .glo "shut") rfl)
  have g_opened := glo_ok X G (cd.fact 14 (f := .glo "opened") rfl)
  have g_closing := glo_ok X G (cd.fact 15 (f := .glo "closing") rfl)
  have g_ticked := glo_ok X G (cd.fact 16 (f := .glo "ticked") rfl)
  have g_are_pairs := glo_ok X G (cd.fact 17 (f := .glo "are_pairs") rfl)
  have g_is_said := glo_ok X G (cd.fact 18 (f := .glo "is_said") rfl)
  have g_kinds_in := glo_ok X G (cd.fact 19 (f := .glo "kinds_in") rfl)
  have g_answer := glo_ok X G (cd.fact 20 (f := .glo "answer") rfl)
  have g_are_refusals := glo_ok X G (cd.fact 21 (f := .glo "are_refusals") rfl)
  have g_left_behind := glo_ok X G (cd.fact 22 (f := .glo "left_behind") rfl)
  have g_behind := glo_ok X G (cd.fact 23 (f := .glo "behind") rfl)
  have g_letter_back := glo_ok X G (cd.fact 24 (f := .glo "letter_back") rfl)
  have g_heard_closed := glo_ok X G (cd.fact 25 (f := .glo "heard_closed") rfl)
  have g_heard_ask := glo_ok X G (cd.fact 26 (f := .glo "heard_ask") rfl)
  have g_heard_answer := glo_ok X G (cd.fact 27 (f := .glo "heard_answer") rfl)
  have g_heard_word := glo_ok X G (cd.fact 28 (f := .glo "heard_word") rfl)
  have g_heard := glo_ok X G (cd.fact 29 (f := .glo "heard") rfl)
  have g_stands_open_with := glo_ok X G (cd.fact 30 (f := .glo "stands_open_with") rfl)
  have g_is_place := glo_ok X G (cd.fact 31 (f := .glo "is_place") rfl)
  have g_is_deed := glo_ok X G (cd.fact 32 (f := .glo "is_deed") rfl)
  have g_stand_of := glo_ok X G (cd.fact 33 (f := .glo "stand_of") rfl)
  have g_given_to := glo_ok X G (cd.fact 34 (f := .glo "given_to") rfl)
  have g_stand_word := glo_ok X G (cd.fact 35 (f := .glo "stand_word") rfl)
  have g_course := glo_ok X G (cd.fact 36 (f := .glo "course") rfl)
  have g_took_by := glo_ok X G (cd.fact 37 (f := .glo "took_by") rfl)
  have g_are_unlike := glo_ok X G (cd.fact 38 (f := .glo "are_unlike") rfl)
  have g_is_beyond := glo_ok X G (cd.fact 39 (f := .glo "is_beyond") rfl)
  have g_asks_again := glo_ok X G (cd.fact 40 (f := .glo "asks_again") rfl)
  have g_unsafe := glo_ok X G (cd.fact 41 (f := .glo "unsafe") rfl)
  have g__law_pen := glo_ok X G (cd.fact 42 (f := .glo "_law_pen") rfl)
  have g__law_draw := glo_ok X G (cd.fact 43 (f := .glo "_law_draw") rfl)
  have g__law_kinds := glo_ok X G (cd.fact 44 (f := .glo "_law_kinds") rfl)
  have g__law_worths := glo_ok X G (cd.fact 45 (f := .glo "_law_worths") rfl)
  have g__law_wishes := glo_ok X G (cd.fact 46 (f := .glo "_law_wishes") rfl)
  have g__law_bounds := glo_ok X G (cd.fact 47 (f := .glo "_law_bounds") rfl)
  have g__law_books := glo_ok X G (cd.fact 48 (f := .glo "_law_books") rfl)
  have g__law_unsettled := glo_ok X G (cd.fact 49 (f := .glo "_law_unsettled") rfl)
  have g__law_worths_many := glo_ok X G (cd.fact 50 (f := .glo "_law_worths_many") rfl)
  have g__law_come_right := glo_ok X G (cd.fact 51 (f := .glo "_law_come_right") rfl)
  have g_law := glo_ok X G (cd.fact 52 (f := .glo "law") rfl)
  have g_Setting := glo_ok X G (cd.fact 53 (f := .glo "Setting") rfl)
  have g_Wire := glo_ok X G (cd.fact 54 (f := .glo "Wire") rfl)
  have g_PARTS := glo_ok X G (cd.fact 55 (f := .glo "PARTS") rfl)
  have g_AT_REST := glo_ok X G (cd.fact 56 (f := .glo "AT_REST") rfl)
  have g_NAMES := glo_ok X G (cd.fact 57 (f := .glo "NAMES") rfl)
  have b_isinstance := free_ok X G (cd.fact 58 (f := .free "isinstance") rfl)
  have b_len := free_ok X G (cd.fact 59 (f := .free "len") rfl)
  have b_all := free_ok X G (cd.fact 60 (f := .free "all") rfl)
  have b_str := free_ok X G (cd.fact 61 (f := .free "str") rfl)
  have b_int := free_ok X G (cd.fact 62 (f := .free "int") rfl)
  have b_bool := free_ok X G (cd.fact 63 (f := .free "bool") rfl)
  have b_tuple := free_ok X G (cd.fact 64 (f := .free "tuple") rfl)
  have b_zip := free_ok X G (cd.fact 65 (f := .free "zip") rfl)
  have b_any := free_ok X G (cd.fact 66 (f := .free "any") rfl)
  have b_dict := free_ok X G (cd.fact 67 (f := .free "dict") rfl)
  have b_set := free_ok X G (cd.fact 68 (f := .free "set") rfl)
  have b_sorted := free_ok X G (cd.fact 69 (f := .free "sorted") rfl)
  have b_list := free_ok X G (cd.fact 70 (f := .free "list") rfl)
  have b_range := free_ok X G (cd.fact 71 (f := .free "range") rfl)
  have b_min := free_ok X G (cd.fact 72 (f := .free "min") rfl)
  have b_abs := free_ok X G (cd.fact 73 (f := .free "abs") rfl)
  have b_sum := free_ok X G (cd.fact 74 (f := .free "sum") rfl)
  have i_LONGEST := int_ok X G (cd.fact 75 (f := .int "LONGEST" (8)) rfl)
  have i_GREATEST := int_ok X G (cd.fact 76 (f := .int "GREATEST" (9999)) rfl)
  have i_ALL_wishes := int_ok X G (cd.fact 77 (f := .int "ALL_wishes" (-1)) rfl)
  have i_ALL_unsafe := int_ok X G (cd.fact 78 (f := .int "ALL_unsafe" (-1)) rfl)
  have i_MOST_LETTERS := int_ok X G (cd.fact 79 (f := .int "MOST_LETTERS" (100)) rfl)
  have s_LETTERS := str_ok X G (cd.fact 80 (f := .str "LETTERS" LETTERS) rfl)
  have c_Setting := cls_ok (cd.fact 81 (f := .cls "Setting") rfl)
  have mk_Setting := mkr_ok (cd.fact 82 (f := .mkr "Setting") rfl)
  have kls : Kls K (ga K "Setting") setFl := ⟨c_Setting, fun x hx => by
    unfold setFl at hx
    simp only [List.mem_cons, List.not_mem_nil, or_false] at hx
    rcases hx with rfl | rfl | rfl | rfl | rfl
    · exact noat_ok (cd.fact 83 (f := .noat "Setting" "books") rfl)
    · exact noat_ok (cd.fact 84 (f := .noat "Setting" "many") rfl)
    · exact noat_ok (cd.fact 85 (f := .noat "Setting" "both") rfl)
    · exact noat_ok (cd.fact 86 (f := .noat "Setting" "letters") rfl)
    · exact noat_ok (cd.fact 87 (f := .noat "Setting" "hears") rfl)⟩
  have c_Wire := cls_ok (cd.fact 88 (f := .cls "Wire") rfl)
  have mk_Wire := mkr_ok (cd.fact 89 (f := .mkr "Wire") rfl)
  have klw : Kls K (ga K "Wire") wireFl := ⟨c_Wire, fun x hx => by
    unfold wireFl at hx
    simp only [List.mem_cons, List.not_mem_nil, or_false] at hx
    rcases hx with rfl | rfl | rfl | rfl | rfl | rfl
    · exact noat_ok (cd.fact 90 (f := .noat "Wire" "pair") rfl)
    · exact noat_ok (cd.fact 91 (f := .noat "Wire" "most_tries") rfl)
    · exact noat_ok (cd.fact 92 (f := .noat "Wire" "now") rfl)
    · exact noat_ok (cd.fact 93 (f := .noat "Wire" "past") rfl)
    · exact noat_ok (cd.fact 94 (f := .noat "Wire" "said") rfl)
    · exact noat_ok (cd.fact 95 (f := .noat "Wire" "busy") rfl)⟩
  have m_Setting_put := meth_ok (cd.fact 96 (f := .meth "Setting" "put") rfl)
  have m_Setting_hear := meth_ok (cd.fact 97 (f := .meth "Setting" "hear") rfl)
  have m_Setting_of_itself := meth_ok (cd.fact 98 (f := .meth "Setting" "of_itself") rfl)
  have m_Setting_do := meth_ok (cd.fact 99 (f := .meth "Setting" "do") rfl)
  have m_Setting_is_final := meth_ok (cd.fact 100 (f := .meth "Setting" "is_final") rfl)
  have m_Setting_next_deed := meth_ok (cd.fact 101 (f := .meth "Setting" "next_deed") rfl)
  have m_Wire_laid_out := meth_ok (cd.fact 102 (f := .meth "Wire" "laid_out") rfl)
  have m_Wire_do := meth_ok (cd.fact 103 (f := .meth "Wire" "do") rfl)
  have m_Wire_settle := meth_ok (cd.fact 104 (f := .meth "Wire" "settle") rfl)
  have m_Wire_ends := meth_ok (cd.fact 105 (f := .meth "Wire" "ends") rfl)
  have m_Wire_air := meth_ok (cd.fact 106 (f := .meth "Wire" "air") rfl)
  have m_Wire_deeds := meth_ok (cd.fact 107 (f := .meth "Wire" "deeds") rfl)
  have m_Wire_stands := meth_ok (cd.fact 108 (f := .meth "Wire" "stands") rfl)
  have m_Wire_saved := meth_ok (cd.fact 109 (f := .meth "Wire" "saved") rfl)
  have m_Wire_twin := meth_ok (cd.fact 110 (f := .meth "Wire" "twin") rfl)
  have m_Wire_eq := meth_ok (cd.fact 111 (f := .meth "Wire" "__eq__") rfl)
  have gm : Gm mg := ⟨s_LETTERS, i_LONGEST, i_GREATEST, b_isinstance, b_len, b_all, b_str, b_int, b_bool, b_tuple⟩
  obtain ⟨es, nn, KD⟩ := SaysT.tab c 0 (t := (fun K => ga K "AT_REST", restD.map (·.1))) rfl
  obtain ⟨kvR, r1, r2⟩ := rest_ok KD e5
  obtain ⟨tp, _⟩ := tupS_ok e3
  obtain ⟨tn, tno⟩ := tupS_ok e4
  have gx : Gx P w K mg := ⟨⟨_, g_PARTS, fun H => .d (.tup (tp H) (strs_tds K H _))⟩, ⟨_, kvR, g_AT_REST, r1, r2⟩, b_dict, b_list, b_zip, b_tuple⟩
  have gn : Gn K mg := ⟨_, g_NAMES, fun H => .d (.tup (tn H) (strs_tds K H ["a", "b"])), fun H => .inr (.inl ⟨rfl, tno⟩), fun H => (tn H).sq⟩
  have ci := clsI_ok c_Wire e6
  have eL := hfa.symm.trans g_law
  cases eL
  have bL := FunD.bindsA (ps := ["_law_script"]) F_law fun _ _ _ _ _ _ us hl => match us, hl with | [_], _ => rfl
  refine ⟨fd_law, fun s v => bL s [v] rfl, fun base => ?_⟩
  have D_is_name := d_is_name (P := P) (w := w) (mg := mg) (base := base) (k := 0) gm F_is_name
  have D_is_worth := d_is_worth (P := P) (w := w) (mg := mg) (base := base) (k := 0) gm F_is_worth
  have D_is_tuple := d_is_tuple (P := P) (w := w) (mg := mg) (base := base) (k := 0) gm F_is_tuple
  have D_is_pair := d_is_pair (P := P) (w := w) (mg := mg) (base := base) (k := 1) F_is_pair (D_is_tuple.mono (by decide)) g_is_tuple (D_is_name.mono (by decide)) g_is_name (D_is_worth.mono (by decide)) g_is_worth
  have D_left_of := d_left_of (P := P) (w := w) (mg := mg) (base := base) (k := 0) i_ALL_wishes b_tuple F_left_of
  have O_plan_of := f_plan_of (P := P) (w := w) (mg := mg) (base := base) (k := 1) b_tuple F_plan_of (D_left_of.mono (by decide)) g_left_of
  have D_plan_of := DfD.of (drs := [.d (.tuple [])]) F_plan_of O_plan_of 1 (fun z => by cases z) rfl (fun D doc pm an cdv ct us ks h1 h2 => match us, ks, h1, h2 with | [_], [_], _, _ => ⟨_, _, _, _, _, _, rfl, rfl, rfl⟩) (fun H => .cons (emp _ e1 H) .nil)
  have D_ask_of := d_ask_of (P := P) (w := w) (mg := mg) (base := base) (k := 0) b_tuple b_zip F_ask_of
  have D_known_of := d_known_of (P := P) (w := w) (mg := mg) (base := base) (k := 0) gx F_known_of
  have D_as_end := d_as_end (P := P) (w := w) (mg := mg) (base := base) (k := 0) gx F_as_end
  have D_as_endG := d_as_endG (P := P) (w := w) (mg := mg) (base := base) (k := 0) gx F_as_end
  have O_written := f_written (P := P) (w := w) (mg := mg) (base := base) (k := 0) F_written
  have D_written := DfD.of (drs := [.d (.int 0), .d (.tuple [])]) F_written O_written 2 (fun z => by cases z) rfl (fun D doc pm an cdv ct us ks h1 h2 => match us, ks, h1, h2 with | [_, _], [_, _], _, _ => ⟨_, _, _, _, _, _, rfl, rfl, _, _, _, _, _, _, rfl, rfl, rfl⟩) (fun H => .cons (.d (.int 0)) (.cons (emp _ e2 H) .nil))
  have K_written := DfK.of (n := 2) (ks := ["number", "pairs"]) F_written O_written fun _ _ _ _ _ _ us ws h1 h2 => match us, ws, h1, h2 with | [_, _], [_, _], _, _ => rfl
  have B_wr : ∀ k, 1 ≤ k → Wr P w K mg base k := fun k hk => ⟨_, g_written, K_written.mono hk, D_written.mono hk⟩
  have D_ask_written := d_askw (P := P) (w := w) (mg := mg) (base := base) (k := 1) F_ask_written (B_wr _ (by decide)) (D_ask_of.mono (by decide)) g_ask_of
  have D_begin := d_begin (P := P) (w := w) (mg := mg) (base := base) (k := 2) gx F_begin (D_ask_written.mono (by decide)) g_ask_written (D_plan_of.mono (by decide)) g_plan_of
  have O_shut := f_shut (P := P) (w := w) (mg := mg) (base := base) (k := 1) gx F_shut (B_wr _ (by decide))
  have D_shut := DfD.of (drs := [.d (.bool true)]) F_shut O_shut 2 (fun z => by cases z) rfl (fun D doc pm an cdv ct us ks h1 h2 => match us, ks, h1, h2 with | [_, _], [_], _, _ => ⟨_, _, _, _, _, _, rfl, rfl, rfl⟩) (fun H => .cons (.d (.bl true)) .nil)
  have K_shut := DfK.of (n := 2) (ks := ["is_told"]) F_shut O_shut fun _ _ _ _ _ _ us ws h1 h2 => match us, ws, h1, h2 with | [_, _], [_], _, _ => rfl
  have B_en : ∀ k, 3 ≤ k → En1 P w K mg base k := fun k hk => ⟨⟨_, g_known_of, D_known_of.mono (Nat.le_trans (by decide) hk)⟩, ⟨_, g_as_end, D_as_end.mono (Nat.le_trans (by decide) hk)⟩, ⟨_, g_begin, D_begin.mono (Nat.le_trans (by decide) hk)⟩, ⟨_, g_ask_written, D_ask_written.mono (Nat.le_trans (by decide) hk)⟩, ⟨_, g_shut, D_shut.mono (Nat.le_trans (by decide) hk), K_shut.mono (Nat.le_trans (by decide) hk)⟩, B_wr k (Nat.le_trans (by decide) hk)⟩
  have O_opened := f_opened (P := P) (w := w) (mg := mg) (base := base) (k := 3) F_opened (B_en _ (by decide))
  have K_opened := DfK.of (n := 1) (ks := ["tries"]) F_opened O_opened fun _ _ _ _ _ _ us ws h1 h2 => match us, ws, h1, h2 with | [_], [_], _, _ => rfl
  have D_closing := d_closing (P := P) (w := w) (mg := mg) (base := base) (k := 3) F_closing (B_en _ (by decide))
  have D_ticked := d_ticked (P := P) (w := w) (mg := mg) (base := base) (k := 3) F_ticked (B_en _ (by decide))
  have D_are_pairs := d_are_pairs (P := P) (w := w) (mg := mg) (base := base) (k := 2) gm F_are_pairs (D_is_pair.mono (by decide)) g_is_pair
  have D_is_said := d_is_said (P := P) (w := w) (mg := mg) (base := base) (k := 3) gm F_is_said (D_is_tuple.mono (by decide)) g_is_tuple (D_are_pairs.mono (by decide)) g_are_pairs
  have D_kinds_in := d_kinds_in (P := P) (w := w) (mg := mg) (base := base) (k := 0) F_kinds_in
  have D_answer := d_answer (P := P) (w := w) (mg := mg) (base := base) (k := 0) b_dict b_tuple F_answer
  have D_left_behind := d_left_behind (P := P) (w := w) (mg := mg) (base := base) (k := 0) b_tuple F_left_behind
  have D_are_refusals := d_are_refusals (P := P) (w := w) (mg := mg) (base := base) (k := 1) b_all b_zip F_are_refusals (D_kinds_in.mono (by decide)) g_kinds_in
  have D_letter_back := d_letter_back (P := P) (w := w) (mg := mg) (base := base) (k := 0) F_letter_back
  have D_heard_closed := d_heard_closed (P := P) (w := w) (mg := mg) (base := base) (k := 1) F_heard_closed (D_letter_back.mono (by decide)) g_letter_back
  have D_heard_ask := d_heard_ask (P := P) (w := w) (mg := mg) (base := base) (k := 1) F_heard_ask (B_wr _ (by decide)) (D_answer.mono (by decide)) g_answer
  have B_bh : ∀ k, 4 ≤ k → Bh P w K mg base k := fun k hk => ⟨⟨_, g_is_said, D_is_said.mono (Nat.le_trans (by decide) hk)⟩, ⟨_, g_ask_of, D_ask_of.mono (Nat.le_trans (by decide) hk)⟩, ⟨_, g_are_refusals, D_are_refusals.mono (Nat.le_trans (by decide) hk)⟩, ⟨_, g_left_behind, D_left_behind.mono (Nat.le_trans (by decide) hk)⟩, i_ALL_wishes, b_dict, b_tuple, b_sorted⟩
  have D_behind := d_behind (P := P) (w := w) (mg := mg) (base := base) (k := 4) F_behind (B_bh _ (by decide))
  have D_heard_answer := d_heard_answer (P := P) (w := w) (mg := mg) (base := base) (k := 5) F_heard_answer (B_en _ (by decide)) (D_behind.mono (by decide)) g_behind b_set b_sorted b_tuple
  have D_heard_word := d_heard_word (P := P) (w := w) (mg := mg) (base := base) (k := 6) F_heard_word (B_en _ (by decide)) (D_heard_ask.mono (by decide)) g_heard_ask (D_heard_answer.mono (by decide)) g_heard_answer
  have O_heard := f_heard (P := P) (w := w) (mg := mg) (base := base) (k := 7) F_heard (B_en _ (by decide)) (D_heard_closed.mono (by decide)) g_heard_closed (D_heard_word.mono (by decide)) g_heard_word
  have K_heard := DfK.of (n := 3) (ks := ["tries"]) F_heard O_heard fun _ _ _ _ _ _ us ws h1 h2 => match us, ws, h1, h2 with | [_, _, _], [_], _, _ => rfl
  have D_given_to := d_given_to (P := P) (w := w) (mg := mg) (base := base) (k := 0) F_given_to
  have D_stand_word := d_stand_word (P := P) (w := w) (mg := mg) (base := base) (k := 0) F_stand_word
  have D_stands_open_with := d_open_with (P := P) (w := w) (mg := mg) (base := base) (k := 1) F_stands_open_with (D_known_of.mono (by decide)) g_known_of
  have D_took_by := d_took_by (P := P) (w := w) (mg := mg) (base := base) (k := 0) F_took_by
  have D_is_place := d_is_place (P := P) (w := w) (mg := mg) (base := base) (k := 0) gm F_is_place
  have D_asks_again := d_asks_again (P := P) (w := w) (mg := mg) (base := base) (k := 1) b_any i_ALL_unsafe F_asks_again (D_stand_word.mono (by decide)) g_stand_word (D_ask_of.mono (by decide)) g_ask_of
  have D_is_beyond := d_is_beyond (P := P) (w := w) (mg := mg) (base := base) (k := 1) b_any b_dict F_is_beyond (D_given_to.mono (by decide)) g_given_to
  have D_are_unlike := d_unlike (P := P) (w := w) (mg := mg) (base := base) (k := 2) F_are_unlike (D_stands_open_with.mono (by decide)) g_stands_open_with (D_given_to.mono (by decide)) g_given_to (D_took_by.mono (by decide)) g_took_by
  have D_new_end := d_new_end (P := P) (w := w) (mg := mg) (base := base) (k := 1) gx F_new_end (D_as_endG.mono (by decide)) g_as_end
  have D_is_deed := d_is_deed (P := P) (w := w) (mg := mg) (base := base) (k := 1) gm gn F_is_deed (D_is_place.mono (by decide)) g_is_place
  have D_stand_of := d_stand_of (P := P) (w := w) (mg := mg) (base := base) (k := 2) F_stand_of (D_stands_open_with.mono (by decide)) g_stands_open_with (D_given_to.mono (by decide)) g_given_to (D_stand_word.mono (by decide)) g_stand_word
  have D_Setting_init := d_set_init (P := P) (w := w) (mg := mg) (base := base) (k := 0) kls b_list g_heard F_Setting_init
  have D_Setting_put := d_put (P := P) (w := w) (mg := mg) (base := base) (k := 0) (fH := ga K "heard") kls gn F_Setting_put
  have D_Setting_hear := d_hear (P := P) (w := w) (mg := mg) (base := base) (k := 8) kls gn F_Setting_hear (D_Setting_put.mono (by decide)) m_Setting_put (K_heard.mono (by decide))
  have D_Setting_of_itself := d_of_itself (P := P) (w := w) (mg := mg) (base := base) (k := 4) kls gn F_Setting_of_itself (D_Setting_put.mono (by decide)) m_Setting_put (K_opened.mono (by decide)) g_opened (D_closing.mono (by decide)) g_closing (D_ticked.mono (by decide)) g_ticked
  have D_Setting_do := d_set_do (P := P) (w := w) (mg := mg) (base := base) (k := 9) kls F_Setting_do (D_is_deed.mono (by decide)) g_is_deed (D_Setting_of_itself.mono (by decide)) m_Setting_of_itself (D_Setting_hear.mono (by decide)) m_Setting_hear b_len i_MOST_LETTERS
  have D_Setting_is_final := d_is_final (P := P) (w := w) (mg := mg) (base := base) (k := 3) (fH := ga K "heard") kls F_Setting_is_final (D_stand_of.mono (by decide)) g_stand_of
  have D_Setting_next_deed := d_next (P := P) (w := w) (mg := mg) (base := base) (k := 1) (fH := ga K "heard") kls gn b_zip F_Setting_next_deed (D_stand_word.mono (by decide)) g_stand_word
  have O_Wire_init := f_wire_init (P := P) (w := w) (mg := mg) (base := base) (k := 2) klw gn F_Wire_init (D_new_end.mono (by decide)) g_new_end
  have D_Wire_init := DfD.of (drs := [.d (.int 3)]) F_Wire_init O_Wire_init 3 (fun z => by cases z) rfl (fun D doc pm an cdv ct us ks h1 h2 => match us, ks, h1, h2 with | [_, _, _], [_], _, _ => ⟨_, _, _, _, _, _, rfl, rfl, rfl⟩) (fun H => .cons (.d (.int 3)) .nil)
  have K_Wire_init := DfK.of (n := 3) (ks := ["tries"]) F_Wire_init O_Wire_init fun _ _ _ _ _ _ us ws h1 h2 => match us, ws, h1, h2 with | [_, _, _], [_], _, _ => rfl
  have D_Wire_laid_out := d_laid_out (P := P) (w := w) (mg := mg) (base := base) (k := 1) klw F_Wire_laid_out (D_Setting_init.mono (by decide)) mk_Setting g_Setting
  have D_Wire_do := d_wire_do (P := P) (w := w) (mg := mg) (base := base) (k := 10) klw kls F_Wire_do (D_Wire_laid_out.mono (by decide)) m_Wire_laid_out (D_Setting_do.mono (by decide)) m_Setting_do (D_stand_word.mono (by decide)) g_stand_word b_tuple b_list b_zip
  have D_Wire_settle := d_settle (P := P) (w := w) (mg := mg) (base := base) (k := 11) klw kls F_Wire_settle (D_Wire_laid_out.mono (by decide)) m_Wire_laid_out (D_Wire_do.mono (by decide)) m_Wire_do (D_Setting_is_final.mono (by decide)) m_Setting_is_final (D_Setting_next_deed.mono (by decide)) m_Setting_next_deed b_int
  have D_Wire_ends := d_ends (P := P) (w := w) (mg := mg) (base := base) (k := 0) klw F_Wire_ends
  have D_Wire_air := d_air (P := P) (w := w) (mg := mg) (base := base) (k := 0) klw b_list F_Wire_air
  have D_Wire_deeds := d_deeds (P := P) (w := w) (mg := mg) (base := base) (k := 0) klw b_list F_Wire_deeds
  have D_Wire_stands := d_stands (P := P) (w := w) (mg := mg) (base := base) (k := 3) klw F_Wire_stands (D_stand_of.mono (by decide)) g_stand_of
  have D_Wire_saved := d_saved (P := P) (w := w) (mg := mg) (base := base) (k := 0) klw F_Wire_saved
  have D_Wire_twin := d_twin (P := P) (w := w) (mg := mg) (base := base) (k := 3) klw b_list F_Wire_twin (K_Wire_init.mono (by decide)) mk_Wire g_Wire
  have D_Wire_eq := d_eqw (P := P) (w := w) (mg := mg) (base := base) (k := 1) klw ci b_isinstance g_Wire F_Wire_eq (D_Wire_saved.mono (by decide)) m_Wire_saved
  have D_course := d_course (P := P) (w := w) (mg := mg) (base := base) (k := 5) F_course (D_plan_of.mono (by decide)) g_plan_of (D_ask_of.mono (by decide)) g_ask_of (D_answer.mono (by decide)) g_answer (D_behind.mono (by decide)) g_behind
  have D_unsafe := d_unsafe (P := P) (w := w) (mg := mg) (base := base) (k := 3) klw F_unsafe (D_Wire_ends.mono (by decide)) m_Wire_ends (D_Wire_saved.mono (by decide)) m_Wire_saved (D_stands_open_with.mono (by decide)) g_stands_open_with (D_are_unlike.mono (by decide)) g_are_unlike (D_is_beyond.mono (by decide)) g_is_beyond (D_asks_again.mono (by decide)) g_asks_again
  have D__law_pen := d_pen (P := P) (w := w) (mg := mg) (base := base) (k := 0) F__law_pen b_list
  have D__law_draw := d_draw (P := P) (w := w) (mg := mg) (base := base) (k := 0) F__law_draw b_len b_abs b_int
  have D__law_kinds := d_kinds (P := P) (w := w) (mg := mg) (base := base) (k := 1) F__law_kinds (D__law_draw.mono (by decide)) g__law_draw b_len b_range
  have D__law_worths := d_worths (P := P) (w := w) (mg := mg) (base := base) (k := 1) F__law_worths (D__law_draw.mono (by decide)) g__law_draw b_len b_range b_min b_tuple
  have D__law_wishes := d_wishes (P := P) (w := w) (mg := mg) (base := base) (k := 2) F__law_wishes (D__law_draw.mono (by decide)) g__law_draw (D__law_worths.mono (by decide)) g__law_worths b_len b_list b_tuple
  have D__law_bounds := d_bounds (P := P) (w := w) (mg := mg) (base := base) (k := 2) F__law_bounds (D__law_draw.mono (by decide)) g__law_draw (D__law_worths.mono (by decide)) g__law_worths b_tuple
  have D__law_books := d_books (P := P) (w := w) (mg := mg) (base := base) (k := 3) F__law_books (D__law_draw.mono (by decide)) g__law_draw (D__law_kinds.mono (by decide)) g__law_kinds (D__law_wishes.mono (by decide)) g__law_wishes (D__law_bounds.mono (by decide)) g__law_bounds
  have D__law_unsettled := d_unsettled (P := P) (w := w) (mg := mg) (base := base) (k := 11) klw F__law_unsettled (D__law_draw.mono (by decide)) g__law_draw (D_Wire_air.mono (by decide)) m_Wire_air (D_Wire_ends.mono (by decide)) m_Wire_ends (D_Wire_do.mono (by decide)) m_Wire_do b_len b_range
  have D__law_worths_many := d_worths_many (P := P) (w := w) (mg := mg) (base := base) (k := 0) F__law_worths_many b_len b_sum
  have D__law_come_right := d_come_right (P := P) (w := w) (mg := mg) (base := base) (k := 12) klw F__law_come_right (D__law_worths_many.mono (by decide)) g__law_worths_many (D_unsafe.mono (by decide)) g_unsafe (D_course.mono (by decide)) g_course (D_Wire_air.mono (by decide)) m_Wire_air (D_Wire_stands.mono (by decide)) m_Wire_stands (D_Wire_settle.mono (by decide)) m_Wire_settle b_range
  exact f_law (k := 12) klw F_law (D__law_pen.mono (by decide)) g__law_pen (D__law_books.mono (by decide)) g__law_books (D_Wire_init.mono (by decide)) mk_Wire g_Wire (D__law_draw.mono (by decide)) g__law_draw (D_Wire_do.mono (by decide)) m_Wire_do (D_Wire_ends.mono (by decide)) m_Wire_ends (D__law_unsettled.mono (by decide)) g__law_unsettled (D_Wire_twin.mono (by decide)) m_Wire_twin (D_Wire_settle.mono (by decide)) m_Wire_settle (D__law_come_right.mono (by decide)) g__law_come_right (D_Wire_eq.mono (by decide)) m_Wire_eq.at_ m_Wire_eq.fn (D_Wire_deeds.mono (by decide)) m_Wire_deeds b_range
end Wk

/-! text Hd2 -/
/-! The head: the top's run. Printed by gen_head2.py. -/
namespace Wk
open PySem PySem.Spec PyProof.Rows L2 Ds Cw He
abbrev AlY : Type := AlT × Bool
/-- where the head looks: the names' objects, what these name, the methods, what these name -/
def nmY : List Str := hFn.filterMap (fun d => match d.at_.2 with
  | none => some d.at_.1
  | some _ => none) ++ (["Setting", "Wire", "PARTS", "AT_REST", "NAMES"] : List Str)
def mtY : List (Str × Option Str) := hFn.filterMap fun d => match d.at_.2 with
  | none => none
  | some _ => some d.at_
def refsY (g : Addr → Option Obj) (as : List Addr) : List Addr := as.flatMap fun a => match g a with
  | some o => refsD o
  | none => []
def asY1 (g : Addr → Option Obj) (K0 : PySem.W.Frag) : List Addr := nmY.map (ga K0)
def asY2 (g : Addr → Option Obj) (a1 : List Addr) : List Addr := mainGlobals :: (a1 ++ refsY g a1)
def asY3 (g : Addr → Option Obj) (a2 : List Addr) (K2 : PySem.W.Frag) : List Addr := mtY.map (fAd K2) ++ [kdAt ("plan_of", none) "refused" K2, kdAt ("written", none) "pairs" K2]
def asY4 (g : Addr → Option Obj) (a2 a3 : List Addr) : List Addr := a2 ++ (a3 ++ refsY g a3)
def asY (g : Addr → Option Obj) : List Addr :=
  let a2 := asY2 g (asY1 g (frG g [mainGlobals]))
  asY4 g a2 (asY3 g a2 (frG g a2))
def obsY (g : Addr → Option Obj) : AlY := (obsT hFa hFn hTs (frG g (asY g)), exB (frG g (asY g)))
def hookY : PySem.W.Hook where
  α := AlY
  obs := fun s => obsY s.heap.get?
  val := fun w => (valT hFn hTs w, true)
  says := fun w h => ∃ K : PySem.W.Frag, K.In h ∧ obsT hFa hFn hTs K = valT hFn hTs w ∧ exB K = true
  of := fun _ _ e => ⟨_, frG_in, congrArg (fun z : AlY => z.1) e, congrArg (fun z : AlY => z.2) e⟩
  keeps := fun _ _ _ ⟨K, hK, c⟩ k => ⟨K, PySem.W.Frag.In.keeps hK k, c⟩
theorem obsY_eq {g : Addr → Option Obj} {s : Shared} (h : ∀ a, g a = s.heap.get? a) : obsY g = hookY.obs s := by
  have e : g = s.heap.get? := funext h
  rw [e] <;> rfl
abbrev RR : PySem.W.OpenRow := PySem.W.OpenLaw.row PySem.Challenge.rw_crossedwishes_k92_whole_settled_by_cours
def obY (s : PySem.W.SharedT) : AlY := obsY (HandSHeadRun.getT s)
theorem obY_eq (s : PySem.W.SharedT) : obY s = hookY.obs s.abs := obsY_eq (HandSHeadRun.getT_eq s)
def loose0 : List Str := ["__name__", "WishError", "NotClosed", "NotOpen", "NoDeed", "TooMany", "NoLetter", "NoBack", "LETTERS", "LONGEST", "GREATEST", "MOST_WORTHS", "MOST_WISHES", "ALL_wishes", "is_name", "is_worth"]
def loose1 : List Str := ["is_tuple", "are_worths", "is_pair", "is_wish", "are_wishes", "left_of", "plan_of", "ask_of", "PARTS", "AT_REST", "new_end", "known_of", "as_end", "written", "ask_written", "begin"]
def loose2 : List Str := ["shut", "opened", "closing", "ticked", "has_failed", "wished", "are_pairs", "is_said", "kinds_in", "answer", "are_refusals", "left_behind", "behind", "letter_back", "MOST_ECHOES", "heard_echo"]
def loose3 : List Str := ["heard_closed", "heard_ask", "heard_answer", "heard_word", "heard", "stands_open_with", "show_letter", "show_end", "show_wire", "ended", "NAMES", "MOST_LETTERS", "is_place", "is_deed", "other_name", "stand_of"]
def loose4 : List Str := ["given_to", "stand_word", "Setting", "Wire", "course", "ALL_unsafe", "took_by", "are_unlike", "is_beyond", "asks_again", "unsafe", "_law_pen", "_law_draw", "_law_kinds", "_law_worths", "_law_wishes"]
def loose5 : List Str := ["_law_bounds", "_law_books", "_law_unsettled", "_law_worths_many", "_law_come_right"]
def looseY : List Str := loose0 ++ (loose1 ++ (loose2 ++ (loose3 ++ (loose4 ++ (loose5)))))
theorem runF (w : World) : HandSHeadRun.RunEq RR (PySem.W.view RR.prog [95]) hookY obY 8000 looseY (w.withFollow "special-get-raises" false) := by
  intro os
  kernel_rfl
theorem runT (w : World) : HandSHeadRun.RunEq RR (PySem.W.view RR.prog [95]) hookY obY 8000 looseY (w.withFollow "special-get-raises" true) := by
  intro os
  kernel_rfl
theorem runY (w : World) : HandSHeadRun.RunEq RR (PySem.W.view RR.prog [95]) hookY obY 8000 looseY w :=
  PySem.W.byRow2 "special-get-raises" (P := fun w => HandSHeadRun.RunEq RR (PySem.W.view RR.prog [95]) hookY obY 8000 looseY w) runF runT w
end Wk

/-! text Hd3 -/
/-! The law. -/
namespace Wk
open PySem PySem.Spec PyProof.Rows L2 Ds Cw He
theorem law_end {K : PySem.W.Frag} {H : Hp} {a : Addr} {ns : List Int} (hl : ns.length ≤ 63) (hS : SqL K H a (ns.map V.int)) : spOfH K (sLaw K) [.ref a] H (fun v _ => v = .bl true) fun _ _ _ => False :=
  ⟨[.r (.ref a)], [], fun r _ => r = .d (.bool true), .cons (.r _) .nil, fun q hq => (by cases hq), List.nodup_nil, ⟨a, ns, rfl, hl, hS, rfl, rfl⟩, fun r μ' v H' h1 _ _ _ e => by
    subst e
    cases h1 with
    | d h => cases h; rfl⟩
end Wk
open PySem PySem.W PySem.Calls PyProof.Rows
theorem PySem.Challenge.cw_crossedwishes_k92_whole_settled_by_cours_holds : PySem.Challenge.rw_crossedwishes_k92_whole_settled_by_cours.Holds := by
  w_on; o_law
  refine HandSHeadRun.head_any (r := Wk.RR) (q := view Wk.RR.prog [95]) (H := Wk.hookY) (ob := Wk.obY) (M := 8000) (loose := Wk.looseY) (d := HandSHeadRun.topDef Wk.RR.prog 95) (kwd := []) Wk.obY_eq
    (by kernel_rfl) (fun s => by kernel_rfl) Wk.runY (by kernel_rfl) (by kernel_rfl) (by kernel_rfl) (by rfl) (by first | assumption | decide +kernel) (by decide +kernel) ⟨rfl, rfl, rfl, rfl, rfl, by decide +kernel⟩ ?hw ?hc
  case hw => w_witness2
  case hc =>
    refine L2.walk_ofE (l := PySem.Challenge.rw_crossedwishes_k92_whole_settled_by_cours) (n := 63) (k := 14) (x := "_law_script") (CX := L2.CX0) rfl (by decide) (by kernel_rfl) ⟨rfl, by decide, by decide⟩ ?F (fun _ _ _ _ z => z)
    intro w mg fa h Y G hmg0
    obtain ⟨K, KX, c, ex⟩ := Y
    have hmg : mg ("law" : PySem.Str) = some (.ref fa) := by
      have e : (HandSHeadRun.topDef Wk.RR.prog 95).name = ("law" : PySem.Str) := by kernel_rfl
      rw [← e]
      exact hmg0
    obtain ⟨fd, hb, hF⟩ := Wk.law_all (P := (PySem.Challenge.rw_crossedwishes_k92_whole_settled_by_cours).prog) (w := w) KX G hmg c ex
    exact ⟨K, fd, Ds.spOfH K (Wk.sLaw K), KX, hb, fun H a ns hl _ hS => Wk.law_end hl hS, fun base _ _ => hF base⟩
