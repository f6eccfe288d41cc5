import PyProof.Rows.All
import Wide.All
import OpenK.AllK
import Wide.FinOn
import HandS.ForMost
import HandS.Rev
import HandS.SortInts
import HandS.RaiseMore
import HandS.More
import HandS.Conv
import HandS.Deep
import HandS.NoneIn
import HandS.AnyAll
import HandS.EndTab
import KE.KSortTupG
import PySem.Challenge.RW_surelyread_k25_whole_read_back
import KE.GoesEnum
import PyProof.Rows.TupDisplay
import PyProof.ReprRoads
import KE.KNestM
set_option Elab.async false
set_option linter.all false
set_option maxRecDepth 100000
set_option maxHeartbeats 4000000
/-! SrA: heaps, data, rules in steps. -/
namespace Sr
open PySem PySem.Spec PyProof.Rows L2

abbrev PD := PyData

/-! ### immutable data -/
mutual
inductive Rep (H : Hp) : PD → V → Prop where
  | non : Rep H .none .non
  | bl (b : Bool) : Rep H (.bool b) (.bl b)
  | int (i : Int) : Rep H (.int i) (.int i)
  | str (x : Str) : Rep H (.str x) (.str x)
  | tup {a : Addr} {vs : List V} {ds : List PD} : H a = some (.tup vs) → RepL H ds vs → Rep H (.tuple ds) (.ref a)
inductive RepL (H : Hp) : List PD → List V → Prop where
  | nil : RepL H [] []
  | cons {v : V} {vs : List V} {d : PD} {ds : List PD} : Rep H d v → RepL H ds vs → RepL H (d :: ds) (v :: vs)
end
/-- tuples stay -/
def Tp (H H' : Hp) : Prop := ∀ a xs, H a = some (.tup xs) → H' a = some (.tup xs)
theorem Tp.refl (H : Hp) : Tp H H := fun _ _ h => h
theorem Tp.trans {H H1 H2 : Hp} (a : Tp H H1) (b : Tp H1 H2) : Tp H H2 := fun x o h => b x o (a x o h)
mutual
theorem Rep.mono {H H' : Hp} (g : Tp H H') : ∀ {d : PD} {v : V}, Rep H d v → Rep H' d v
  | _, _, .non => .non
  | _, _, .bl b => .bl b
  | _, _, .int i => .int i
  | _, _, .str x => .str x
  | _, _, .tup h l => .tup (g _ _ h) (RepL.mono g l)
theorem RepL.mono {H H' : Hp} (g : Tp H H') : ∀ {d : List PD} {v : List V}, RepL H d v → RepL H' d v
  | _, _, .nil => .nil
  | _, _, .cons h l => .cons (Rep.mono g h) (RepL.mono g l)
end
mutual
theorem Rep.dp {K : PySem.W.Frag} {H : Hp} : ∀ {d : PD} {v : V}, Rep H d v → Dp K H v d
  | _, _, .non => .non
  | _, _, .bl b => .bl b
  | _, _, .int i => .int i
  | _, _, .str x => .str x
  | _, _, .tup h l => .tup (SqT.of h) (RepL.dp l)
theorem RepL.dp {K : PySem.W.Frag} {H : Hp} : ∀ {d : List PD} {v : List V}, RepL H d v → DpAll K H v d
  | _, _, .nil => .nil
  | _, _, .cons h l => .cons (Rep.dp h) (RepL.dp l)
end
section
variable {H H' : Hp} {d : PD} {ds : List PD} {v : V} {vs : List V} {n : Nat}
theorem Rep.tupI (h : Rep H (.tuple ds) v) : ∃ a vs, v = .ref a ∧ H a = some (.tup vs) ∧ RepL H ds vs := by
  cases h with
  | tup h l => exact ⟨_, _, rfl, h, l⟩
theorem Rep.intI {i : Int} (h : Rep H (.int i) v) : v = .int i := by cases h; rfl
theorem Rep.strI {i : Str} (h : Rep H (.str i) v) : v = .str i := by cases h; rfl
theorem Rep.blI {i : Bool} (h : Rep H (.bool i) v) : v = .bl i := by cases h; rfl
theorem Rep.nonI (h : Rep H .none v) : v = .non := by cases h; rfl
theorem RepL.length : ∀ {ds : List PD} {vs : List V}, RepL H ds vs → ds.length = vs.length
  | _, _, .nil => rfl
  | _, _, .cons _ l => by rw [List.length_cons, List.length_cons, RepL.length l]
theorem RepL.get : ∀ {ds : List PD} {vs : List V} {n : Nat} {d : PD}, RepL H ds vs → ds[n]? = some d → ∃ x, vs[n]? = some x ∧ Rep H d x
  | _, _, _, _, .nil, h => by simp at h
  | _, _, 0, _, .cons h l, e => ⟨_, rfl, by simp at e; subst e; exact h⟩
  | _, _, n + 1, _, .cons h l, e => by
    obtain ⟨x, a, b⟩ := RepL.get (n := n) l (by simpa using e)
    exact ⟨x, by simpa using a, b⟩
theorem RepL.append : ∀ {ds es : List PD} {vs ws : List V}, RepL H ds vs → RepL H es ws → RepL H (ds ++ es) (vs ++ ws)
  | _, _, _, _, .nil, r => r
  | _, _, _, _, .cons h l, r => .cons h (RepL.append l r)
theorem RepL.snoc {d : PD} {v : V} (l : RepL H ds vs) (h : Rep H d v) : RepL H (ds ++ [d]) (vs ++ [v]) := l.append (.cons h .nil)
theorem RepL.take : ∀ {ds : List PD} {vs : List V} (n : Nat), RepL H ds vs → RepL H (ds.take n) (vs.take n)
  | _, _, 0, _ => .nil
  | _, _, n + 1, .nil => .nil
  | _, _, n + 1, .cons h l => .cons h (RepL.take n l)
theorem RepL.ints : ∀ (ns : List Int), RepL H (ns.map PyData.int) (ns.map V.int)
  | [] => .nil
  | i :: r => .cons (.int i) (RepL.ints r)
theorem RepL.intsI : ∀ {ns : List Int} {vs : List V}, RepL H (ns.map PyData.int) vs → vs = ns.map V.int
  | [], _, .nil => rfl
  | i :: r, _, .cons h l => by
    rw [List.map_cons, ← RepL.intsI l, h.intI]
end

/-! ### how a heap grows -/
def TabG (H : Hp) (P : Addr) : Prop := ∃ ps : Array Value, H P = some (.tbl ps) ∧ TriplesOk ps.toList
/-- H' is H but for what stands at S (and tables that grow); new objects are allowed -/
structure Gr (S : Addr → Prop) (H H' : Hp) : Prop where
  st : ∀ a o, ¬ S a → (∀ ps, o ≠ .tbl ps) → H a = some o → H' a = some o
  tp : Tp H H'
  tb : ∀ a, TabG H a → TabG H' a
  nn : ∀ a, H' a = none → H a = none
abbrev S0 : Addr → Prop := fun _ => False
abbrev S1 (b : Addr) : Addr → Prop := fun a => a = b
section
variable {S S' : Addr → Prop} {H H' H1 H2 H0 : Hp} {p a : Addr} {o u : HO}
theorem Gr.refl (S : Addr → Prop) (H : Hp) : Gr S H H := ⟨fun _ _ _ _ h => h, Tp.refl H, fun _ h => h, fun _ h => h⟩
theorem Gr.trans (a : Gr S H H1) (b : Gr S H1 H2) : Gr S H H2 :=
  ⟨fun x o hs ho h => b.st x o hs ho (a.st x o hs ho h), a.tp.trans b.tp, fun x h => b.tb x (a.tb x h), fun x h => a.nn x (b.nn x h)⟩
theorem Gr.mono (a : Gr S H H1) (h : ∀ x, S x → S' x) : Gr S' H H1 := ⟨fun x o hs => a.st x o fun z => hs (h x z), a.tp, a.tb, a.nn⟩
theorem Gr.any (a : Gr S0 H H1) : Gr S H H1 := a.mono fun _ z => z.elim
theorem Gr.new (h : H p = none) : Gr S H (upd H p o) :=
  ⟨fun x u _ _ e => by rw [upd_ne (ne_of_none e h)]; exact e, fun x u e => by rw [upd_ne (ne_of_none e h)]; exact e, fun x ⟨ps, e, t⟩ => ⟨ps, by rw [upd_ne (ne_of_none e h)]; exact e, t⟩,
   fun x e => by
    by_cases hx : x = p
    · rw [hx]; exact h
    · rw [upd_ne hx] at e; exact e⟩
/-- an object that is no tuple and no table, new since H0 or one of S, is changed -/
theorem Gr.set (g : Gr S H0 H) (h : H0 p = none ∨ S p) (hp : H p = some u) (h1 : ∀ xs, u ≠ .tup xs) (h2 : ∀ ps, u ≠ .tbl ps) : Gr S H0 (upd H p o) := by
  have key : ∀ x v, H0 x = some v → (¬ S x) → x ≠ p := fun x v e hs z => by
    subst z
    rcases h with h | h
    · rw [h] at e; cases e
    · exact hs h
  refine ⟨fun x v hs hv e => ?_, fun x xs e => ?_, fun x ht => ?_, fun x e => ?_⟩
  · rw [upd_ne (key x v e hs)]; exact g.st x v hs hv e
  · have q := g.tp x xs e
    have : x ≠ p := fun z => by subst z; rw [hp] at q; exact h1 xs (Option.some.inj q)
    rw [upd_ne this]; exact q
  · obtain ⟨ps, q, t⟩ := g.tb x ht
    have : x ≠ p := fun z => by subst z; rw [hp] at q; exact h2 ps (Option.some.inj q)
    exact ⟨ps, by rw [upd_ne this]; exact q, t⟩
  · by_cases hx : x = p
    · rw [hx, upd_same] at e; cases e
    · rw [upd_ne hx] at e; exact g.nn x e
theorem Gr.lst {xs : List V} (g : Gr S H H') (hs : ¬ S a) (h : H a = some (.lst xs)) : H' a = some (.lst xs) := g.st a _ hs (fun _ z => by cases z) h
theorem Gr.dT {xs : List (List L2.Key × V)} (g : Gr S H H') (hs : ¬ S a) (h : H a = some (.dT xs)) : H' a = some (.dT xs) := g.st a _ hs (fun _ z => by cases z) h
theorem Gr.sql {K : PySem.W.Frag} {xs : List V} (g : Gr S H H') (hs : ¬ S a) (h : SqL K H a xs) : SqL K H' a xs := by
  rcases h with (h | ⟨o, h⟩) | h
  · exact .inl (.inl (g.lst hs h))
  · exact .inl (.inr ⟨o, g.st a _ hs (fun _ z => by cases z) h⟩)
  · exact .inr h
theorem Tp.new (h : H p = none) : Tp H (upd H p o) := (Gr.new (S := S0) h).tp
theorem Tp.set (hp : H p = some u) (h1 : ∀ xs, u ≠ .tup xs) : Tp H (upd H p o) := fun x xs e => by
  have : x ≠ p := fun z => by subst z; rw [hp] at e; exact h1 xs (Option.some.inj e)
  rw [upd_ne this]; exact e
theorem Tp.setL {xs : List V} (hp : H p = some (.lst xs)) : Tp H (upd H p o) := Tp.set hp fun _ z => by cases z
theorem Tp.setT {xs : List (List L2.Key × V)} (hp : H p = some (.dT xs)) : Tp H (upd H p o) := Tp.set hp fun _ z => by cases z
theorem Gr.setL {xs : List V} (g : Gr S H0 H) (h : H0 p = none ∨ S p) (hp : H p = some (.lst xs)) : Gr S H0 (upd H p o) := g.set h hp (fun _ z => by cases z) (fun _ z => by cases z)
theorem Gr.setT {xs : List (List L2.Key × V)} (g : Gr S H0 H) (h : H0 p = none ∨ S p) (hp : H p = some (.dT xs)) : Gr S H0 (upd H p o) := g.set h hp (fun _ z => by cases z) (fun _ z => by cases z)
end

/-! ### rules in steps -/
section
variable {K : PySem.W.Frag} {σ : L2.St} {H H0 : Hp} {Q : VK} {x y v : V} {r : R2} {ta tb te : TE} {t u : TT} {d : PD} {ds : List PD}
theorem w_var {i : Nat} (h : σ[i]? = some (some v)) (q : Q v H) : tVar i σ H Q := ⟨v, h, q⟩
theorem w_c (q : Q v H) : tC v σ H Q := q
theorem w_op (q : ta σ H fun x H1 => tb σ H1 fun y H2 => r x y H2 Q) : tOp r ta tb σ H Q := q
theorem w_un {r : V → Hp → VK → Prop} (q : ta σ H fun x H1 => r x H1 Q) : tUn r ta σ H Q := q
theorem w_I0 {g : Int → Int → V} {i j : Int} (q : Q (g i j) H) : rI0 g (.int i) (.int j) H Q := ⟨i, j, rfl, rfl, q⟩
theorem w_I {C : Int → Int → Prop} {g : Int → Int → V} {i j : Int} (c : C i j) (q : Q (g i j) H) : rI C g (.int i) (.int j) H Q := ⟨i, j, rfl, rfl, c, q⟩
theorem w_ix {i : Int} (hv : Rep H0 (.tuple ds) v) (g : Tp H0 H) (h0 : 0 ≤ i) (hd : ds[i.toNat]? = some d) (q : ∀ x, Rep H d x → Q x H) : rIx K v (.int i) H Q := by
  obtain ⟨a, vs, rfl, ha, hl⟩ := hv.tupI
  obtain ⟨x, hx, rx⟩ := hl.get hd
  have e : i = ((i.toNat : Nat) : Int) := by omega
  refine .inr (.inl ⟨a, vs, i, x, rfl, rfl, SqT.of (g _ _ ha), ?_, q x (rx.mono g)⟩)
  rw [e]; exact atI_nat hx
theorem w_ixL {i : Int} {a : Addr} {xs : List V} (ha : H a = some (.lst xs)) (h0 : 0 ≤ i) (hd : xs[i.toNat]? = some x) (q : Q x H) : rIx K (.ref a) (.int i) H Q := by
  have e : i = ((i.toNat : Nat) : Int) := by omega
  refine .inl ⟨a, xs, i, x, rfl, rfl, SqL.of ha, ?_, q⟩
  rw [e]; exact atI_nat hd
theorem w_ixS {i : Int} {z : Str} {c : Nat} (hz : z.length ≤ 1000) (h0 : 0 ≤ i) (hd : z.cps.toList[i.toNat]? = some c) (q : Q (.str ⟨#[c]⟩) H) : rIx K (.str z) (.int i) H Q := by
  have e : i = ((i.toNat : Nat) : Int) := by omega
  refine .inr (.inr ⟨z, i, c, rfl, rfl, Nat.le_of_lt (small1000 hz), ?_, q⟩)
  rw [e]; exact atI_nat hd
theorem w_eqS {i j : Str} (q : Q (.bl (decide (i = j))) H) : rEq (.str i) (.str j) H Q := ⟨rfl, by rw [show decide (V.str i = V.str j) = decide (i = j) by by_cases h : i = j <;> simp [h]]; exact q⟩
theorem w_eqI {i j : Int} (q : Q (.bl (decide (i = j))) H) : rEq (.int i) (.int j) H Q := ⟨rfl, by rw [show decide (V.int i = V.int j) = decide (i = j) by by_cases h : i = j <;> simp [h]]; exact q⟩
theorem w_eqB {i j : Bool} (q : Q (.bl (decide (i = j))) H) : rEq (.bl i) (.bl j) H Q := ⟨rfl, by rw [show decide (V.bl i = V.bl j) = decide (i = j) by by_cases h : i = j <;> simp [h]]; exact q⟩
theorem w_neB {i j : Bool} (q : Q (.bl (!decide (i = j))) H) : rNe (.bl i) (.bl j) H Q := ⟨rfl, by rw [show decide (V.bl i = V.bl j) = decide (i = j) by by_cases h : i = j <;> simp [h]]; exact q⟩
theorem w_test {R : Bool → Hp → Prop} (q : te σ H fun x H1 => ∃ k, x = .bl k ∧ R k H1) : tTest te σ H R := q
theorem w_tB {R : Bool → Hp → Prop} (q : te σ H fun x H1 => ∃ k, x = .bl k ∧ R k H1) : tB te σ H R := q
theorem w_and {R : Bool → Hp → Prop} (q : t σ H fun c H1 => if c = true then u σ H1 R else R false H1) : tAnd t u σ H R := q
theorem w_or {R : Bool → Hp → Prop} (q : t σ H fun c H1 => if c = true then R true H1 else u σ H1 R) : tOr t u σ H R := q
theorem w_not {R : Bool → Hp → Prop} (q : t σ H fun c H1 => R (!c) H1) : tNot t σ H R := q
theorem w_nil {R : List V → Hp → Prop} (q : R [] H) : tNil σ H R := q
theorem w_cons {ta : TE} {tr : TA} {R : List V → Hp → Prop} (q : ta σ H fun x H1 => tr σ H1 fun xs H2 => R (x :: xs) H2) : tCons ta tr σ H R := q
theorem w_CB {r : List V → Hp → VK → Prop} {tl : TA} (q : tl σ H fun vs H1 => r vs H1 Q) : tCB r tl σ H Q := q
theorem w_call {sp : Sp} {E : XK} {tl : TA} (q : tl σ H fun vs H1 => sp vs H1 Q E) : tCall sp [] E tl σ H Q := by
  refine (show (tl σ H fun vs H1 => sp (vs ++ []) H1 Q E) from ?_)
  simpa only [List.append_nil] using q
/-- a new tuple, a new list -/
def NewTup (xs : List V) (H : Hp) (Q : VK) : Prop := xs.length ≤ sizeLine ∧ ∀ p, H p = none → Q (.ref p) (upd H p (.tup xs))
def NewLst (xs : List V) (H : Hp) (Q : VK) : Prop := xs.length ≤ sizeLine ∧ ∀ p, H p = none → Q (.ref p) (upd H p (.lst xs))
theorem tup_new {xs : List V} (hl : RepL H ds xs) (hn : xs.length ≤ 1000) (q : ∀ p H', H p = none → H' p = some (.tup xs) → Gr S0 H H' → Rep H' (.tuple ds) (.ref p) → Q (.ref p) H') : NewTup xs H Q :=
  ⟨Nat.le_of_lt (small1000 hn), fun p hp => q p _ hp upd_same (Gr.new hp) (.tup upd_same (hl.mono (Gr.new (S := S0) hp).tp))⟩
theorem lst_new {xs : List V} (hn : xs.length ≤ sizeLine) (q : ∀ p H', H p = none → H' p = some (.lst xs) → Gr S0 H H' → Q (.ref p) H') : NewLst xs H Q :=
  ⟨hn, fun p hp => q p _ hp upd_same (Gr.new hp)⟩
/-! ### loops -/
theorem w_for1 {ta : TA} {g : TG} {tb : TS} {D : Ends} (q : ta σ H fun vs H1 => ∃ j : Int, vs = [.int j] ∧ -(2 ^ 62) ≤ j ∧ j < 2 ^ 62 ∧ ∃ W : Nat → Nat → L2.St → Hp → Prop, (∃ m, W 0 m σ H1) ∧ ∀ i m σ H, W i m σ H →
  ((Itr 0 j.toNat).stop i H ∧ D.nx σ H) ∨ ((Itr 0 j.toNat).go i H ∧ ∃ N : L2.St → Hp → Prop, (∀ σ' H', N σ' H' → ∃ m', m' < m ∧ W (i + 1) m' σ' H') ∧ ∀ x H', (Itr 0 j.toNat).yld i H x H' → g x σ H' fun σ2 H2 => tb { D with nx := N, ct := N, bk := D.nx } σ2 H2)) : tFor (iRng1 ta) g tb D σ H := q
theorem rng1 {g : TG} {tb : TS} {D : Ends} {n : Nat} (hn : n ≤ 1000000000) (Pv : Nat → L2.St → Hp → Prop) (h0 : Pv 0 σ H)
    (hs : ∀ i σ H, i < n → Pv i σ H → g (.int (i : Nat)) σ H fun σ2 H2 => tb { D with nx := Pv (i + 1), ct := Pv (i + 1), bk := D.nx } σ2 H2) (hd : ∀ σ H, Pv n σ H → D.nx σ H) :
    ∃ j : Int, [V.int (n : Nat)] = [.int j] ∧ -(2 ^ 62) ≤ j ∧ j < 2 ^ 62 ∧ ∃ W : Nat → Nat → L2.St → Hp → Prop, (∃ m, W 0 m σ H) ∧ ∀ i m σ H, W i m σ H →
      ((Itr 0 j.toNat).stop i H ∧ D.nx σ H) ∨ ((Itr 0 j.toNat).go i H ∧ ∃ N : L2.St → Hp → Prop, (∀ σ' H', N σ' H' → ∃ m', m' < m ∧ W (i + 1) m' σ' H') ∧ ∀ x H', (Itr 0 j.toNat).yld i H x H' → g x σ H' fun σ2 H2 => tb { D with nx := N, ct := N, bk := D.nx } σ2 H2) := by
  refine ⟨(n : Int), rfl, by omega, by omega, ?_⟩
  rw [Int.toNat_natCast]
  exact for_range (lo := 0) (n := n) Pv h0 (fun i σ H hi p => by rw [Int.zero_add]; exact hs i σ H hi p) hd
/-- range(lo, hi), whole numbers of any size and order -/
theorem w_for2 {ta : TA} {g : TG} {tb : TS} {D : Ends} (q : ta σ H fun vs H1 => ∃ i j : Int, vs = [.int i, .int j] ∧ (-(2 ^ 62) ≤ i ∧ i < 2 ^ 62 ∧ -(2 ^ 62) ≤ j ∧ j < 2 ^ 62) ∧ ∃ W : Nat → Nat → L2.St → Hp → Prop, (∃ m, W 0 m σ H1) ∧ ∀ k m σ H, W k m σ H →
  ((Itr i (j - i).toNat).stop k H ∧ D.nx σ H) ∨ ((Itr i (j - i).toNat).go k H ∧ ∃ N : L2.St → Hp → Prop, (∀ σ' H', N σ' H' → ∃ m', m' < m ∧ W (k + 1) m' σ' H') ∧ ∀ x H', (Itr i (j - i).toNat).yld k H x H' → g x σ H' fun σ2 H2 => tb { D with nx := N, ct := N, bk := D.nx } σ2 H2)) : tFor (iRng2 ta) g tb D σ H := q
theorem rng2 {g : TG} {tb : TS} {D : Ends} {lo hi : Nat} {j : Int} (hj : j = (hi : Nat)) (hn : lo ≤ 1000000000) (hm : hi ≤ 1000000000) (Pv : Nat → L2.St → Hp → Prop) (h0 : Pv lo σ H)
    (hs : ∀ i σ H, lo ≤ i → i < hi → Pv i σ H → g (.int (i : Nat)) σ H fun σ2 H2 => tb { D with nx := Pv (i + 1), ct := Pv (i + 1), bk := D.nx } σ2 H2) (hd : ∀ σ H, Pv (max lo hi) σ H → D.nx σ H) :
    ∃ i j' : Int, [V.int (lo : Nat), V.int j] = [.int i, .int j'] ∧ (-(2 ^ 62) ≤ i ∧ i < 2 ^ 62 ∧ -(2 ^ 62) ≤ j' ∧ j' < 2 ^ 62) ∧ ∃ W : Nat → Nat → L2.St → Hp → Prop, (∃ m, W 0 m σ H) ∧ ∀ k m σ H, W k m σ H →
      ((Itr i (j' - i).toNat).stop k H ∧ D.nx σ H) ∨ ((Itr i (j' - i).toNat).go k H ∧ ∃ N : L2.St → Hp → Prop, (∀ σ' H', N σ' H' → ∃ m', m' < m ∧ W (k + 1) m' σ' H') ∧ ∀ x H', (Itr i (j' - i).toNat).yld k H x H' → g x σ H' fun σ2 H2 => tb { D with nx := N, ct := N, bk := D.nx } σ2 H2) := by
  subst hj
  refine ⟨(lo : Int), (hi : Int), rfl, ⟨by omega, by omega, by omega, by omega⟩, ?_⟩
  have e : ((hi : Int) - (lo : Int)).toNat = hi - lo := by omega
  rw [e]
  refine for_range (lo := (lo : Int)) (n := hi - lo) (fun i => Pv (lo + i)) h0 (fun i σ H hi' p => ?_) (fun σ H p => ?_)
  · have e2 : (lo : Int) + (i : Int) = ((lo + i : Nat) : Int) := by omega
    rw [e2]
    exact hs (lo + i) σ H (by omega) (by omega) p
  · refine hd σ H ?_
    have e3 : max lo hi = lo + (hi - lo) := by omega
    rw [e3]; exact p
theorem w_forT {tl : TE} {g : TG} {tb : TS} {D : Ends} (q : tl σ H fun x H1 => ∃ a, x = .ref a ∧ (∃ xs, SqT K H1 a xs) ∧ ∃ W : Nat → Nat → L2.St → Hp → Prop, (∃ m, W 0 m σ H1) ∧ ∀ i m σ H, W i m σ H →
      ((Itt K a).stop i H ∧ D.nx σ H) ∨ ((Itt K a).go i H ∧ ∃ N : L2.St → Hp → Prop, (∀ σ' H', N σ' H' → ∃ m', m' < m ∧ W (i + 1) m' σ' H') ∧ ∀ x H', (Itt K a).yld i H x H' → g x σ H' fun σ2 H2 => tb { D with nx := N, ct := N, bk := D.nx } σ2 H2)) : tFor (iTup K tl) g tb D σ H := q
theorem forT {g : TG} {tb : TS} {D : Ends} (hv : Rep H0 (.tuple ds) v) (g0 : Tp H0 H) (Pv : Nat → L2.St → Hp → Prop) (h0 : Pv 0 σ H) (hl : ∀ i σ H, Pv i σ H → Tp H0 H)
    (hs : ∀ i d x σ H, ds[i]? = some d → Rep H0 d x → Pv i σ H → g x σ H fun σ2 H2 => tb { D with nx := Pv (i + 1), ct := Pv (i + 1), bk := D.nx } σ2 H2) (hd : ∀ σ H, Pv ds.length σ H → D.nx σ H) :
    ∃ a, v = .ref a ∧ (∃ xs, SqT K H a xs) ∧ ∃ W : Nat → Nat → L2.St → Hp → Prop, (∃ m, W 0 m σ H) ∧ ∀ i m σ H, W i m σ H →
      ((Itt K a).stop i H ∧ D.nx σ H) ∨ ((Itt K a).go i H ∧ ∃ N : L2.St → Hp → Prop, (∀ σ' H', N σ' H' → ∃ m', m' < m ∧ W (i + 1) m' σ' H') ∧ ∀ x H', (Itt K a).yld i H x H' → g x σ H' fun σ2 H2 => tb { D with nx := N, ct := N, bk := D.nx } σ2 H2) := by
  obtain ⟨a, vs, rfl, ha, l⟩ := hv.tupI
  refine ⟨a, rfl, ⟨vs, SqT.of (g0 _ _ ha)⟩, for_tup (K := K) (a := a) (xs := vs) Pv h0 (fun i σ H _ p => SqT.of (hl i σ H p _ _ ha)) (fun i x σ H hx p => ?_) (fun σ H p => hd σ H (by rw [l.length]; exact p))⟩
  have hi := (List.getElem?_eq_some_iff.mp hx).1
  have hd : ds[i]? = some (ds[i]'(by rw [l.length]; exact hi)) := List.getElem?_eq_getElem _
  obtain ⟨x', h1, h2⟩ := l.get hd
  rw [hx] at h1
  cases h1
  exact hs i _ x σ H hd h2 p
theorem w_forL {tl : TE} {g : TG} {tb : TS} {D : Ends} (q : tl σ H fun x H1 => ∃ a, x = .ref a ∧ (∃ xs, SqL K H1 a xs) ∧ ∃ W : Nat → Nat → L2.St → Hp → Prop, (∃ m, W 0 m σ H1) ∧ ∀ i m σ H, W i m σ H →
      ((Itl K a).stop i H ∧ D.nx σ H) ∨ ((Itl K a).go i H ∧ ∃ N : L2.St → Hp → Prop, (∀ σ' H', N σ' H' → ∃ m', m' < m ∧ W (i + 1) m' σ' H') ∧ ∀ x H', (Itl K a).yld i H x H' → g x σ H' fun σ2 H2 => tb { D with nx := N, ct := N, bk := D.nx } σ2 H2)) : tFor (iList K tl) g tb D σ H := q
theorem forL {g : TG} {tb : TS} {D : Ends} {a : Addr} {xs : List V} (ha : SqL K H a xs) (Pv : Nat → L2.St → Hp → Prop) (h0 : Pv 0 σ H) (hl : ∀ i σ H, Pv i σ H → SqL K H a xs)
    (hs : ∀ i x σ H, xs[i]? = some x → Pv i σ H → g x σ H fun σ2 H2 => tb { D with nx := Pv (i + 1), ct := Pv (i + 1), bk := D.nx } σ2 H2) (hd : ∀ σ H, Pv xs.length σ H → D.nx σ H) :
    ∃ a', V.ref a = .ref a' ∧ (∃ xs, SqL K H a' xs) ∧ ∃ W : Nat → Nat → L2.St → Hp → Prop, (∃ m, W 0 m σ H) ∧ ∀ i m σ H, W i m σ H →
      ((Itl K a').stop i H ∧ D.nx σ H) ∨ ((Itl K a').go i H ∧ ∃ N : L2.St → Hp → Prop, (∀ σ' H', N σ' H' → ∃ m', m' < m ∧ W (i + 1) m' σ' H') ∧ ∀ x H', (Itl K a').yld i H x H' → g x σ H' fun σ2 H2 => tb { D with nx := N, ct := N, bk := D.nx } σ2 H2) :=
  ⟨a, rfl, ⟨xs, ha⟩, for_list (K := K) (a := a) (xs := xs) Pv h0 (fun i σ H _ p => hl i σ H p) hs hd⟩
theorem w_aug {i : Nat} {ti : TIp} {D : Ends} (h : σ[i]? = some (some x)) (q : te σ H fun y H1 => ti x y H1 fun z H2 => D.nx (σ.set i (some z)) H2) : tAug i te ti D σ H := ⟨x, h, q⟩
theorem w_ip {f : Int → Int → Int} {i j : Int} (q : Q (.int (f i j)) H) : ipI f (.int i) (.int j) H Q := ⟨i, j, rfl, rfl, q⟩
theorem if_of {c : Bool} {A B : Prop} (h1 : c = true → A) (h2 : c = false → B) : if c = true then A else B := by
  cases c with
  | true => exact h1 rfl
  | false => exact h2 rfl
end
end Sr
/-! SrT: the data of the program, and defs as facts. -/
namespace Sr
open PySem PySem.Spec PyProof.Rows L2

/-- an expression of a strip; the two items of sequences and choices -/
inductive Ex where
  | place (p l m c : Nat)
  | two (sq : Bool) (a b : Ex)
  | rep (k : Nat) (a : Ex)
  deriving DecidableEq
inductive Part where
  | plain (nm lb : Str) (c : Nat) (b : Bool)
  | shape (nm lb : Str) (c : Nat) (rows : List Str)
  | strip (ac : Bool) (nm jt : Str) (e : Ex)
  deriving DecidableEq
structure Rg where
  n : Nat
  x : Nat
  y : Nat
  w : Nat
  h : Nat
  deriving DecidableEq
structure Mv where
  o : Nat
  t : Nat
  p : Nat
  l : Nat
  m : Nat
  c : Nat
  deriving DecidableEq
structure Mach where
  ends : List Bool
  mvs : List Mv
/-- a reading, or a rest: its pieces (number of the move, size, inner reading) -/
inductive Row where
  | nil
  | cons (m s : Nat) (i r : Row)
  deriving DecidableEq

def kName : Nat → Str
  | 0 => "any"
  | 1 => "some"
  | _ => "maybe"
def encEx : Ex → PD
  | .place p l m c => .tuple [.str "place", .int p, .int l, .int m, .int c]
  | .two sq a b => .tuple [.str (if sq then "sequence" else "choice"), .tuple [encEx a, encEx b]]
  | .rep k a => .tuple [.str (kName k), encEx a]
def encPart : Part → PD
  | .plain nm lb c b => .tuple [.str "plain", .str nm, .str lb, .int c, .bool b]
  | .shape nm lb c rows => .tuple [.str "shape", .str nm, .str lb, .int c, .tuple (rows.map PyData.str)]
  | .strip ac nm jt e => .tuple [.str (if ac then "across" else "down"), .str nm, .str jt, encEx e]
def rgL (r : Rg) : List PD := [.int r.n, .int r.x, .int r.y, .int r.w, .int r.h]
def encRg (r : Rg) : PD := .tuple (rgL r)
def rgK (r : Rg) : List L2.Key := [.inl r.n, .inl r.x, .inl r.y, .inl r.w, .inl r.h]
def encMv (m : Mv) : PD := .tuple [.int m.o, .int m.t, .int m.p, .int m.l, .int m.m, .int m.c]
def encMach (m : Mach) : PD := .tuple [.tuple (m.ends.map PyData.bool), .tuple (m.mvs.map encMv)]
def rowL : Row → List PD
  | .nil => []
  | .cons m s i r => .tuple [.int m, .int s, .tuple (rowL i)] :: rowL r
def encRow (r : Row) : PD := .tuple (rowL r)
def isStrip : Part → Bool
  | .strip _ _ _ _ => true
  | _ => false
def partsD (ps : List Part) : PD := .tuple (ps.map encPart)
/-- how far a region goes in a strip's direction -/
def ext (ac : Bool) (r : Rg) : Nat := if ac then r.w else r.h
/-- the piece that begins at off, with the size s -/
def piece (ac : Bool) (r : Rg) (n off s : Nat) : Rg := if ac then ⟨n, r.x + off, r.y, s, r.h⟩ else ⟨n, r.x, r.y + off, r.w, s⟩
def black (z : Str) (x : Nat) : Bool := decide (z.cps.toList[x]? = some 35)

/-! ### defs as facts -/
def top (i : Nat) : Stmt := PySem.Challenge.pw_surelyread_k25_whole_read_back.main.body.getD i (.Pass ⟨0, 0, 0, 0⟩)
/-- the def st stands behind the top by its name -/
def Raw (K : PySem.W.Frag) (mg : Str → Option Value) (nm : Str) (st : Stmt) (ps : List Str) : Prop :=
  ∃ (f : Addr) (fd : FuncData), Fun K nm nm st f fd ∧ mg nm = some (.ref f) ∧ Binds K fd ps []
/-- a def by its promise -/
def Def (P : Program) (w : World) (K : PySem.W.Frag) (mg : Str → Option Value) (base : Heap) (k : Nat) (nm : Str) (ps : List Str) (sp : Sp) : Prop :=
  ∃ (f : Addr) (fd : FuncData), FnOk P w K mg base CX0 k f fd ps sp ∧ mg nm = some (.ref f) ∧ PySem.W.keepIn K (.ref f) = true ∧ Binds K fd ps []
/-- the built-ins are as they were -/
structure Bi (mg : Str → Option Value) : Prop where
  len : mg "len" = none
  range : mg "range" = none
  int : mg "int" = none
  tuple : mg "tuple" = none
  sorted : mg "sorted" = none
  min : mg "min" = none
  list : mg "list" = none
  str : mg "str" = none
  enumerate : mg "enumerate" = none
  reversed : mg "reversed" = none
  all : mg "all" = none
  sum : mg "sum" = none
  repr : mg "repr" = none
theorem bo_len : bootBuiltins "len" = some (.builtin "len") := by decide +kernel
theorem bo_min : bootBuiltins "min" = some (.builtin "min") := by decide +kernel
theorem bo_sum : bootBuiltins "sum" = some (.builtin "sum") := by decide +kernel
theorem bo_repr : bootBuiltins "repr" = some (.builtin "repr") := by decide +kernel
theorem bo_sorted : bootBuiltins "sorted" = some (.builtin "sorted") := by decide +kernel
theorem bo_all : bootBuiltins "all" = some (.builtin "all") := by decide +kernel
theorem bo_int : bootBuiltins "int" = some (.type "int") := by decide +kernel
theorem bo_tuple : bootBuiltins "tuple" = some (.type "tuple") := by decide +kernel
theorem bo_list : bootBuiltins "list" = some (.type "list") := by decide +kernel
theorem bo_str : bootBuiltins "str" = some (.type "str") := by decide +kernel
section
variable {P : Program} {w : World} {K : PySem.W.Frag} {mg : Str → Option Value} {base : Heap}
theorem Def.mono {j k : Nat} {nm : Str} {ps : List Str} {sp : Sp} (D : Def P w K mg base j nm ps sp) (h : j ≤ k) : Def P w K mg base k nm ps sp :=
  let ⟨f, fd, a, b⟩ := D; ⟨f, fd, a.mono h, b⟩
theorem Raw.ok {nm : Str} {st : Stmt} {N ps : List Str} {k : Nat} {sp : Sp} (R : Raw K mg nm st ps) (S : FnScope N ps (defScope st)) (len : ∀ vs H Q E, sp vs H Q E → vs.length = ps.length)
    (hbody : ∀ (f : Addr) (cdv : Value) (A : Around) (outer : List Env) (s : Shared) (H : Hp) (vs : List V) (Q : VK) (E : XK), Room k (A.deeper (envOfC nm (defScope st) s.heap.objs.size f cdv)) → sp vs H Q E →
      ∃ t, PSs (cxOf CX0 P w K mg base N nm (defScope st) f cdv A outer s H E).nox (defBody st) t ∧ t { nx := fun _ H' => Q .non H', rt := Q } (start N vs) H) : Def P w K mg base (k + 1) nm ps sp := by
  obtain ⟨f, fd, F, m, b⟩ := R
  exact ⟨f, fd, F.ok S len (hbody f), m, F.kp, b⟩
end
section
variable {X : Cx} {k : Nat} {nm : Str} {ps : List Str} {sp : Sp} {e : Expr} {es : List Expr} {t : TA} {p pos : Pos}
theorem pe_d (D : Def X.prog X.w X.K X.mg X.base k nm ps sp) (hr : Room k X.A) (hg : Gl X nm)
    (ha : PA X (e :: es) t) (hdb : (nm == ("__debug__" : Str)) = false := by decide) (he : starEach (e :: es) X.env = (false, eval e X.env) :: starEach es X.env := by rfl) (hpl : (backTo pos (starEach es X.env)).any (·.1) = false := by rfl) :
    PE X (.Call (.Name nm p) (e :: es) [] pos) (tCall sp [] E0 t) := by
  have D' := D
  obtain ⟨f, fd, F, m, kp, b⟩ := D'
  exact pe_call F hr hg m kp b .nil pass0 ha hdb he hpl
end
section
variable {K : PySem.W.Frag} {σ : L2.St} {H H0 H1 H2 : Hp} {Q : VK} {x y v : V} {D : Ends} {t u : TS} {c : TT} {te : TE} {S : Addr → Prop}
theorem w_seq (q : t { D with nx := u D } σ H) : tSeq t u D σ H := q
theorem w_asg {g : TG} (q : te σ H fun x H1 => g x σ H1 D.nx) : tAsg te g D σ H := q
theorem w_gname {i : Nat} {R : L2.St → Hp → Prop} (q : R (σ.set i (some v)) H) : gName i v σ H R := q
theorem w_drop (q : te σ H fun _ H1 => D.nx σ H1) : tDrop te D σ H := q
theorem w_ret (q : te σ H D.rt) : tRet te D σ H := q
theorem w_ifS (q : c σ H fun b H1 => if b = true then t D σ H1 else u D σ H1) : tIfS c t u D σ H := q
theorem w_next (q : D.nx σ H) : tNext D σ H := q
theorem w_ifE {tA : TT} {ta tb : TE} (q : tA σ H fun c H1 => if c = true then ta σ H1 Q else tb σ H1 Q) : tIf tA ta tb σ H Q := q
theorem w_andV {ta tb : TE} (q : ta σ H fun x H1 => ∃ c, x = .bl c ∧ if c = true then tb σ H1 Q else Q (.bl false) H1) : tAndV ta tb σ H Q := q
theorem w_orV {ta tb : TE} (q : ta σ H fun x H1 => ∃ c, x = .bl c ∧ if c = true then Q (.bl true) H1 else tb σ H1 Q) : tOrV ta tb σ H Q := q
theorem w_notV {ta : TE} (q : ta σ H fun x H1 => ∃ c, x = .bl c ∧ Q (.bl (!c)) H1) : tNotV ta σ H Q := q
theorem w_tupE {tl : TA} (q : tl σ H fun xs H1 => NewTup xs H1 Q) : tTup tl σ H Q := q
theorem w_lstE {tl : TA} (q : tl σ H fun xs H1 => NewLst xs H1 Q) : tLst tl σ H Q := q
theorem w_bl {b : Bool} {R : Bool → Prop} (q : R b) : ∃ k, V.bl b = .bl k ∧ R k := ⟨b, rfl, q⟩
/-! ### calls of built-ins -/
def rLenX (K : PySem.W.Frag) : List V → Hp → VK → Prop := fun xs H Q => ∃ x n, xs = [x] ∧ LenV K x H n ∧ Q (.int (n : Nat)) H
theorem cx_len {X : Cx} : CallR X (.builtin "len") (rLenX X.K) := call_len
theorem w_lenD {ds : List PD} (hv : Rep H0 (.tuple ds) v) (g : Tp H0 H) (q : Q (.int (ds.length : Nat)) H) : rLenX K [v] H Q := by
  obtain ⟨a, vs, rfl, ha, hl⟩ := hv.tupI
  exact ⟨_, vs.length, rfl, .inr ⟨vs, SqT.of (g _ _ ha), rfl⟩, by rw [← hl.length]; exact q⟩
theorem w_lenL {a : Addr} {xs : List V} (h : H a = some (.lst xs)) (q : Q (.int (xs.length : Nat)) H) : rLenX K [.ref a] H Q := ⟨_, xs.length, rfl, .inl ⟨xs, SqL.of h, rfl⟩, q⟩
theorem w_lenS {z : Str} (h : z.length ≤ 1000) (q : Q (.int (z.length : Nat)) H) : rLenX K [.str z] H Q := ⟨_, z.length, rfl, (⟨Nat.le_of_lt (small1000 h), rfl⟩ : _ ∧ _), q⟩
def rMin2 : List V → Hp → VK → Prop := fun xs H Q => ∃ i j, xs = [.int i, .int j] ∧ Q (.int (if j < i then j else i)) H
theorem cx_min {X : Cx} (hc : X.calm = true) : CallR X (.builtin "min") rMin2 := call_min2 hc
theorem w_min {i j : Nat} (q : Q (.int (min i j : Nat)) H) : rMin2 [.int (i : Nat), .int (j : Nat)] H Q := ⟨_, _, rfl, by
  have e : (if (j : Int) < (i : Int) then (j : Int) else (i : Int)) = ((min i j : Nat) : Int) := by
    by_cases h : (j : Int) < (i : Int)
    · rw [if_pos h]; omega
    · rw [if_neg h]; omega
  rw [e]; exact q⟩
def rInt1 : List V → Hp → VK → Prop := fun xs H Q => (∃ i, xs = [.int i] ∧ Q (.int i) H) ∨ ∃ k, xs = [.bl k] ∧ Q (.int (if k then 1 else 0)) H
theorem cx_int {X : Cx} : CallR X (.type "int") rInt1 := call_int1
def b2 (k : Bool) : Nat := if k then 1 else 0
theorem w_intI {i : Int} (q : Q (.int i) H) : rInt1 [.int i] H Q := .inl ⟨_, rfl, q⟩
theorem w_intB {k : Bool} (q : Q (.int (b2 k : Nat)) H) : rInt1 [.bl k] H Q := .inr ⟨_, rfl, by
  have e : ((if k = true then 1 else 0 : Int)) = ((b2 k : Nat) : Int) := by cases k <;> rfl
  rw [e]; exact q⟩
def rTupOf (K : PySem.W.Frag) : List V → Hp → VK → Prop := fun xs H Q => ∃ p ys, xs = [.ref p] ∧ ((SqL K H p ys ∧ ∀ l, H l = none → Q (.ref l) (upd H l (.tup ys))) ∨ (SqT K H p ys ∧ Q (.ref p) H))
theorem cx_tup {X : Cx} : CallR X (.type "tuple") (rTupOf X.K) := call_tuple_of
theorem w_tupOf {a : Addr} {xs : List V} {ds : List PD} (h : H a = some (.lst xs)) (hl : RepL H ds xs) (q : ∀ v H', Gr S0 H H' → Rep H' (.tuple ds) v → Q v H') : rTupOf K [.ref a] H Q :=
  ⟨a, xs, rfl, .inl ⟨SqL.of h, fun l hl' => q _ _ (Gr.new hl') (.tup upd_same (hl.mono (Tp.new hl')))⟩⟩
def rListOf (K : PySem.W.Frag) : List V → Hp → VK → Prop := fun xs H Q => ∃ p ys, xs = [.ref p] ∧ (SqL K H p ys ∨ SqT K H p ys) ∧ ∀ l, H l = none → Q (.ref l) (upd H l (.lst ys))
theorem cx_list {X : Cx} : CallR X (.type "list") (rListOf X.K) := call_list_of
theorem w_listOf {a : Addr} {xs : List V} (h : H a = some (.lst xs)) (q : ∀ l H', H l = none → H' l = some (.lst xs) → Gr S0 H H' → Q (.ref l) H') : rListOf K [.ref a] H Q :=
  ⟨a, xs, rfl, .inl (SqL.of h), fun l hl' => q _ _ hl' upd_same (Gr.new hl')⟩
def rStrI : List V → Hp → VK → Prop := fun xs H Q => ∃ i, xs = [.int i] ∧ i.natAbs.log2 < 1920 ∧ Q (.str (toString i)) H
theorem cx_str {X : Cx} : CallR X (.type "str") rStrI := call_str_int
/-! ### lists that change -/
theorem ixN_nat {n : Nat} {k : Int} (h0 : 0 ≤ k) (h : k.toNat < n) : ixN n k = some k.toNat := by
  unfold ixN
  rw [if_pos h0, if_pos (by omega)]
theorem w_bm {T : String} {r : V → List V → Hp → VK → Prop} {to : TE} {tl : TA} (q : to σ H fun x H1 => tyV K T x H1 ∧ tl σ H1 fun xs H2 => r x xs H2 Q) : tBM K T r to tl σ H Q := q
theorem w_bm0 {T : String} {r : V → List V → Hp → VK → Prop} {to : TE} (q : to σ H fun x H1 => tyV K T x H1 ∧ r x [] H1 Q) : tBM0 K T r to σ H Q := q
theorem w_tyL {a : Addr} {xs : List V} {R : Prop} (h : H a = some (.lst xs)) (q : R) : tyV K "list" (.ref a) H ∧ R := ⟨.inl ⟨rfl, xs, SqL.of h⟩, q⟩
theorem w_append {a : Addr} {xs : List V} (h : H a = some (.lst xs)) (hn : xs.length < sizeLine) (q : Q .non (upd H a (.lst (xs ++ [y])))) : rAppend (.ref a) [y] H Q := ⟨a, xs, y, rfl, rfl, h, hn, q⟩
theorem w_gsub {to ti : TE} {ts : TSet} {R : L2.St → Hp → Prop} (q : to σ H fun o H1 => ti σ H1 fun i H2 => ts o i v H2 fun H3 => R σ H3) : gSub to ti ts v σ H R := q
theorem w_setL {a : Addr} {xs : List V} {k : Int} {R : Hp → Prop} (h : H a = some (.lst xs)) (h0 : 0 ≤ k) (hk : k.toNat < xs.length) (q : R (upd H a (.lst (xs.set k.toNat v)))) : rSetL (.ref a) (.int k) v H R := ⟨a, xs, k, k.toNat, rfl, rfl, h, ixN_nat h0 hk, q⟩
theorem w_ixSq {a : Addr} {xs : List V} {i : Int} (ha : SqL K H a xs) (h0 : 0 ≤ i) (hd : xs[i.toNat]? = some x) (q : Q x H) : rIx K (.ref a) (.int i) H Q := by
  have e : i = ((i.toNat : Nat) : Int) := by omega
  refine .inl ⟨a, xs, i, x, rfl, rfl, ha, ?_, q⟩
  rw [e]; exact atI_nat hd
theorem w_lenSq {a : Addr} {xs : List V} (h : SqL K H a xs) (q : Q (.int (xs.length : Nat)) H) : rLenX K [.ref a] H Q := ⟨_, xs.length, rfl, .inl ⟨xs, h, rfl⟩, q⟩
theorem small6 {n : Nat} (h : n ≤ 10000000) : n < sizeLine := Nat.lt_of_le_of_lt h (by decide)
/-! ### comprehensions -/
theorem wipe1 (σ : L2.St) (i : Nat) (x : Option V) : wipe ((wipe σ [i]).set i x) [i] = wipe σ [i] := by
  show ((σ.set i none).set i x).set i none = σ.set i none
  rw [List.set_set, List.set_set]
theorem wipe2 (σ : L2.St) (i : Nat) (x : Option V) : (wipe σ [i]).set i x = σ.set i x := by
  show (σ.set i none).set i x = σ.set i x
  rw [List.set_set]
def LcW (J : It) (g : TG) (tt : TT) (te : TE) (vs : List Nat) (σ : L2.St) (H1 : Hp) (Q : VK) : Prop := ∀ D, H1 D = none → ∃ W : Nat → Nat → Hp → Prop, (∃ m, W 0 m (upd H1 D (.lst []))) ∧ ∀ i m H, W i m H →
  (J.stop i H ∧ Q (.ref D) H) ∨ (J.go i H ∧ ∃ Nx : Hp → Prop, (∀ H', Nx H' → ∃ m', m' < m ∧ W (i + 1) m' H') ∧ ∀ x H', J.yld i H x H' → g x (wipe σ vs) H' fun σ2 H2 => wipe σ2 vs = wipe σ vs ∧ tt σ2 H2 fun b H3 =>
    if b = true then te σ2 H3 fun y H4 => ∃ acc, H4 D = some (.lst acc) ∧ acc.length < sizeLine ∧ Nx (upd H4 D (.lst (acc ++ [y]))) else Nx H3)
/-- a turn: the element goes to the list at D -/
def Put (D : Addr) (Nx : Hp → Prop) : VK := fun y H4 => ∃ acc, H4 D = some (.lst acc) ∧ acc.length < sizeLine ∧ Nx (upd H4 D (.lst (acc ++ [y])))
def LcR1 (g : TG) (tt : TT) (te : TE) (vs : List Nat) (σ : L2.St) (xs : List V) (H1 : Hp) (Q : VK) : Prop := ∃ j : Int, xs = [.int j] ∧ -(2 ^ 62) ≤ j ∧ j < 2 ^ 62 ∧ LcW (Itr 0 j.toNat) g tt te vs σ H1 Q
theorem w_lc1 {ta : TA} {g : TG} {tt : TT} {vs : List Nat} (q : ta σ H fun xs H1 => LcR1 g tt te vs σ xs H1 Q) : tLc (iRng1 ta) g tt te vs σ H Q := q
theorem lcR1 {i n : Nat} {vs : List Nat} (hvs : vs = [i]) (hn : n ≤ 1000000000) (Pv : Addr → Nat → Hp → Prop)
    (h0 : ∀ D, H D = none → Pv D 0 (upd H D (.lst [])))
    (hs : ∀ D k H', H D = none → k < n → Pv D k H' → te (σ.set i (some (.int (k : Nat)))) H' (Put D (Pv D (k + 1))))
    (hd : ∀ D H', H D = none → Pv D n H' → Q (.ref D) H') : LcR1 (gName i) tYes te vs σ [.int (n : Nat)] H Q := by
  subst hvs
  refine ⟨n, rfl, by omega, by omega, fun D hD => ?_⟩
  rw [Int.toNat_natCast]
  refine lc_range (lo := 0) (n := n) (Pv D) (h0 D hD) (fun k H' hk p => ?_) (fun H' p => hd D H' hD p)
  rw [Int.zero_add]
  refine ⟨wipe1 _ _ _, ?_⟩
  show te ((wipe σ [i]).set i (some (.int (k : Nat)))) H' _
  rw [wipe2]
  exact hs D k H' hD hk p
def LcRL (K : PySem.W.Frag) (g : TG) (tt : TT) (te : TE) (vs : List Nat) (σ : L2.St) (x : V) (H1 : Hp) (Q : VK) : Prop := ∃ a, x = .ref a ∧ (∃ xs, SqL K H1 a xs) ∧ LcW (Itl K a) g tt te vs σ H1 Q
theorem w_lcL {tl : TE} {g : TG} {tt : TT} {vs : List Nat} (q : tl σ H fun x H1 => LcRL K g tt te vs σ x H1 Q) : tLc (iList K tl) g tt te vs σ H Q := q
theorem lcRL {i : Nat} {a : Addr} {xs : List V} {tt : TT} {vs : List Nat} (hvs : vs = [i]) (ha : SqL K H a xs) (Pv : Addr → Nat → Hp → Prop)
    (h0 : ∀ D, H D = none → Pv D 0 (upd H D (.lst []))) (hl : ∀ D k H', H D = none → Pv D k H' → SqL K H' a xs)
    (hs : ∀ D k x H', H D = none → xs[k]? = some x → Pv D k H' → tt (σ.set i (some x)) H' fun b H3 => if b = true then te (σ.set i (some x)) H3 (Put D (Pv D (k + 1))) else Pv D (k + 1) H3)
    (hd : ∀ D H', H D = none → Pv D xs.length H' → Q (.ref D) H') : LcRL K (gName i) tt te vs σ (.ref a) H Q := by
  subst hvs
  refine ⟨a, rfl, ⟨xs, ha⟩, fun D hD => ?_⟩
  refine lc_list (K := K) (a := a) (xs := xs) (Pv D) (h0 D hD) (fun k H' _ p => hl D k H' hD p) (fun k x H' hk p => ?_) (fun H' p => hd D H' hD p)
  refine ⟨wipe1 _ _ _, ?_⟩
  have e : (wipe σ [i]).set i (some x) = σ.set i (some x) := wipe2 _ _ _
  rw [e]
  exact hs D k x H' hD hk p
def LcRT (K : PySem.W.Frag) (g : TG) (tt : TT) (te : TE) (vs : List Nat) (σ : L2.St) (x : V) (H1 : Hp) (Q : VK) : Prop := ∃ a, x = .ref a ∧ (∃ xs, SqT K H1 a xs) ∧ LcW (Itt K a) g tt te vs σ H1 Q
theorem w_lcT {tl : TE} {g : TG} {tt : TT} {vs : List Nat} (q : tl σ H fun x H1 => LcRT K g tt te vs σ x H1 Q) : tLc (iTup K tl) g tt te vs σ H Q := q
theorem lcRT {i : Nat} {ds : List PD} {tt : TT} {vs : List Nat} (hvs : vs = [i]) (hv : Rep H0 (.tuple ds) v) (g0 : Tp H0 H) (Pv : Addr → Nat → Hp → Prop)
    (h0 : ∀ D, H D = none → Pv D 0 (upd H D (.lst []))) (hl : ∀ D k H', H D = none → Pv D k H' → Tp H0 H')
    (hs : ∀ D k d x H', H D = none → ds[k]? = some d → Rep H0 d x → Pv D k H' → tt (σ.set i (some x)) H' fun b H3 => if b = true then te (σ.set i (some x)) H3 (Put D (Pv D (k + 1))) else Pv D (k + 1) H3)
    (hd : ∀ D H', H D = none → Pv D ds.length H' → Q (.ref D) H') : LcRT K (gName i) tt te vs σ v H Q := by
  subst hvs
  obtain ⟨a, ys, rfl, ha, l⟩ := hv.tupI
  refine ⟨a, rfl, ⟨ys, SqT.of (g0 _ _ ha)⟩, fun D hD => ?_⟩
  refine lc_tup (K := K) (a := a) (xs := ys) (Pv D) (h0 D hD) (fun k H' _ p => SqT.of (hl D k H' hD p _ _ ha)) (fun k x H' hk p => ?_) (fun H' p => hd D H' hD (by rw [l.length]; exact p))
  refine ⟨wipe1 _ _ _, ?_⟩
  have e : (wipe σ [i]).set i (some x) = σ.set i (some x) := wipe2 _ _ _
  rw [e]
  have hi := (List.getElem?_eq_some_iff.mp hk).1
  have hd' : ds[k]? = some (ds[k]'(by rw [l.length]; exact hi)) := List.getElem?_eq_getElem _
  obtain ⟨x', h1, h2⟩ := l.get hd'
  rw [hk] at h1
  cases h1
  exact hs D k _ x H' hD hd' h2 p
theorem w_yes {R : Bool → Hp → Prop} (q : R true H) : tYes σ H R := q
theorem w_put {D : Addr} {acc : List V} {Nx : Hp → Prop} (h : H D = some (.lst acc)) (hn : acc.length < sizeLine) (q : Nx (upd H D (.lst (acc ++ [y])))) : Put D Nx y H := ⟨acc, h, hn, q⟩
/-! ### texts -/
theorem w_m1 {r : V → List V → Hp → VK → Prop} {to : TE} (q : to σ H fun x H1 => (∃ a, x = .str a) ∧ te σ H1 fun y H2 => r x [y] H2 Q) : tM1 r to te σ H Q := q
def rJoin (K : PySem.W.Frag) : V → List V → Hp → VK → Prop := fun x xs H Q => ∃ a p, ∃ ys : List Str, x = .str a ∧ xs = [.ref p] ∧ (SqL K H p (ys.map V.str) ∨ SqT K H p (ys.map V.str)) ∧
      (ys.map (·.length)).sum + ys.length * a.length ≤ 16777216 ∧ Q (.str (Txt.join a ys)) H
theorem pe_joinX {X : Cx} {o e : Expr} {to te : TE} {apos pos : Pos} (ho : PE X o to) (he : PE X e te) (hs : starEach [e] X.env = [(false, eval e X.env)] := by rfl) (hbase : attributeBase o "join" X.env (eval o X.env) = eval o X.env := by rfl) (hline : (apos.endLine == pos.line) = true := by rfl) :
    PE X (.Call (.Attribute o "join" apos) [e] [] pos) (tM1 (rJoin X.K) to te) := pe_join ho he hs hbase hline
/-- a text of so many signs -/
def ones (cs : List Nat) : List Str := cs.map fun c => ⟨#[c]⟩
theorem join_ones : ∀ cs : List Nat, (Str.join Str.empty (ones cs)).cps.toList = cs
  | [] => rfl
  | [c] => rfl
  | c :: d :: r => by
    have ih := join_ones (d :: r)
    show (((⟨#[c]⟩ : Str) ++ Str.empty) ++ Str.join Str.empty (ones (d :: r))).cps.toList = c :: d :: r
    have e : ∀ a b : Str, (a ++ b).cps.toList = a.cps.toList ++ b.cps.toList := fun a b => by
      show (a.cps ++ b.cps).toList = _
      exact Array.toList_append
    rw [e, e, ih]
    rfl
theorem w_join {a : Addr} {cs : List Nat} (h : H a = some (.lst ((ones cs).map V.str))) (hn : cs.length ≤ 1000) (q : ∀ z : Str, z.cps.toList = cs → Q (.str z) H) : rJoin K (.str "") [.ref a] H Q := by
  refine ⟨"", a, ones cs, rfl, rfl, .inl (SqL.of h), ?_, ?_⟩
  · have h1 : (("" : Str)).length = 0 := by decide +kernel
    have h2 : ((ones cs).map (·.length)).sum = cs.length := by
      clear h hn q h1
      induction cs with
      | nil => rfl
      | cons c r ih =>
        show (1 + ((ones r).map (·.length)).sum) = r.length + 1
        omega
    rw [h1, h2]
    omega
  · refine q _ ?_
    have e : ("" : Str) = Str.empty := by decide +kernel
    rw [TL.join_eq, e]
    exact join_ones cs
theorem w_ixU {a : Addr} {vs : List V} {i : Int} (h : H0 a = some (.tup vs)) (g : Tp H0 H) (h0 : 0 ≤ i) (hd : vs[i.toNat]? = some x) (q : Q x H) : rIx K (.ref a) (.int i) H Q := by
  have e : i = ((i.toNat : Nat) : Int) := by omega
  refine .inr (.inl ⟨a, vs, i, x, rfl, rfl, SqT.of (g _ _ h), ?_, q⟩)
  rw [e]; exact atI_nat hd
theorem w_gcons {t : TG} {u : TGs} {r : List V} {R : L2.St → Hp → Prop} (q : t v σ H fun σ' H' => u r σ' H' R) : gCons t u (v :: r) σ H R := ⟨v, r, rfl, q⟩
theorem w_gnil {R : L2.St → Hp → Prop} (q : R σ H) : gNil [] σ H R := ⟨rfl, q⟩
theorem w_gtup {a : Addr} {vs : List V} {n : Nat} {t : TGs} {R : L2.St → Hp → Prop} (h : H0 a = some (.tup vs)) (g : Tp H0 H) (hn : vs.length = n) (q : t vs σ H R) : gTup K n t (.ref a) σ H R := ⟨a, vs, rfl, SqT.of (g _ _ h), hn, q⟩
theorem w_gtupD {ds : List PD} {n : Nat} {t : TGs} {R : L2.St → Hp → Prop} (hv : Rep H0 (.tuple ds) v) (g : Tp H0 H) (hn : ds.length = n) (q : ∀ vs, RepL H ds vs → t vs σ H R) : gTup K n t v σ H R := by
  obtain ⟨a, vs, rfl, ha, hl⟩ := hv.tupI
  exact ⟨a, vs, rfl, SqT.of (g _ _ ha), by rw [← hl.length]; exact hn, q vs (hl.mono g)⟩
theorem ix_sq {X : Cx} (h : X.K = K) : IxR X (rIx K) := h ▸ ix_seq
theorem ck_len {X : Cx} (h : X.K = K) : CallR X (.builtin "len") (rLenX K) := h ▸ cx_len
theorem ck_tup {X : Cx} (h : X.K = K) : CallR X (.type "tuple") (rTupOf K) := h ▸ cx_tup
theorem ck_list {X : Cx} (h : X.K = K) : CallR X (.type "list") (rListOf K) := h ▸ cx_list
theorem os_in {X : Cx} (h : X.K = K) : OpR X (compareOp .In) (rIn K false) := h ▸ op_in_seq
theorem os_notin {X : Cx} (h : X.K = K) : OpR X (compareOp .NotIn) (rIn K true) := h ▸ op_notIn_seq
/-! ### lists of numbers -/
def ni (ns : List Nat) : List V := ns.map fun n => V.int (n : Nat)
def LI (H : Hp) (a : Addr) (ns : List Nat) : Prop := H a = some (.lst (ni ns))
theorem ni_flat (ns : List Nat) : (ni ns).all flatV = true := by
  rw [List.all_eq_true]
  intro x hx
  obtain ⟨n, _, rfl⟩ := List.mem_map.mp hx
  rfl
theorem ni_in (n : Nat) (ns : List Nat) : inV (.int (n : Nat)) (ni ns) = decide (n ∈ ns) := by
  have e : inV (.int (n : Nat)) (ni ns) = true ↔ n ∈ ns := by
    unfold inV ni
    rw [List.any_eq_true]
    constructor
    · rintro ⟨x, hx, h⟩
      obtain ⟨m, hm, rfl⟩ := List.mem_map.mp hx
      have h' : ((m : Int) == (n : Int)) = true := h
      have e : (m : Int) = n := by simpa using h'
      have : m = n := by omega
      rw [← this]; exact hm
    · intro h
      refine ⟨.int (n : Nat), List.mem_map.mpr ⟨n, h, rfl⟩, ?_⟩
      show ((n : Int) == (n : Int)) = true
      simp
  by_cases h : n ∈ ns
  · rw [decide_eq_true h, e.mpr h]
  · rw [decide_eq_false h]
    cases q : inV (.int (n : Nat)) (ni ns) with
    | false => rfl
    | true => exact absurd (e.mp q) h
theorem w_in {a : Addr} {n : Nat} {ns : List Nat} (h : LI H a ns) (q : Q (.bl (decide (n ∈ ns))) H) : rIn K false (.int (n : Nat)) (.ref a) H Q :=
  ⟨a, ni ns, rfl, .inl (SqL.of h), rfl, ni_flat ns, by rw [ni_in]; exact q⟩
theorem w_notin {a : Addr} {n : Nat} {ns : List Nat} (h : LI H a ns) (q : Q (.bl (!decide (n ∈ ns))) H) : rIn K true (.int (n : Nat)) (.ref a) H Q :=
  ⟨a, ni ns, rfl, .inl (SqL.of h), rfl, ni_flat ns, by rw [ni_in]; exact q⟩
theorem w_cat {a b : Addr} {xs ys : List V} (ha : H a = some (.lst xs)) (hb : H b = some (.lst ys)) (hn : xs.length + ys.length ≤ sizeLine) (q : ∀ p H', H p = none → H' p = some (.lst (xs ++ ys)) → Gr S0 H H' → Q (.ref p) H') : rCat (.ref a) (.ref b) H Q :=
  ⟨a, b, xs, ys, rfl, rfl, ha, hb, hn, fun p hp => q p _ hp upd_same (Gr.new hp)⟩
/-! ### objects -/
def rFld (K : PySem.W.Frag) (f : Str) (x : V) (H1 : Hp) (Q : VK) : Prop := ∃ a C dx fs v, x = .ref a ∧ H1 a = some (.ins C dx fs) ∧ Cls K C ∧ NoAttr K C f ∧ fs.lookup f = some v ∧ Q v H1
theorem w_fld {f : Str} (q : te σ H fun x H1 => rFld K f x H1 Q) : tFld K te f σ H Q := q
def rMeth (C : Addr) (m : Str) (x : V) (H1 : Hp) (q : Prop) : Prop := ∃ a dx fs, x = .ref a ∧ H1 a = some (.ins C dx fs) ∧ fs.lookup m = none ∧ q
theorem w_meth {C : Addr} {m : Str} {sp : Sp} {E : XK} {tl : TA} (q : te σ H fun x H1 => rMeth C m x H1 (tl σ H1 fun vs H2 => sp (x :: vs) H2 Q E)) : tMeth C m sp [] E te tl σ H Q := by
  refine (show (te σ H fun x H1 => ∃ a dx fs, x = .ref a ∧ H1 a = some (.ins C dx fs) ∧ fs.lookup m = none ∧ tl σ H1 fun vs H2 => sp (x :: (vs ++ [])) H2 Q E) from ?_)
  simpa only [List.append_nil, rMeth] using q
theorem eqS_t {a b : Str} (h : a = b) : decide (a = b) = true := decide_eq_true h
theorem eqS_f {a b : Str} (h : ¬ a = b) : decide (a = b) = false := decide_eq_false h
end
/-- a method by its promise -/
def RawM (K : PySem.W.Frag) (C : Addr) (nm qual : Str) (st : Stmt) (ps : List Str) : Prop := ∃ (f : Addr) (fd : FuncData), Fun K nm qual st f fd ∧ Meth K C nm f ∧ Binds K fd ps []
def DefM (P : Program) (w : World) (K : PySem.W.Frag) (mg : Str → Option Value) (base : Heap) (C : Addr) (k : Nat) (nm : Str) (ps : List Str) (sp : Sp) : Prop :=
  ∃ (f : Addr) (fd : FuncData), FnOk P w K mg base CX0 k f fd ps sp ∧ Meth K C nm f ∧ Binds K fd ps []
def RawI (K : PySem.W.Frag) (C : Addr) (qual : Str) (st : Stmt) (ps : List Str) : Prop := ∃ (f : Addr) (fd : FuncData), Fun K "__init__" qual st f fd ∧ Mk K C f ∧ Binds K fd ps []
def DefI (P : Program) (w : World) (K : PySem.W.Frag) (mg : Str → Option Value) (base : Heap) (C : Addr) (k : Nat) (ps : List Str) (sp : Sp) : Prop :=
  ∃ (f : Addr) (fd : FuncData), FnOk P w K mg base CX0 k f fd ps sp ∧ Mk K C f ∧ Binds K fd ps []
section
variable {P : Program} {w : World} {K : PySem.W.Frag} {mg : Str → Option Value} {base : Heap}
theorem DefM.mono {j k : Nat} {C : Addr} {nm : Str} {ps : List Str} {sp : Sp} (D : DefM P w K mg base C j nm ps sp) (h : j ≤ k) : DefM P w K mg base C k nm ps sp :=
  let ⟨f, fd, a, b⟩ := D; ⟨f, fd, a.mono h, b⟩
theorem RawM.ok {C : Addr} {nm qual : Str} {st : Stmt} {N ps : List Str} {k : Nat} {sp : Sp} (R : RawM K C nm qual st ps) (S : FnScope N ps (defScope st)) (len : ∀ vs H Q E, sp vs H Q E → vs.length = ps.length)
    (hbody : ∀ (f : Addr) (cdv : Value) (A : Around) (outer : List Env) (s : Shared) (H : Hp) (vs : List V) (Q : VK) (E : XK), Room k (A.deeper (envOfC qual (defScope st) s.heap.objs.size f cdv)) → sp vs H Q E →
      ∃ t, PSs (cxOf CX0 P w K mg base N qual (defScope st) f cdv A outer s H E).nox (defBody st) t ∧ t { nx := fun _ H' => Q .non H', rt := Q } (start N vs) H) : DefM P w K mg base C (k + 1) nm ps sp := by
  obtain ⟨f, fd, F, m, b⟩ := R
  exact ⟨f, fd, F.ok S len (hbody f), m, b⟩
theorem RawI.ok {C : Addr} {qual : Str} {st : Stmt} {N ps : List Str} {k : Nat} {sp : Sp} (R : RawI K C qual st ps) (S : FnScope N ps (defScope st)) (len : ∀ vs H Q E, sp vs H Q E → vs.length = ps.length)
    (hbody : ∀ (f : Addr) (cdv : Value) (A : Around) (outer : List Env) (s : Shared) (H : Hp) (vs : List V) (Q : VK) (E : XK), Room k (A.deeper (envOfC qual (defScope st) s.heap.objs.size f cdv)) → sp vs H Q E →
      ∃ t, PSs (cxOf CX0 P w K mg base N qual (defScope st) f cdv A outer s H E).nox (defBody st) t ∧ t { nx := fun _ H' => Q .non H', rt := Q } (start N vs) H) : DefI P w K mg base C (k + 1) ps sp := by
  obtain ⟨f, fd, F, m, b⟩ := R
  exact ⟨f, fd, F.ok S len (hbody f), m, b⟩
end
section
variable {X : Cx} {k : Nat} {C : Addr} {nm : Str} {ps : List Str} {sp : Sp} {o e fe : Expr} {es : List Expr} {t : TA} {ta tf : TE} {p pos apos : Pos}
theorem pe_dm {pl : Sem Bool} (D : DefM X.prog X.w X.K X.mg X.base C k nm ps sp) (he : PE X o ta) (c : Cls X.K C) (hr : Room k X.A) (ha : PA X (e :: es) t)
    (hst : starEach (e :: es) X.env = (false, eval e X.env) :: starEach es X.env := by rfl) (hpl : (backTo pos (starEach es X.env)).any (·.1) = false := by rfl)
    (ht : eval (.Call (.Attribute o nm apos) (e :: es) [] pos) X.env = (do
      let ov ← eval o X.env
      standAt apos.atName
      let (f, first) ← holding [ov] (getMethod ov nm pl)
      callWith pos f first (backTo pos (starEach (e :: es) X.env)) (backToKw pos (keywordEach [] X.env))) := by rfl) :
    PE X (.Call (.Attribute o nm apos) (e :: es) [] pos) (tMeth C nm sp [] E0 ta t) := by
  have D' := D
  obtain ⟨f, fd, F, m, b⟩ := D'
  exact pe_meth he c m F hr b .nil pass0 ha hst hpl ht
theorem pe_di (D : DefI X.prog X.w X.K X.mg X.base C k ps sp) (hr : Room (k + 1) X.A) (hg : Gl X nm) (hm : X.mg nm = some (.ref C)) (hdb : (nm == ("__debug__" : Str)) = false := by decide) :
    PE X (.Call (.Name nm p) [] [] pos) (tMake C sp [] E0 tNil) := by
  have D' := D
  obtain ⟨f, fd, F, m, b⟩ := D'
  exact pe_make0 m F hr hg hm b .nil pass0 hdb
/-- a def that an expression gives is called -/
def RunF (X : Cx) (f : Addr) (vs : List V) (H : Hp) (Q : VK) : Prop := ∃ (k : Nat) (fd : FuncData) (ps : List Str) (sp : Sp), FnOk X.prog X.w X.K X.mg X.base CX0 k f fd ps sp ∧ Room k X.A ∧ Binds X.K fd ps [] ∧ sp vs H Q E0
def tCallF (X : Cx) (tf : TE) (t : TA) : TE := fun σ H Q => tf σ H fun y H1 => ∃ f, y = .ref f ∧ PySem.W.keepIn X.K (.ref f) = true ∧ t σ H1 fun vs H2 => RunF X f vs H2 Q
theorem pe_callF (hf : PE X fe tf) (ha : PA X (e :: es) t)
    (ht : eval (.Call fe (e :: es) [] pos) X.env = (do callWith pos (← eval fe X.env) [] (backTo pos (starEach (e :: es) X.env)) (backToKw pos (keywordEach [] X.env))) := by rfl)
    (he : starEach (e :: es) X.env = (false, eval e X.env) :: starEach es X.env := by rfl) (hpl : (backTo pos (starEach es X.env)).any (·.1) = false := by rfl) : PE X (.Call fe (e :: es) [] pos) (tCallF X tf t) := by
  refine ⟨fun pins s σ H Q I h => ?_⟩
  refine Call_ (thn (hf.run pins s σ H _ I h) fun u s1 ⟨y, H1, I1, ry, f, ey, hk, q⟩ => ?_) ht
  subst ey
  obtain rfl : u = Value.ref f := ry
  refine PySem.W.callWith_K (h₀ := X.base) I.ok.mod.kin hk (thn (ha.run pos pins s1 σ H1 _ I1 q) fun us s2 ⟨vs, H2, I2, r, k, fd, ps, sp, F, hr, hb, q2⟩ => ⟨I2.kIn, ?_⟩) he hpl
  exact run_fn F hr hb .nil pass0 I2 r (by rw [List.append_nil]; exact q2)
end
end Sr
/-! SrG: the small defs. -/
namespace Sr
open PySem PySem.Spec PyProof.Rows L2
local macro_rules | `(tactic| walk_at "tp") => `(tactic| first
  | exact Tp.refl _
  | assumption
  | exact Gr.tp (by assumption)
  | (refine Tp.trans ?_ (by first | assumption | exact Gr.tp (by assumption)); walk_at "tp"))
local macro_rules | `(tactic| walk_at "gr") => `(tactic| first
  | exact Gr.refl _ _
  | assumption
  | exact Gr.any (by assumption)
  | (refine Gr.trans ?_ (by first | assumption | exact Gr.any (by assumption)); walk_at "gr"))
local macro_rules | `(tactic| walk_at "rep") => `(tactic| first
  | exact Rep.int _ | exact Rep.str _ | exact Rep.bl _ | exact Rep.non
  | assumption
  | (refine Rep.mono ?_ (by assumption); walk_at "tp"))
local macro_rules | `(tactic| walk_at "repl") => `(tactic| repeat first
  | exact RepL.nil
  | (apply RepL.cons; (· walk_at "rep")))
local macro_rules | `(tactic| walk_at "step") => `(tactic| first
  | ((with_reducible apply w_var); rfl)
  | (with_reducible apply w_c)
  | (with_reducible apply w_op)
  | (with_reducible apply w_I0)
  | ((with_reducible apply w_ix); (· assumption); (· walk_at "tp"); (· decide); (· rfl); (intro x hx; first | (have e := Rep.intI hx; subst e; clear hx) | (have e := Rep.strI hx; subst e; clear hx) | (have e := Rep.blI hx; subst e; clear hx) | skip))
  | ((with_reducible apply w_ixU); (· assumption); (· walk_at "tp"); (· decide); (· rfl))
  | (with_reducible apply w_eqS)
  | (with_reducible apply w_eqI)
  | (with_reducible apply w_eqB)
  | (with_reducible apply w_neB)
  | (with_reducible apply w_test)
  | (with_reducible apply w_tB)
  | (with_reducible apply w_and)
  | (with_reducible apply w_or)
  | (with_reducible apply w_not)
  | (with_reducible apply w_nil)
  | (with_reducible apply w_cons)
  | (with_reducible apply w_CB)
  | (with_reducible apply w_call)
  | (with_reducible apply w_seq)
  | (with_reducible apply w_asg)
  | (with_reducible apply w_gname)
  | (with_reducible apply w_drop)
  | (with_reducible apply w_ret)
  | (with_reducible apply w_ifS)
  | (with_reducible apply w_next)
  | (with_reducible apply w_ifE)
  | (with_reducible apply w_andV)
  | (with_reducible apply w_orV)
  | (with_reducible apply w_notV)
  | (with_reducible apply w_tupE)
  | (with_reducible apply w_lstE)
  | (with_reducible apply w_bl)
  | ((with_reducible apply w_aug); rfl)
  | (with_reducible apply w_ip)
  | (with_reducible apply w_for1)
  | (with_reducible apply w_for2)
  | (with_reducible apply w_forT)
  | (with_reducible apply w_forL)
  | ((with_reducible apply w_lenD); (· assumption); (· walk_at "tp"))
  | (with_reducible apply w_min)
  | (with_reducible apply w_intI)
  | (with_reducible apply w_intB)
  | ((with_reducible apply w_I); (· first | decide | exact (by decide : (1000 : Int) ≠ 0) | exact ⟨by decide, by decide⟩ | exact ⟨by decide, by decide, by decide⟩ | exact .inr ⟨by decide, by decide⟩ | exact .inl ⟨by decide, by decide⟩))
  | (with_reducible apply w_bm)
  | (with_reducible apply w_bm0)
  | ((with_reducible apply w_tyL); (· assumption))
  | (with_reducible apply w_gsub)
  | (with_reducible apply w_fld)
  | (with_reducible apply w_gcons)
  | (with_reducible apply w_gnil)
  | ((with_reducible apply w_gtup); (· assumption); (· walk_at "tp"); (· rfl))
  | (with_reducible apply w_meth)
  | (with_reducible apply w_lc1)
  | (with_reducible apply w_lcL)
  | (with_reducible apply w_lcT)
  | (with_reducible apply w_yes)
  | (with_reducible apply w_m1)
  | (with_reducible apply w_dnotin)
  | (with_reducible apply w_din)
  | (with_reducible apply w_dget)
  | (with_reducible apply w_dput)
  | ((with_reducible apply w_ixL); (· assumption); (· decide); (· rfl)))
local macro_rules | `(tactic| walk_at "go") => `(tactic| repeat walk_at "step")
local macro_rules | `(tactic| walk_at "set") => `(tactic| dsimp only [List.set_cons_succ, List.set_cons_zero])

section
variable {P : Program} {w : World} {K : PySem.W.Frag} {mg : Str → Option Value} {base : Heap}
/-! ### extent, piece, is_strip -/
def spExtent : Sp := fun vs H Q _ => ∃ (v0 v1 : V) (ac : Bool) (nm jt : Str) (e : Ex) (r : Rg), vs = [v0, v1] ∧ Rep H (encPart (.strip ac nm jt e)) v0 ∧ Rep H (encRg r) v1 ∧ Q (.int (ext ac r)) H
theorem sc_extent : FnScope ["part", "region"] ["part", "region"] (defScope (top 14)) := ⟨rfl, rfl, rfl, by decide +kernel, rfl, by decide +kernel, by decide +kernel⟩
theorem ok_extent (R : Raw K mg "extent" (top 14) ["part", "region"]) : Def P w K mg base 1 "extent" ["part", "region"] spExtent := by
  refine R.ok sc_extent (fun vs H Q E h => ?_) (fun f cdv A outer s H vs Q E hr h => ?_)
  · obtain ⟨_, _, _, _, _, _, _, rfl, _⟩ := h; rfl
  obtain ⟨v0, v1, ac, nm, jt, e, r, rfl, h0, h1, q⟩ := h
  refine ⟨_, (pss_cons (ps_if (pt_cmpR op_eq (pe_ix ix_seq (pv 0) pe_int (fun _ _ => rfl)) pe_str (nomark _))
      (pss_one (ps_ret (pe_ix ix_seq (pv 1) pe_int (fun _ _ => rfl))))
      pss_nil)
    (pss_one (ps_ret (pe_ix ix_seq (pv 1) pe_int (fun _ _ => rfl))))), ?_⟩
  walk_at "go"
  cases ac
  · refine if_of (fun h => ?_) (fun h => ?_)
    · exact absurd h (by decide +kernel)
    · walk_at "go"
      exact q
  · refine if_of (fun h => ?_) (fun h => ?_)
    · walk_at "go"
      exact q
    · exact absurd h (by decide +kernel)

def spPiece : Sp := fun vs H Q _ => ∃ (v0 v1 : V) (ac : Bool) (nm jt : Str) (e : Ex) (r : Rg) (off n sz : Nat), vs = [v0, v1, .int off, .int n, .int sz] ∧ Rep H (encPart (.strip ac nm jt e)) v0 ∧ Rep H (encRg r) v1 ∧
  ∀ v H', Gr S0 H H' → Rep H' (encRg (piece ac r n off sz)) v → Q v H'
theorem sc_piece : FnScope ["part", "region", "offset", "number", "size"] ["part", "region", "offset", "number", "size"] (defScope (top 15)) := ⟨rfl, rfl, rfl, by decide +kernel, rfl, by decide +kernel, by decide +kernel⟩
theorem ok_piece (R : Raw K mg "piece" (top 15) ["part", "region", "offset", "number", "size"]) : Def P w K mg base 1 "piece" ["part", "region", "offset", "number", "size"] spPiece := by
  refine R.ok sc_piece (fun vs H Q E h => ?_) (fun f cdv A outer s H vs Q E hr h => ?_)
  · obtain ⟨_, _, _, _, _, _, _, _, _, _, rfl, _⟩ := h; rfl
  obtain ⟨v0, v1, ac, nm, jt, e, r, off, n, sz, rfl, h0, h1, q⟩ := h
  refine ⟨_, (pss_cons (ps_if (pt_cmpR op_eq (pe_ix ix_seq (pv 0) pe_int (fun _ _ => rfl)) pe_str (nomark _))
      (pss_one (ps_ret (pe_tup (pa_cons (pv 3) (pa_cons (pe_op op_add (pe_ix ix_seq (pv 1) pe_int (fun _ _ => rfl)) (pv 2)) (pa_cons (pe_ix ix_seq (pv 1) pe_int (fun _ _ => rfl)) (pa_cons (pv 4) (pa_cons (pe_ix ix_seq (pv 1) pe_int (fun _ _ => rfl)) pa_nil))))))))
      pss_nil)
    (pss_one (ps_ret (pe_tup (pa_cons (pv 3) (pa_cons (pe_ix ix_seq (pv 1) pe_int (fun _ _ => rfl)) (pa_cons (pe_op op_add (pe_ix ix_seq (pv 1) pe_int (fun _ _ => rfl)) (pv 2)) (pa_cons (pe_ix ix_seq (pv 1) pe_int (fun _ _ => rfl)) (pa_cons (pv 4) pa_nil))))))))), ?_⟩
  walk_at "go"
  cases ac
  · refine if_of (fun h => absurd h (by decide +kernel)) (fun h => ?_)
    walk_at "go"
    refine tup_new (by walk_at "repl") (by simp) fun p H' _ _ g hp => q _ _ g hp
  · refine if_of (fun h => ?_) (fun h => absurd h (by decide +kernel))
    walk_at "go"
    refine tup_new (by walk_at "repl") (by simp) fun p H' _ _ g hp => q _ _ g hp
/-! ### leaves -/
/-- the rows of a shape: all of one length, at least one -/
def RowsOk (rows : List Str) : Prop := 1 ≤ rows.length ∧ rows.length ≤ 8 ∧ ∃ wd, 1 ≤ wd ∧ wd ≤ 8 ∧ ∀ z ∈ rows, z.length = wd
def LeafOk : Part → Prop
  | .plain _ _ _ _ => True
  | .shape _ _ _ rows => RowsOk rows
  | .strip _ _ _ _ => False
def wd0 (rows : List Str) : Nat := (rows.getD 0 Str.empty).length
def fitsB (p : Part) (r : Rg) : Bool := match p with
  | .plain _ _ _ _ => true
  | .shape _ _ _ rows => decide (r.w = wd0 rows ∧ r.h = rows.length)
  | .strip _ _ _ _ => false
/-- what a leaf draws at a place counted from its corner -/
def leafPix (p : Part) (x y : Nat) : Bool := match p with
  | .plain _ _ _ b => b
  | .shape _ _ _ rows => black (rows.getD y Str.empty) x
  | .strip _ _ _ _ => false
def spIsStrip : Sp := fun vs H Q _ => ∃ (v0 : V) (p : Part), vs = [v0] ∧ Rep H (encPart p) v0 ∧ ∀ H', Gr S0 H H' → Q (.bl (isStrip p)) H'
theorem sc_is_strip : FnScope ["part"] ["part"] (defScope (top 1)) := ⟨rfl, rfl, rfl, by decide +kernel, rfl, by decide +kernel, by decide +kernel⟩
theorem ok_is_strip (R : Raw K mg "is_strip" (top 1) ["part"]) : Def P w K mg base 1 "is_strip" ["part"] spIsStrip := by
  refine R.ok sc_is_strip (fun vs H Q E h => ?_) (fun f cdv A outer s H vs Q E hr h => ?_)
  · obtain ⟨_, _, rfl, _⟩ := h; rfl
  obtain ⟨v0, p, rfl, h0, q⟩ := h
  refine ⟨_, (pss_one (ps_ret (pe_cmpR (os_in (K := K) rfl) (pe_ix (ix_sq (K := K) rfl) (pv 0) pe_int (fun _ _ => rfl)) (pe_tup (pa_cons pe_str (pa_cons pe_str pa_nil))) (by rfl)))), ?_⟩
  have fin : ∀ (z : Str) (b : Bool), inV (.str z) [.str "across", .str "down"] = b → isStrip p = b → NewTup [.str "across", .str "down"] H (fun y H2 => rIn K false (.str z) y H2 Q) := fun z b e1 e2 =>
    ⟨by decide, fun a ha => ⟨a, _, rfl, .inr (SqT.of upd_same), rfl, rfl, by
      show Q (.bl (inV _ _)) _
      rw [e1, ← e2]; exact q _ (Gr.new ha)⟩⟩
  cases p with
  | plain nm lb c b => walk_at "go"; exact fin _ false (by decide +kernel) rfl
  | shape nm lb c rows => walk_at "go"; exact fin _ false (by decide +kernel) rfl
  | strip ac nm jt e => 
    walk_at "go"
    cases ac
    · exact fin _ true (by decide +kernel) rfl
    · exact fin _ true (by decide +kernel) rfl
/-! ### pixels -/
/-- an image: rows of one length -/
def ImgOk (img : List Str) : Prop := 1 ≤ img.length ∧ img.length ≤ 1000 ∧ ∃ wd, wd ≤ 1000 ∧ ∀ z ∈ img, z.length = wd
def pix (img : List Str) (x y : Nat) : Bool := decide (y < img.length) && (decide (x < wd0 img) && black (img.getD y Str.empty) x)
theorem getD_get {l : List Str} {i : Nat} (h : i < l.length) : l[i]? = some (l.getD i Str.empty) := by
  rw [List.getElem?_eq_getElem h, List.getD_eq_getElem?_getD, List.getElem?_eq_getElem h]; rfl
theorem enc_get {l : List Str} {i : Nat} (h : i < l.length) : (l.map PyData.str)[i]? = some (.str (l.getD i Str.empty)) := by
  rw [List.getElem?_map, getD_get h]; rfl
theorem mem_getD {l : List Str} {i : Nat} (h : i < l.length) : l.getD i Str.empty ∈ l := List.mem_of_getElem? (getD_get h)
theorem hash_eq (c : Nat) : decide ((⟨#[c]⟩ : Str) = "#") = decide (some c = some 35) := by
  have e : ("#" : Str) = ⟨#[35]⟩ := by decide +kernel
  rw [e]
  by_cases h : c = 35
  · subst h; rfl
  · rw [decide_eq_false (show ¬ some c = some 35 from fun z => h (Option.some.inj z)), decide_eq_false]
    intro z
    injection z with z
    have := congrArg (fun a : Array Nat => a.toList) z
    simp at this
    exact h this
theorem black_of {z : Str} {x c : Nat} (h : z.cps.toList[x]? = some c) : decide ((⟨#[c]⟩ : Str) = "#") = black z x := by
  rw [hash_eq, black, h]
theorem str_get {z : Str} {x : Nat} (h : x < z.length) : ∃ c, z.cps.toList[x]? = some c := by
  refine ⟨_, List.getElem?_eq_getElem (by rw [Array.length_toList]; exact h)⟩
def spPixel : Sp := fun vs H Q _ => ∃ (v0 : V) (img : List Str) (x y : Nat), vs = [v0, .int x, .int y] ∧ Rep H (.tuple (img.map PyData.str)) v0 ∧ ImgOk img ∧ Q (.bl (pix img x y)) H
theorem sc_pixel : FnScope ["rows", "x", "y"] ["rows", "x", "y"] (defScope (top 22)) := ⟨rfl, rfl, rfl, by decide +kernel, rfl, by decide +kernel, by decide +kernel⟩
theorem ok_pixel (R : Raw K mg "pixel" (top 22) ["rows", "x", "y"]) (B : Bi mg) : Def P w K mg base 1 "pixel" ["rows", "x", "y"] spPixel := by
  refine R.ok sc_pixel (fun vs H Q E h => ?_) (fun f cdv A outer s H vs Q E hr h => ?_)
  · obtain ⟨_, _, _, _, rfl, _⟩ := h; rfl
  obtain ⟨v0, img, x, y, rfl, h0, ⟨i1, i2, wd, i4, i3⟩, q⟩ := h
  refine ⟨_, (pss_cons (ps_if (PW.pt (pw_or (pt_cmpR op_lt (pv 1) pe_int (nomark _)) (pw_or (pt_cmpR op_lt (pv 2) pe_int (nomark _)) (pw_or (pt_cmpR op_ge (pv 2) (pe_callB (ck_len (K := K) rfl) (by rfl) B.len bo_len (pa_cons (pv 0) pa_nil)) (nomark _)) (pw_or1 (pt_cmpR op_ge (pv 1) (pe_callB (ck_len (K := K) rfl) (by rfl) B.len bo_len (pa_cons (pe_ix (ix_sq (K := K) rfl) (pv 0) pe_int (fun _ _ => rfl)) pa_nil)) (nomark _)))))))
      (pss_one (ps_ret pe_bl))
      pss_nil)
    (pss_one (ps_ret (pe_cmpR op_eq (pe_ix (ix_sq (K := K) rfl) (pe_ix (ix_sq (K := K) rfl) (pv 0) (pv 2) (fun _ _ => rfl)) (pv 1) (fun _ _ => rfl)) pe_str (nomark _))))), ?_⟩
  walk_at "go"
  refine if_of (fun h => ?_) (fun h => ?_)
  · have := of_decide_eq_true h; omega
  walk_at "go"
  refine if_of (fun h => ?_) (fun h => ?_)
  · have := of_decide_eq_true h; omega
  walk_at "go"
  rw [List.length_map]
  walk_at "go"
  refine if_of (fun h => ?_) (fun h => ?_)
  · have h2 := of_decide_eq_true h
    walk_at "go"
    refine if_of (fun _ => ?_) (fun h => absurd h (by decide))
    walk_at "go"
    have e : pix img x y = false := by
      unfold pix
      rw [decide_eq_false (by omega)]; rfl
    rw [e] at q; exact q
  have hy : y < img.length := by have := of_decide_eq_false h; omega
  walk_at "go"
  refine w_ix h0 (Tp.refl _) (by decide) (enc_get (l := img) (i := 0) (by omega)) (fun z hz => ?_)
  have e := Rep.strI hz; subst e
  have hw : (img.getD 0 Str.empty).length = wd := i3 _ (mem_getD (by omega))
  walk_at "go"
  refine w_lenS ?_ ?_
  · omega
  walk_at "go"
  refine if_of (fun h => ?_) (fun h => ?_)
  · walk_at "go"
    have h2 := of_decide_eq_true h
    have e : pix img x y = false := by
      unfold pix wd0
      rw [decide_eq_false (show ¬ x < _ by omega), Bool.false_and, Bool.and_false]
    rw [e] at q; exact q
  have hx : x < (img.getD 0 Str.empty).length := by have := of_decide_eq_false h; omega
  have hr' : (img.getD y Str.empty).length = wd := i3 _ (mem_getD hy)
  walk_at "go"
  refine w_ix h0 (Tp.refl _) (by omega) (by rw [Int.toNat_natCast]; exact enc_get hy) (fun z hz => ?_)
  have e := Rep.strI hz; subst e
  obtain ⟨c, hc⟩ := str_get (z := img.getD y Str.empty) (x := x) (by omega)
  walk_at "go"
  refine w_ixS (by omega) (by omega) (by rw [Int.toNat_natCast]; exact hc) ?_
  walk_at "go"
  rw [black_of hc]
  have e : pix img x y = black (img.getD y Str.empty) x := by
    unfold pix wd0
    rw [decide_eq_true hy, decide_eq_true hx]; rfl
  rw [e] at q; exact q
def spLeafPixel : Sp := fun vs H Q _ => ∃ (v0 : V) (p : Part) (r : Rg) (x y : Nat), vs = [v0, .int x, .int y] ∧ Rep H (encPart p) v0 ∧ LeafOk p ∧ fitsB p r = true ∧ x < r.w ∧ y < r.h ∧ Q (.bl (leafPix p x y)) H
theorem sc_leaf_pixel : FnScope ["part", "x", "y"] ["part", "x", "y"] (defScope (top 26)) := ⟨rfl, rfl, rfl, by decide +kernel, rfl, by decide +kernel, by decide +kernel⟩
theorem ok_leaf_pixel (R : Raw K mg "leaf_pixel" (top 26) ["part", "x", "y"]) : Def P w K mg base 1 "leaf_pixel" ["part", "x", "y"] spLeafPixel := by
  refine R.ok sc_leaf_pixel (fun vs H Q E h => ?_) (fun f cdv A outer s H vs Q E hr h => ?_)
  · obtain ⟨_, _, _, _, _, rfl, _⟩ := h; rfl
  obtain ⟨v0, p, r, x, y, rfl, h0, lo, hf, hx, hy, q⟩ := h
  refine ⟨_, (pss_cons (ps_if (pt_cmpR op_eq (pe_ix (ix_sq (K := K) rfl) (pv 0) pe_int (fun _ _ => rfl)) pe_str (nomark _))
      (pss_one (ps_ret (pe_ix (ix_sq (K := K) rfl) (pv 0) pe_int (fun _ _ => rfl))))
      pss_nil)
    (pss_one (ps_ret (pe_cmpR op_eq (pe_ix (ix_sq (K := K) rfl) (pe_ix (ix_sq (K := K) rfl) (pe_ix (ix_sq (K := K) rfl) (pv 0) pe_int (fun _ _ => rfl)) (pv 2) (fun _ _ => rfl)) (pv 1) (fun _ _ => rfl)) pe_str (nomark _))))), ?_⟩
  walk_at "go"
  cases p with
  | strip => exact absurd lo id
  | plain nm lb c b =>
    walk_at "go"
    refine if_of (fun h => ?_) (fun h => absurd h (by decide +kernel))
    walk_at "go"
    exact q
  | shape nm lb c rows =>
    walk_at "go"
    refine if_of (fun h => absurd h (by decide +kernel)) (fun h => ?_)
    have hf' := of_decide_eq_true hf
    obtain ⟨l1, l2, wd, l3, l5, l4⟩ := lo
    have hw : wd0 rows = wd := l4 _ (mem_getD (by omega))
    have hr' : (rows.getD y Str.empty).length = wd := l4 _ (mem_getD (by omega))
    obtain ⟨c, hc⟩ := str_get (z := rows.getD y Str.empty) (x := x) (by omega)
    walk_at "go"
    refine w_ix (by assumption) (Tp.refl _) (by omega) (by rw [Int.toNat_natCast]; exact enc_get (by omega)) (fun z hz => ?_)
    have e := Rep.strI hz; subst e
    walk_at "go"
    refine w_ixS (by omega) (by omega) (by rw [Int.toNat_natCast]; exact hc) ?_
    walk_at "go"
    rw [black_of hc]
    exact q
def spFits : Sp := fun vs H Q _ => ∃ (v0 v1 : V) (p : Part) (r : Rg), vs = [v0, v1] ∧ Rep H (encPart p) v0 ∧ Rep H (encRg r) v1 ∧ LeafOk p ∧ Q (.bl (fitsB p r)) H
theorem sc_fits : FnScope ["part", "region"] ["part", "region"] (defScope (top 27)) := ⟨rfl, rfl, rfl, by decide +kernel, rfl, by decide +kernel, by decide +kernel⟩
theorem ok_fits (R : Raw K mg "fits" (top 27) ["part", "region"]) (B : Bi mg) : Def P w K mg base 1 "fits" ["part", "region"] spFits := by
  refine R.ok sc_fits (fun vs H Q E h => ?_) (fun f cdv A outer s H vs Q E hr h => ?_)
  · obtain ⟨_, _, _, _, rfl, _⟩ := h; rfl
  obtain ⟨v0, v1, p, r, rfl, h0, h1, lo, q⟩ := h
  refine ⟨_, (pss_cons (ps_if (pt_cmpR op_eq (pe_ix (ix_sq (K := K) rfl) (pv 0) pe_int (fun _ _ => rfl)) pe_str (nomark _))
      (pss_one (ps_ret pe_bl))
      pss_nil)
    (pss_one (ps_ret (pe_and (pe_cmpR op_eq (pe_ix (ix_sq (K := K) rfl) (pv 1) pe_int (fun _ _ => rfl)) (pe_callB (ck_len (K := K) rfl) (by rfl) B.len bo_len (pa_cons (pe_ix (ix_sq (K := K) rfl) (pe_ix (ix_sq (K := K) rfl) (pv 0) pe_int (fun _ _ => rfl)) pe_int (fun _ _ => rfl)) pa_nil)) (nomark _)) (pe_one (pe_cmpR op_eq (pe_ix (ix_sq (K := K) rfl) (pv 1) pe_int (fun _ _ => rfl)) (pe_callB (ck_len (K := K) rfl) (by rfl) B.len bo_len (pa_cons (pe_ix (ix_sq (K := K) rfl) (pv 0) pe_int (fun _ _ => rfl)) pa_nil)) (nomark _))))))), ?_⟩
  walk_at "go"
  cases p with
  | strip => exact absurd lo id
  | plain nm lb c b =>
    walk_at "go"
    refine if_of (fun h => ?_) (fun h => absurd h (by decide +kernel))
    walk_at "go"
    exact q
  | shape nm lb c rows =>
    walk_at "go"
    refine if_of (fun h => absurd h (by decide +kernel)) (fun h => ?_)
    obtain ⟨l1, l2, wd, l3, l5, l4⟩ := lo
    have hw : wd0 rows = wd := l4 _ (mem_getD (by omega))
    have hw' : (rows.getD 0 Str.empty).length = wd := hw
    walk_at "go"
    refine w_ix (by assumption) (Tp.refl _) (by decide) (enc_get (l := rows) (i := 0) (by omega)) (fun z hz => ?_)
    have e := Rep.strI hz; subst e
    walk_at "go"
    refine w_lenS ?_ ?_
    · omega
    walk_at "go"
    refine if_of (fun h => ?_) (fun h => ?_)
    · have h2 := of_decide_eq_true h
      walk_at "go"
      rw [List.length_map]
      have e : fitsB (.shape nm lb c rows) r = decide ((r.h : Int) = (rows.length : Nat)) := by
        show decide _ = decide _
        refine decide_eq_decide.mpr ?_
        show r.w = wd0 rows ∧ _ ↔ _
        unfold wd0
        omega
      rw [e] at q; exact q
    · have h2 := of_decide_eq_false h
      have e : fitsB (.shape nm lb c rows) r = false := by
        refine decide_eq_false ?_
        unfold wd0
        omega
      rw [e] at q; exact q
end
end Sr
/-! SrH: the cost of a leaf; the law's own small defs. -/
namespace Sr
open PySem PySem.Spec PyProof.Rows L2
local macro_rules | `(tactic| walk_at "tp") => `(tactic| first
  | exact Tp.refl _
  | assumption
  | exact Gr.tp (by assumption)
  | (refine Tp.trans ?_ (by first | assumption | exact Gr.tp (by assumption)); walk_at "tp"))
local macro_rules | `(tactic| walk_at "gr") => `(tactic| first
  | exact Gr.refl _ _
  | assumption
  | exact Gr.any (by assumption)
  | (refine Gr.trans ?_ (by first | assumption | exact Gr.any (by assumption)); walk_at "gr"))
local macro_rules | `(tactic| walk_at "rep") => `(tactic| first
  | exact Rep.int _ | exact Rep.str _ | exact Rep.bl _ | exact Rep.non
  | assumption
  | (refine Rep.mono ?_ (by assumption); walk_at "tp"))
local macro_rules | `(tactic| walk_at "repl") => `(tactic| repeat first
  | exact RepL.nil
  | (apply RepL.cons; (· walk_at "rep")))
local macro_rules | `(tactic| walk_at "step") => `(tactic| first
  | ((with_reducible apply w_var); rfl)
  | (with_reducible apply w_c)
  | (with_reducible apply w_op)
  | (with_reducible apply w_I0)
  | ((with_reducible apply w_ix); (· assumption); (· walk_at "tp"); (· decide); (· rfl); (intro x hx; first | (have e := Rep.intI hx; subst e; clear hx) | (have e := Rep.strI hx; subst e; clear hx) | (have e := Rep.blI hx; subst e; clear hx) | skip))
  | ((with_reducible apply w_ixU); (· assumption); (· walk_at "tp"); (· decide); (· rfl))
  | (with_reducible apply w_eqS)
  | (with_reducible apply w_eqI)
  | (with_reducible apply w_eqB)
  | (with_reducible apply w_neB)
  | (with_reducible apply w_test)
  | (with_reducible apply w_tB)
  | (with_reducible apply w_and)
  | (with_reducible apply w_or)
  | (with_reducible apply w_not)
  | (with_reducible apply w_nil)
  | (with_reducible apply w_cons)
  | (with_reducible apply w_CB)
  | (with_reducible apply w_call)
  | (with_reducible apply w_seq)
  | (with_reducible apply w_asg)
  | (with_reducible apply w_gname)
  | (with_reducible apply w_drop)
  | (with_reducible apply w_ret)
  | (with_reducible apply w_ifS)
  | (with_reducible apply w_next)
  | (with_reducible apply w_ifE)
  | (with_reducible apply w_andV)
  | (with_reducible apply w_orV)
  | (with_reducible apply w_notV)
  | (with_reducible apply w_tupE)
  | (with_reducible apply w_lstE)
  | (with_reducible apply w_bl)
  | ((with_reducible apply w_aug); rfl)
  | (with_reducible apply w_ip)
  | (with_reducible apply w_for1)
  | (with_reducible apply w_for2)
  | (with_reducible apply w_forT)
  | (with_reducible apply w_forL)
  | ((with_reducible apply w_lenD); (· assumption); (· walk_at "tp"))
  | (with_reducible apply w_min)
  | (with_reducible apply w_intI)
  | (with_reducible apply w_intB)
  | ((with_reducible apply w_I); (· first | decide | exact (by decide : (1000 : Int) ≠ 0) | exact ⟨by decide, by decide⟩ | exact ⟨by decide, by decide, by decide⟩ | exact .inr ⟨by decide, by decide⟩ | exact .inl ⟨by decide, by decide⟩))
  | (with_reducible apply w_bm)
  | (with_reducible apply w_bm0)
  | ((with_reducible apply w_tyL); (· assumption))
  | (with_reducible apply w_gsub)
  | (with_reducible apply w_fld)
  | (with_reducible apply w_gcons)
  | (with_reducible apply w_gnil)
  | ((with_reducible apply w_gtup); (· assumption); (· walk_at "tp"); (· rfl))
  | (with_reducible apply w_meth)
  | (with_reducible apply w_lc1)
  | (with_reducible apply w_lcL)
  | (with_reducible apply w_lcT)
  | (with_reducible apply w_yes)
  | (with_reducible apply w_m1)
  | (with_reducible apply w_dnotin)
  | (with_reducible apply w_din)
  | (with_reducible apply w_dget)
  | (with_reducible apply w_dput)
  | ((with_reducible apply w_ixL); (· assumption); (· decide); (· rfl)))
local macro_rules | `(tactic| walk_at "go") => `(tactic| repeat walk_at "step")
local macro_rules | `(tactic| walk_at "set") => `(tactic| dsimp only [List.set_cons_succ, List.set_cons_zero])

def sumN : Nat → (Nat → Nat) → Nat
  | 0, _ => 0
  | n + 1, f => sumN n f + f n
/-- in how many pixels of w by h two drawings differ -/
def diffN (w h : Nat) (f g : Nat → Nat → Bool) : Nat := sumN h fun y => sumN w fun x => b2 (f x y != g x y)
def pcost : Part → Nat
  | .plain _ _ c _ => c
  | .shape _ _ c _ => c
  | .strip _ _ _ _ => 0
def leafCost (img : List Str) (p : Part) (r : Rg) : Nat := pcost p + diffN r.w r.h (fun x y => pix img (r.x + x) (r.y + y)) (leafPix p)
def RgOk (r : Rg) : Prop := r.n ≤ 1000 ∧ r.x ≤ 1000 ∧ r.y ≤ 1000 ∧ r.w ≤ 1000 ∧ r.h ≤ 1000
section
variable {P : Program} {w : World} {K : PySem.W.Frag} {mg : Str → Option Value} {base : Heap}
theorem leaf3 {p : Part} (lo : LeafOk p) : ∃ ds d4, encPart p = .tuple ds ∧ ds[0]? = some (.str (match p with | .plain _ _ _ _ => "plain" | _ => "shape")) ∧ ds[3]? = some (.int (pcost p)) ∧ ds[4]? = some d4 := by
  cases p with
  | plain nm lb c b => exact ⟨_, _, rfl, rfl, rfl, rfl⟩
  | shape nm lb c rows => exact ⟨_, _, rfl, rfl, rfl, rfl⟩
  | strip => exact absurd lo id
def spLeafCost : Sp := fun vs H Q _ => ∃ (v0 v1 v2 : V) (p : Part) (r : Rg) (img : List Str), vs = [v0, v1, v2] ∧ Rep H (encPart p) v0 ∧ Rep H (encRg r) v1 ∧ Rep H (.tuple (img.map PyData.str)) v2 ∧ LeafOk p ∧ fitsB p r = true ∧ RgOk r ∧ ImgOk img ∧
  Q (.int (leafCost img p r : Nat)) H
theorem sc_leaf_cost : FnScope ["part", "region", "rows", "total", "y", "x"] ["part", "region", "rows"] (defScope (top 28)) := ⟨rfl, rfl, rfl, by decide +kernel, rfl, by decide +kernel, by decide +kernel⟩
theorem ok_leaf_cost (R : Raw K mg "leaf_cost" (top 28) ["part", "region", "rows"]) (B : Bi mg) (D_pixel : Def P w K mg base 1 "pixel" ["rows", "x", "y"] spPixel) (D_leaf_pixel : Def P w K mg base 1 "leaf_pixel" ["part", "x", "y"] spLeafPixel) : Def P w K mg base 2 "leaf_cost" ["part", "region", "rows"] spLeafCost := by
  refine R.ok sc_leaf_cost (fun vs H Q E h => ?_) (fun f cdv A outer s H vs Q E hr h => ?_)
  · obtain ⟨_, _, _, _, _, _, rfl, _⟩ := h; rfl
  obtain ⟨v0, v1, v2, p, r, img, rfl, h0, h1, h2, lo, hf, ⟨b1, b2', b3, b4, b5⟩, io, q⟩ := h
  refine ⟨_, (pss_cons (ps_set (i := 3) sc_leaf_cost.nd rfl (.inl rfl) (pe_ix (ix_sq (K := K) rfl) (pv 0) pe_int (fun _ _ => rfl)))
    (pss_cons (ps_for PassesOwn.never rfl (pi_range1 (by rfl) B.range (pa_cons (pe_ix (ix_sq (K := K) rfl) (pv 1) pe_int (fun _ _ => rfl)) pa_nil)) (pg_name (i := 4) sc_leaf_cost.nd rfl (.inl rfl))
      (pss_one (ps_for PassesOwn.never rfl (pi_range1 (by rfl) B.range (pa_cons (pe_ix (ix_sq (K := K) rfl) (pv 1) pe_int (fun _ _ => rfl)) pa_nil)) (pg_name (i := 5) sc_leaf_cost.nd rfl (.inl rfl))
        (pss_one (ps_if (pt_cmpR op_ne (pe_d D_pixel hr (by rfl) (pa_cons (pv 2) (pa_cons (pe_op op_add (pe_ix (ix_sq (K := K) rfl) (pv 1) pe_int (fun _ _ => rfl)) (pv 5)) (pa_cons (pe_op op_add (pe_ix (ix_sq (K := K) rfl) (pv 1) pe_int (fun _ _ => rfl)) (pv 4)) pa_nil)))) (pe_d D_leaf_pixel hr (by rfl) (pa_cons (pv 0) (pa_cons (pv 5) (pa_cons (pv 4) pa_nil)))) (nomark _))
          (pss_one (ps_aug (i := 3) sc_leaf_cost.nd rfl (.inl rfl) pe_int ip_add))
          pss_nil)))))
    (pss_one (ps_ret (pv 3))))), ?_⟩
  obtain ⟨ds, d4, e1, e2, e3, e4⟩ := leaf3 lo
  have h0' := h0
  rw [e1] at h0'
  walk_at "go"
  refine w_ix h0' (Tp.refl _) (by decide) e3 (fun x hx => ?_)
  have e := Rep.intI hx; subst e
  walk_at "go"
  refine rng1 (by omega) (fun i σ H' => H = H' ∧ ∃ a b, σ = [some v0, some v1, some v2, some (.int (pcost p + sumN i fun y => sumN r.w fun x => b2 (pix img (r.x + x) (r.y + y) != leafPix p x y) : Nat)), a, b]) ⟨rfl, none, none, rfl⟩ (fun y σ H' hy hp => ?_) (fun σ H' hp => ?_)
  · obtain ⟨rfl, a, b, rfl⟩ := hp
    walk_at "go"
    refine rng1 (by omega) (fun i σ H' => H = H' ∧ ∃ b, σ = [some v0, some v1, some v2, some (.int (pcost p + sumN y (fun y => sumN r.w fun x => b2 (pix img (r.x + x) (r.y + y) != leafPix p x y)) + sumN i (fun x => b2 (pix img (r.x + x) (r.y + y) != leafPix p x y)) : Nat)), some (.int (y : Nat)), b]) ⟨rfl, b, rfl⟩ (fun x σ H' hx hp => ?_) (fun σ H' hp => ?_)
    · obtain ⟨rfl, b, rfl⟩ := hp
      walk_at "go"
      refine ⟨v2, img, r.x + x, r.y + y, rfl, h2, io, ?_⟩
      walk_at "go"
      refine ⟨v0, p, r, x, y, rfl, h0, lo, hf, hx, hy, ?_⟩
      walk_at "go"
      refine if_of (fun h => ?_) (fun h => ?_)
      · walk_at "go"
        refine ⟨rfl, some (.int (x : Nat)), ?_⟩
        have e : sumN (x + 1) (fun x => b2 (pix img (r.x + x) (r.y + y) != leafPix p x y)) = sumN x (fun x => b2 (pix img (r.x + x) (r.y + y) != leafPix p x y)) + 1 := by
          show _ + b2 _ = _
          have : (pix img (r.x + x) (r.y + y) != leafPix p x y) = true := by
            cases h1 : pix img (r.x + x) (r.y + y) <;> cases h2 : leafPix p x y <;> simp [h1, h2] at h ⊢
          rw [this]; rfl
        rw [e]
        rfl
      · walk_at "go"
        refine ⟨rfl, some (.int (x : Nat)), ?_⟩
        have e : sumN (x + 1) (fun x => b2 (pix img (r.x + x) (r.y + y) != leafPix p x y)) = sumN x (fun x => b2 (pix img (r.x + x) (r.y + y) != leafPix p x y)) := by
          show _ + b2 _ = _
          have : (pix img (r.x + x) (r.y + y) != leafPix p x y) = false := by
            cases h1 : pix img (r.x + x) (r.y + y) <;> cases h2 : leafPix p x y <;> simp [h1, h2] at h ⊢
          rw [this]; rfl
        rw [e]
        rfl
    · obtain ⟨rfl, b, rfl⟩ := hp
      walk_at "go"
      exact ⟨rfl, _, b, by rw [Nat.add_assoc]; rfl⟩
  · obtain ⟨rfl, a, b, rfl⟩ := hp
    walk_at "go"
    exact q
/-! ### the law's own -/
def spLStrip : Sp := fun vs H Q _ => ∃ (v0 : V) (p : Part), vs = [v0] ∧ Rep H (encPart p) v0 ∧ Q (.bl (isStrip p)) H
theorem sc_l_strip : FnScope ["_law_part"] ["_law_part"] (defScope (top 41)) := ⟨rfl, rfl, rfl, by decide +kernel, rfl, by decide +kernel, by decide +kernel⟩
theorem ok_l_strip (R : Raw K mg "_law_strip" (top 41) ["_law_part"]) : Def P w K mg base 1 "_law_strip" ["_law_part"] spLStrip := by
  refine R.ok sc_l_strip (fun vs H Q E h => ?_) (fun f cdv A outer s H vs Q E hr h => ?_)
  · obtain ⟨_, _, rfl, _⟩ := h; rfl
  obtain ⟨v0, p, rfl, h0, q⟩ := h
  refine ⟨_, (pss_one (ps_ret (pe_or (pe_cmpR op_eq (pe_ix (ix_sq (K := K) rfl) (pv 0) pe_int (fun _ _ => rfl)) pe_str (nomark _)) (pe_one (pe_cmpR op_eq (pe_ix (ix_sq (K := K) rfl) (pv 0) pe_int (fun _ _ => rfl)) pe_str (nomark _)))))), ?_⟩
  cases p with
  | plain nm lb c b =>
    walk_at "go"
    refine if_of (fun h => absurd h (by decide +kernel)) fun _ => ?_
    walk_at "go"
    exact q
  | shape nm lb c rows =>
    walk_at "go"
    refine if_of (fun h => absurd h (by decide +kernel)) fun _ => ?_
    walk_at "go"
    exact q
  | strip ac nm jt e => 
    walk_at "go"
    cases ac
    · refine if_of (fun h => absurd h (by decide +kernel)) fun _ => ?_
      walk_at "go"
      exact q
    · refine if_of (fun h => ?_) fun h => absurd h (by decide +kernel)
      exact q
theorem sc_l_extent : FnScope ["_law_part", "_law_region"] ["_law_part", "_law_region"] (defScope (top 42)) := ⟨rfl, rfl, rfl, by decide +kernel, rfl, by decide +kernel, by decide +kernel⟩
theorem ok_l_extent (R : Raw K mg "_law_extent" (top 42) ["_law_part", "_law_region"]) : Def P w K mg base 1 "_law_extent" ["_law_part", "_law_region"] spExtent := by
  refine R.ok sc_l_extent (fun vs H Q E h => ?_) (fun f cdv A outer s H vs Q E hr h => ?_)
  · obtain ⟨_, _, _, _, _, _, _, rfl, _⟩ := h; rfl
  obtain ⟨v0, v1, ac, nm, jt, e, r, rfl, h0, h1, q⟩ := h
  refine ⟨_, (pss_cons (ps_if (pt_cmpR op_eq (pe_ix (ix_sq (K := K) rfl) (pv 0) pe_int (fun _ _ => rfl)) pe_str (nomark _))
      (pss_one (ps_ret (pe_ix (ix_sq (K := K) rfl) (pv 1) pe_int (fun _ _ => rfl))))
      pss_nil)
    (pss_one (ps_ret (pe_ix (ix_sq (K := K) rfl) (pv 1) pe_int (fun _ _ => rfl))))), ?_⟩
  walk_at "go"
  cases ac
  · refine if_of (fun h => absurd h (by decide +kernel)) (fun h => ?_)
    walk_at "go"
    exact q
  · refine if_of (fun h => ?_) (fun h => absurd h (by decide +kernel))
    walk_at "go"
    exact q
/-- _law_piece(part, region, number, offset, size) -/
def spLPiece : Sp := fun vs H Q _ => ∃ (v0 v1 : V) (ac : Bool) (nm jt : Str) (e : Ex) (r : Rg) (off n sz : Nat), vs = [v0, v1, .int n, .int off, .int sz] ∧ Rep H (encPart (.strip ac nm jt e)) v0 ∧ Rep H (encRg r) v1 ∧
  ∀ v H', Gr S0 H H' → Rep H' (encRg (piece ac r n off sz)) v → Q v H'
theorem sc_l_piece : FnScope ["_law_part", "_law_region", "_law_number", "_law_offset", "_law_size"] ["_law_part", "_law_region", "_law_number", "_law_offset", "_law_size"] (defScope (top 43)) := ⟨rfl, rfl, rfl, by decide +kernel, rfl, by decide +kernel, by decide +kernel⟩
theorem ok_l_piece (R : Raw K mg "_law_piece" (top 43) ["_law_part", "_law_region", "_law_number", "_law_offset", "_law_size"]) : Def P w K mg base 1 "_law_piece" ["_law_part", "_law_region", "_law_number", "_law_offset", "_law_size"] spLPiece := by
  refine R.ok sc_l_piece (fun vs H Q E h => ?_) (fun f cdv A outer s H vs Q E hr h => ?_)
  · obtain ⟨_, _, _, _, _, _, _, _, _, _, rfl, _⟩ := h; rfl
  obtain ⟨v0, v1, ac, nm, jt, e, r, off, n, sz, rfl, h0, h1, q⟩ := h
  refine ⟨_, (pss_cons (ps_if (pt_cmpR op_eq (pe_ix (ix_sq (K := K) rfl) (pv 0) pe_int (fun _ _ => rfl)) pe_str (nomark _))
      (pss_one (ps_ret (pe_tup (pa_cons (pv 2) (pa_cons (pe_op op_add (pe_ix (ix_sq (K := K) rfl) (pv 1) pe_int (fun _ _ => rfl)) (pv 3)) (pa_cons (pe_ix (ix_sq (K := K) rfl) (pv 1) pe_int (fun _ _ => rfl)) (pa_cons (pv 4) (pa_cons (pe_ix (ix_sq (K := K) rfl) (pv 1) pe_int (fun _ _ => rfl)) pa_nil))))))))
      pss_nil)
    (pss_one (ps_ret (pe_tup (pa_cons (pv 2) (pa_cons (pe_ix (ix_sq (K := K) rfl) (pv 1) pe_int (fun _ _ => rfl)) (pa_cons (pe_op op_add (pe_ix (ix_sq (K := K) rfl) (pv 1) pe_int (fun _ _ => rfl)) (pv 3)) (pa_cons (pe_ix (ix_sq (K := K) rfl) (pv 1) pe_int (fun _ _ => rfl)) (pa_cons (pv 4) pa_nil))))))))), ?_⟩
  walk_at "go"
  cases ac
  · refine if_of (fun h => absurd h (by decide +kernel)) (fun h => ?_)
    walk_at "go"
    refine tup_new (by walk_at "repl") (by simp) fun p H' _ _ g hp => q _ _ g hp
  · refine if_of (fun h => ?_) (fun h => absurd h (by decide +kernel))
    walk_at "go"
    refine tup_new (by walk_at "repl") (by simp) fun p H' _ _ g hp => q _ _ g hp
theorem sc_l_fits : FnScope ["_law_part", "_law_region"] ["_law_part", "_law_region"] (defScope (top 44)) := ⟨rfl, rfl, rfl, by decide +kernel, rfl, by decide +kernel, by decide +kernel⟩
theorem ok_l_fits (R : Raw K mg "_law_fits" (top 44) ["_law_part", "_law_region"]) (B : Bi mg) : Def P w K mg base 1 "_law_fits" ["_law_part", "_law_region"] spFits := by
  refine R.ok sc_l_fits (fun vs H Q E h => ?_) (fun f cdv A outer s H vs Q E hr h => ?_)
  · obtain ⟨_, _, _, _, rfl, _⟩ := h; rfl
  obtain ⟨v0, v1, p, r, rfl, h0, h1, lo, q⟩ := h
  refine ⟨_, (pss_one (ps_ret (pe_or (pe_cmpR op_eq (pe_ix (ix_sq (K := K) rfl) (pv 0) pe_int (fun _ _ => rfl)) pe_str (nomark _)) (pe_one (pe_and (pe_cmpR op_eq (pe_callB (ck_len (K := K) rfl) (by rfl) B.len bo_len (pa_cons (pe_ix (ix_sq (K := K) rfl) (pv 0) pe_int (fun _ _ => rfl)) pa_nil)) (pe_ix (ix_sq (K := K) rfl) (pv 1) pe_int (fun _ _ => rfl)) (nomark _)) (pe_one (pe_cmpR op_eq (pe_callB (ck_len (K := K) rfl) (by rfl) B.len bo_len (pa_cons (pe_ix (ix_sq (K := K) rfl) (pe_ix (ix_sq (K := K) rfl) (pv 0) pe_int (fun _ _ => rfl)) pe_int (fun _ _ => rfl)) pa_nil)) (pe_ix (ix_sq (K := K) rfl) (pv 1) pe_int (fun _ _ => rfl)) (nomark _)))))))), ?_⟩
  walk_at "go"
  cases p with
  | strip => exact absurd lo id
  | plain nm lb c b =>
    walk_at "go"
    refine if_of (fun h => ?_) fun h => absurd h (by decide +kernel)
    exact q
  | shape nm lb c rows =>
    walk_at "go"
    refine if_of (fun h => absurd h (by decide +kernel)) fun _ => ?_
    obtain ⟨l1, l2, wd, l3, l5, l4⟩ := lo
    have hw : wd0 rows = wd := l4 _ (mem_getD (by omega))
    have hw' : (rows.getD 0 Str.empty).length = wd := hw
    walk_at "go"
    rw [List.length_map]
    walk_at "go"
    refine if_of (fun h => ?_) (fun h => ?_)
    · have h2 := of_decide_eq_true h
      walk_at "go"
      refine w_ix (by assumption) (Tp.refl _) (by decide) (enc_get (l := rows) (i := 0) (by omega)) (fun z hz => ?_)
      have e := Rep.strI hz; subst e
      walk_at "go"
      refine w_lenS ?_ ?_
      · omega
      walk_at "go"
      have e : fitsB (.shape nm lb c rows) r = decide (((rows.getD 0 Str.empty).length : Int) = (r.w : Nat)) := by
        show decide _ = decide _
        refine decide_eq_decide.mpr ?_
        show r.w = wd0 rows ∧ _ ↔ _
        unfold wd0
        omega
      rw [e] at q; exact q
    · have h2 := of_decide_eq_false h
      have e : fitsB (.shape nm lb c rows) r = false := by
        refine decide_eq_false ?_
        unfold wd0
        omega
      rw [e] at q; exact q
end
end Sr
/-! SrI: cells, digits, draws. -/
namespace Sr
open PySem PySem.Spec PyProof.Rows L2
local macro_rules | `(tactic| walk_at "tp") => `(tactic| first
  | exact Tp.refl _
  | assumption
  | exact Gr.tp (by assumption)
  | (refine Tp.trans ?_ (by first | assumption | exact Gr.tp (by assumption)); walk_at "tp"))
local macro_rules | `(tactic| walk_at "gr") => `(tactic| first
  | exact Gr.refl _ _
  | assumption
  | exact Gr.any (by assumption)
  | (refine Gr.trans ?_ (by first | assumption | exact Gr.any (by assumption)); walk_at "gr"))
local macro_rules | `(tactic| walk_at "rep") => `(tactic| first
  | exact Rep.int _ | exact Rep.str _ | exact Rep.bl _ | exact Rep.non
  | assumption
  | (refine Rep.mono ?_ (by assumption); walk_at "tp"))
local macro_rules | `(tactic| walk_at "repl") => `(tactic| repeat first
  | exact RepL.nil
  | (apply RepL.cons; (· walk_at "rep")))
local macro_rules | `(tactic| walk_at "step") => `(tactic| first
  | ((with_reducible apply w_var); rfl)
  | (with_reducible apply w_c)
  | (with_reducible apply w_op)
  | (with_reducible apply w_I0)
  | ((with_reducible apply w_ix); (· assumption); (· walk_at "tp"); (· decide); (· rfl); (intro x hx; first | (have e := Rep.intI hx; subst e; clear hx) | (have e := Rep.strI hx; subst e; clear hx) | (have e := Rep.blI hx; subst e; clear hx) | skip))
  | ((with_reducible apply w_ixU); (· assumption); (· walk_at "tp"); (· decide); (· rfl))
  | (with_reducible apply w_eqS)
  | (with_reducible apply w_eqI)
  | (with_reducible apply w_eqB)
  | (with_reducible apply w_neB)
  | (with_reducible apply w_test)
  | (with_reducible apply w_tB)
  | (with_reducible apply w_and)
  | (with_reducible apply w_or)
  | (with_reducible apply w_not)
  | (with_reducible apply w_nil)
  | (with_reducible apply w_cons)
  | (with_reducible apply w_CB)
  | (with_reducible apply w_call)
  | (with_reducible apply w_seq)
  | (with_reducible apply w_asg)
  | (with_reducible apply w_gname)
  | (with_reducible apply w_drop)
  | (with_reducible apply w_ret)
  | (with_reducible apply w_ifS)
  | (with_reducible apply w_next)
  | (with_reducible apply w_ifE)
  | (with_reducible apply w_andV)
  | (with_reducible apply w_orV)
  | (with_reducible apply w_notV)
  | (with_reducible apply w_tupE)
  | (with_reducible apply w_lstE)
  | (with_reducible apply w_bl)
  | ((with_reducible apply w_aug); rfl)
  | (with_reducible apply w_ip)
  | (with_reducible apply w_for1)
  | (with_reducible apply w_for2)
  | (with_reducible apply w_forT)
  | (with_reducible apply w_forL)
  | ((with_reducible apply w_lenD); (· assumption); (· walk_at "tp"))
  | (with_reducible apply w_min)
  | (with_reducible apply w_intI)
  | (with_reducible apply w_intB)
  | ((with_reducible apply w_I); (· first | decide | exact (by decide : (1000 : Int) ≠ 0) | exact ⟨by decide, by decide⟩ | exact ⟨by decide, by decide, by decide⟩ | exact .inr ⟨by decide, by decide⟩ | exact .inl ⟨by decide, by decide⟩))
  | (with_reducible apply w_bm)
  | (with_reducible apply w_bm0)
  | ((with_reducible apply w_tyL); (· assumption))
  | (with_reducible apply w_gsub)
  | (with_reducible apply w_fld)
  | (with_reducible apply w_gcons)
  | (with_reducible apply w_gnil)
  | ((with_reducible apply w_gtup); (· assumption); (· walk_at "tp"); (· rfl))
  | (with_reducible apply w_meth)
  | (with_reducible apply w_lc1)
  | (with_reducible apply w_lcL)
  | (with_reducible apply w_lcT)
  | (with_reducible apply w_yes)
  | (with_reducible apply w_m1)
  | (with_reducible apply w_dnotin)
  | (with_reducible apply w_din)
  | (with_reducible apply w_dget)
  | (with_reducible apply w_dput)
  | ((with_reducible apply w_ixL); (· assumption); (· decide); (· rfl)))
local macro_rules | `(tactic| walk_at "go") => `(tactic| repeat walk_at "step")
local macro_rules | `(tactic| walk_at "set") => `(tactic| dsimp only [List.set_cons_succ, List.set_cons_zero])

section
variable {P : Program} {w : World} {K : PySem.W.Frag} {mg : Str → Option Value} {base : Heap}
def spCell (K : PySem.W.Frag) : Sp := fun vs H Q _ => ∃ (a : Addr) (ns : List Int) (k : Nat), vs = [.ref a, .int k] ∧ SqL K H a (ns.map V.int) ∧ ∀ z : Int, Q (.int z) H
theorem sc_l_cell : FnScope ["_law_script", "_law_k"] ["_law_script", "_law_k"] (defScope (top 33)) := ⟨rfl, rfl, rfl, by decide +kernel, rfl, by decide +kernel, by decide +kernel⟩
theorem ok_l_cell (R : Raw K mg "_law_cell" (top 33) ["_law_script", "_law_k"]) (B : Bi mg) : Def P w K mg base 1 "_law_cell" ["_law_script", "_law_k"] (spCell K) := by
  refine R.ok sc_l_cell (fun vs H Q E h => ?_) (fun f cdv A outer s H vs Q E hr h => ?_)
  · obtain ⟨_, _, _, rfl, _⟩ := h; rfl
  obtain ⟨a, ns, k, rfl, h0, q⟩ := h
  refine ⟨_, (pss_cons (ps_if (pt_cmpR op_lt (pv 1) (pe_callB (ck_len (K := K) rfl) (by rfl) B.len bo_len (pa_cons (pv 0) pa_nil)) (nomark _))
      (pss_one (ps_ret (pe_ix (ix_sq (K := K) rfl) (pv 0) (pv 1) (fun _ _ => rfl))))
      pss_nil)
    (pss_one (ps_ret pe_int))), ?_⟩
  walk_at "go"
  refine w_lenSq h0 ?_
  rw [List.length_map]
  walk_at "go"
  refine if_of (fun h => ?_) (fun h => ?_)
  · have h2 := of_decide_eq_true h
    walk_at "go"
    refine w_ixSq h0 (by omega) (x := .int (ns[k]'(by omega))) (by rw [Int.toNat_natCast, List.getElem?_map, List.getElem?_eq_getElem (by omega)]; rfl) ?_
    exact q _
  · walk_at "go"
    exact q _
def spDigits (K : PySem.W.Frag) : Sp := fun vs H Q _ => ∃ (a : Addr) (ns : List Int) (k l : Nat), vs = [.ref a, .int k, .int l] ∧ SqL K H a (ns.map V.int) ∧ k ≤ 100 ∧ l ≤ 100 ∧
  ∀ (p : Addr) (ds : List Int) (H' : Hp), Gr S0 H H' → H p = none → H' p = some (.lst (ds.map V.int)) → Q (.ref p) H'
theorem dig_put {p : Addr} {ds : List Int} {z : Int} {H : Hp} : upd H p (.lst (ds.map V.int ++ [.int z])) = upd H p (.lst ((ds ++ [z]).map V.int)) := by rw [List.map_append]; rfl
theorem sc_l_digits : FnScope ["_law_script", "_law_first", "_law_last", "_law_digits_here", "_law_k", "_law_cell_here", "_law_turn", "_law_seed"] ["_law_script", "_law_first", "_law_last"] (defScope (top 34)) := ⟨rfl, rfl, rfl, by decide +kernel, rfl, by decide +kernel, by decide +kernel⟩
theorem ok_l_digits (R : Raw K mg "_law_digits" (top 34) ["_law_script", "_law_first", "_law_last"]) (B : Bi mg) (D_l_cell : Def P w K mg base 1 "_law_cell" ["_law_script", "_law_k"] (spCell K)) : Def P w K mg base 2 "_law_digits" ["_law_script", "_law_first", "_law_last"] (spDigits K) := by
  refine R.ok sc_l_digits (fun vs H Q E h => ?_) (fun f cdv A outer s H vs Q E hr h => ?_)
  · obtain ⟨_, _, _, _, rfl, _⟩ := h; rfl
  obtain ⟨a, ns, k, l, rfl, h0, hk, hl, q⟩ := h
  refine ⟨_, (pss_cons (ps_set (i := 3) sc_l_digits.nd rfl (.inl rfl) (pe_lst pa_nil))
    (pss_cons (ps_for PassesOwn.never rfl (pi_range2 (by rfl) B.range (pa_cons (pv 1) (pa_cons (pv 2) pa_nil))) (pg_name (i := 4) sc_l_digits.nd rfl (.inl rfl))
      (pss_cons (ps_set (i := 5) sc_l_digits.nd rfl (.inl rfl) (pe_d D_l_cell hr (by rfl) (pa_cons (pv 0) (pa_cons (pv 4) pa_nil))))
      (pss_cons (ps_if (pt_cmpR op_lt (pv 5) pe_int (nomark _))
        (pss_one (ps_set (i := 5) sc_l_digits.nd rfl (.inl rfl) (pe_op op_sub pe_int (pe_op op_mul pe_int (pv 5)))))
        pss_nil)
      (pss_one (ps_if (pt_cmpR op_ge (pv 5) (pe_op op_pow pe_int pe_int) (nomark _))
        (pss_one (ps_for PassesOwn.never rfl (pi_range1 (by rfl) B.range (pa_cons pe_int pa_nil)) (pg_name (i := 6) sc_l_digits.nd rfl (.inl rfl))
          (pss_one (ps_if (pt_cmpR op_gt (pv 5) pe_int (nomark _))
            (pss_cons (ps_expr (pe_bm PySem.F.plainAttrs_list PySem.F.slot_list_append PySem.F.type_list_append mt_append (pv 3) (pa_cons (pe_op op_modN (pe_callTy cx_int (by rfl) B.int bo_int (pa_cons (pv 5) pa_nil)) pe_int) pa_nil)))
            (pss_one (ps_set (i := 5) sc_l_digits.nd rfl (.inl rfl) (pe_op op_fdivN (pv 5) pe_int))))
            pss_nil))))
        (pss_cons (ps_set (i := 7) sc_l_digits.nd rfl (.inl rfl) (pe_op op_modN (pe_callTy cx_int (by rfl) B.int bo_int (pa_cons (pe_op op_add (pe_op op_add (pe_op op_mul (pv 5) pe_int) (pe_op op_mul (pv 4) pe_int)) pe_int) pa_nil)) pe_int))
        (pss_one (ps_for PassesOwn.never rfl (pi_range1 (by rfl) B.range (pa_cons pe_int pa_nil)) (pg_name (i := 6) sc_l_digits.nd rfl (.inl rfl))
          (pss_cons (ps_set (i := 7) sc_l_digits.nd rfl (.inl rfl) (pe_op op_modN (pe_callTy cx_int (by rfl) B.int bo_int (pa_cons (pe_op op_add (pe_op op_add (pe_op op_mul (pv 7) pe_int) (pe_op op_mul pe_int (pv 6))) pe_int) pa_nil)) pe_int))
          (pss_one (ps_expr (pe_bm PySem.F.plainAttrs_list PySem.F.slot_list_append PySem.F.type_list_append mt_append (pv 3) (pa_cons (pe_op op_modN (pe_callTy cx_int (by rfl) B.int bo_int (pa_cons (pe_op op_fdivN (pv 7) pe_int) pa_nil)) pe_int) pa_nil)))))))))))))
    (pss_one (ps_ret (pv 3))))), ?_⟩
  walk_at "go"
  refine lst_new (Nat.zero_le _) fun p H1 pn hp g1 => ?_
  walk_at "go"
  refine rng2 rfl (by omega) (by omega) (fun i σ H' => i ≤ 200 ∧ ∃ (ds : List Int) (b c d e : Option V), σ = [some (.ref a), some (.int k), some (.int l), some (.ref p), b, c, d, e] ∧ Gr S0 H H' ∧ H' p = some (.lst (ds.map V.int)) ∧ ds.length ≤ 60 * i) ⟨by omega, [], none, none, none, none, rfl, g1, hp, Nat.zero_le _⟩ (fun i σ H2 hi1 hi2 hp2 => ?_) (fun σ H2 hp2 => ?_)
  · obtain ⟨_, ds, b, c, d, e, rfl, g2, e2, hn⟩ := hp2
    walk_at "go"
    refine ⟨a, ns, i, rfl, g2.sql id h0, fun z => ?_⟩
    walk_at "go"
    refine if_of (fun h => ?_) (fun h => ?_)
    case' _ => walk_at "go"; generalize (1 - 2 * z : Int) = z
    case' _ => walk_at "go"
    all_goals
      walk_at "set"
      walk_at "go"
      refine if_of (fun h => ?_) (fun h => ?_)
      · walk_at "go"
        refine rng1 (n := 60) (by omega) (fun j σ H' => ∃ (ds : List Int) (z : Int) (d e : Option V), σ = [some (.ref a), some (.int k), some (.int l), some (.ref p), some (.int i), some (.int z), d, e] ∧ Gr S0 H H' ∧ H' p = some (.lst (ds.map V.int)) ∧ ds.length ≤ 60 * i + j) ⟨ds, _, _, _, rfl, g2, e2, hn⟩ (fun j σ H3 hj hp3 => ?_) (fun σ H3 hp3 => ?_)
        · obtain ⟨ds, z, d, e, rfl, g3, e3, hn3⟩ := hp3
          walk_at "go"
          refine if_of (fun h => ?_) (fun h => ?_)
          · walk_at "go"
            refine w_append e3 (small6 (by rw [List.length_map]; omega)) ?_
            rw [dig_put]
            walk_at "go"
            exact ⟨_, _, _, _, rfl, g3.setL (.inl pn) e3, upd_same, by rw [List.length_append, List.length_singleton]; omega⟩
          · walk_at "go"
            exact ⟨ds, _, _, _, rfl, g3, e3, by omega⟩
        · obtain ⟨ds, z, d, e, rfl, g3, e3, hn3⟩ := hp3
          exact ⟨by omega, ds, _, _, _, _, rfl, g3, e3, by omega⟩
      · walk_at "go"
        refine rng1 (n := 12) (by omega) (fun j σ H' => ∃ (ds : List Int) (z s : Int) (d : Option V), σ = [some (.ref a), some (.int k), some (.int l), some (.ref p), some (.int i), some (.int z), d, some (.int s)] ∧ Gr S0 H H' ∧ H' p = some (.lst (ds.map V.int)) ∧ ds.length ≤ 60 * i + j) ⟨ds, _, _, _, rfl, g2, e2, hn⟩ (fun j σ H3 hj hp3 => ?_) (fun σ H3 hp3 => ?_)
        · obtain ⟨ds, z, s, d, rfl, g3, e3, hn3⟩ := hp3
          walk_at "go"
          refine w_append e3 (small6 (by rw [List.length_map]; omega)) ?_
          rw [dig_put]
          walk_at "go"
          exact ⟨_, _, _, _, rfl, g3.setL (.inl pn) e3, upd_same, by rw [List.length_append, List.length_singleton]; omega⟩
        · obtain ⟨ds, z, s, d, rfl, g3, e3, hn3⟩ := hp3
          exact ⟨by omega, ds, _, _, _, _, rfl, g3, e3, by omega⟩
  · obtain ⟨_, ds, b, c, d, e, rfl, g2, e2, hn⟩ := hp2
    walk_at "go"
    exact q p ds _ g2 pn e2
/-! ### draws -/
/-- a box: a list of digits and a place -/
def Bx (H : Hp) (b l : Addr) (ds : List Int) : Prop := b ≠ l ∧ H l = some (.lst (ds.map V.int)) ∧ ∃ n : Nat, H b = some (.lst [.ref l, .int n])
def spDraw : Sp := fun vs H Q _ => ∃ (b l : Addr) (ds : List Int) (m : Nat), vs = [.ref b, .int m] ∧ 0 < m ∧ Bx H b l ds ∧ ∀ (v : Nat) (H' : Hp), v < m → Gr (S1 b) H H' → Bx H' b l ds → Q (.int v) H'
theorem Bx.gr {H H' : Hp} {b l : Addr} {ds : List Int} (x : Bx H b l ds) (g : Gr S0 H H') : Bx H' b l ds :=
  let ⟨h1, h2, n, h3⟩ := x; ⟨h1, g.lst id h2, n, g.lst id h3⟩
theorem Bx.ne {H : Hp} {b l p : Addr} {ds : List Int} (x : Bx H b l ds) (h : H p = none) : p ≠ b := fun z => by
  obtain ⟨_, _, n, h1⟩ := x
  rw [← z, h] at h1; cases h1
theorem Bx.nl {H : Hp} {b l p : Addr} {ds : List Int} (x : Bx H b l ds) (h : H p = none) : p ≠ l := fun z => by
  obtain ⟨_, h1, _⟩ := x
  rw [← z, h] at h1; cases h1
theorem Bx.set {H H0 : Hp} {b l p : Addr} {ds : List Int} {u : HO} (x : Bx H b l ds) (x0 : Bx H0 b l ds) (h : H0 p = none) : Bx (upd H p u) b l ds :=
  let ⟨h1, h2, n, h3⟩ := x; ⟨h1, by rw [upd_ne (x0.nl h).symm]; exact h2, n, by rw [upd_ne (x0.ne h).symm]; exact h3⟩
theorem fmod_nat (i : Int) {m : Nat} (hm : 0 < m) : ∃ v : Nat, v < m ∧ i.fmod (m : Int) = (v : Nat) := by
  refine ⟨(i.fmod m).toNat, ?_, ?_⟩
  · have h1 := Int.fmod_lt_of_pos i (show (0 : Int) < m by omega)
    have h2 := Int.fmod_nonneg_of_pos i (show (0 : Int) < m by omega)
    omega
  · have h2 := Int.fmod_nonneg_of_pos i (show (0 : Int) < m by omega)
    omega
theorem sc_l_draw : FnScope ["_law_box", "_law_many", "_law_at"] ["_law_box", "_law_many"] (defScope (top 35)) := ⟨rfl, rfl, rfl, by decide +kernel, rfl, by decide +kernel, by decide +kernel⟩
theorem ok_l_draw (R : Raw K mg "_law_draw" (top 35) ["_law_box", "_law_many"]) (B : Bi mg) : Def P w K mg base 1 "_law_draw" ["_law_box", "_law_many"] spDraw := by
  refine R.ok sc_l_draw (fun vs H Q E h => ?_) (fun f cdv A outer s H vs Q E hr h => ?_)
  · obtain ⟨_, _, _, _, rfl, _⟩ := h; rfl
  obtain ⟨b, l, ds, m, rfl, hm, ⟨hne, hl, n, hb⟩, q⟩ := h
  refine ⟨_, (pss_cons (ps_set (i := 2) sc_l_draw.nd rfl (.inl rfl) (pe_ix (ix_sq (K := K) rfl) (pv 0) pe_int (fun _ _ => rfl)))
    (pss_cons (ps_asg (pe_op op_add (pv 2) pe_int) (pg_sub (pv 0) pe_int set_list))
    (pss_cons (ps_if (pt_cmpR op_lt (pv 2) (pe_callB (ck_len (K := K) rfl) (by rfl) B.len bo_len (pa_cons (pe_ix (ix_sq (K := K) rfl) (pv 0) pe_int (fun _ _ => rfl)) pa_nil)) (nomark _))
      (pss_one (ps_ret (pe_op op_modN (pe_callTy cx_int (by rfl) B.int bo_int (pa_cons (pe_ix (ix_sq (K := K) rfl) (pe_ix (ix_sq (K := K) rfl) (pv 0) pe_int (fun _ _ => rfl)) (pv 2) (fun _ _ => rfl)) pa_nil)) (pv 1))))
      pss_nil)
    (pss_one (ps_ret (pe_op op_modN (pe_callTy cx_int (by rfl) B.int bo_int (pa_cons (pe_op op_add (pe_op op_mul (pv 2) pe_int) pe_int) pa_nil)) (pv 1))))))), ?_⟩
  walk_at "go"
  refine w_setL hb (by decide) (by show 1 < 2; decide) ?_
  have hl' : (upd H b (.lst [.ref l, .int ((n + 1 : Nat) : Int)])) l = some (.lst (ds.map V.int)) := by rw [upd_ne (Ne.symm hne)]; exact hl
  have fin : ∀ i : Int, Q (.int (i.fmod (m : Int))) (upd H b (.lst [.ref l, .int ((n + 1 : Nat) : Int)])) := fun i => by
    obtain ⟨v, h1, h2⟩ := fmod_nat i hm
    rw [h2]
    exact q v _ h1 ((Gr.refl _ H).setL (.inr rfl) hb) ⟨hne, hl', n + 1, upd_same⟩
  have hb' : (upd H b (.lst [.ref l, .int ((n + 1 : Nat) : Int)])) b = some (.lst [.ref l, .int ((n + 1 : Nat) : Int)]) := upd_same
  rw [show upd H b (.lst ([V.ref l, V.int n].set (Int.toNat 1) (V.int ((n : Int) + 1)))) = upd H b (.lst [.ref l, .int ((n + 1 : Nat) : Int)]) from rfl]
  generalize (upd H b (.lst [.ref l, .int ((n + 1 : Nat) : Int)])) = H1 at *
  walk_at "go"
  refine w_lenL hl' ?_
  rw [List.length_map]
  have hm' : (m : Int) ≠ 0 := by omega
  walk_at "go"
  refine if_of (fun h => ?_) (fun h => ?_)
  · have h2 := of_decide_eq_true h
    walk_at "go"
    refine w_ixL hl' (by omega) (x := .int (ds[n]'(by omega))) (by rw [Int.toNat_natCast, List.getElem?_map, List.getElem?_eq_getElem (by omega)]; rfl) ?_
    walk_at "go"
    refine w_I hm' ?_
    exact fin _
  · walk_at "go"
    refine w_I hm' ?_
    exact fin _
end
end Sr
/-! SrJ: leaves and places are drawn. -/
namespace Sr
open PySem PySem.Spec PyProof.Rows L2
local macro_rules | `(tactic| walk_at "tp") => `(tactic| first
  | exact Tp.refl _
  | assumption
  | exact Gr.tp (by assumption)
  | (refine Tp.trans ?_ (by first | assumption | exact Gr.tp (by assumption)); walk_at "tp"))
local macro_rules | `(tactic| walk_at "gr") => `(tactic| first
  | exact Gr.refl _ _
  | assumption
  | exact Gr.any (by assumption)
  | (refine Gr.trans ?_ (by first | assumption | exact Gr.any (by assumption)); walk_at "gr"))
local macro_rules | `(tactic| walk_at "rep") => `(tactic| first
  | exact Rep.int _ | exact Rep.str _ | exact Rep.bl _ | exact Rep.non
  | assumption
  | (refine Rep.mono ?_ (by assumption); walk_at "tp"))
local macro_rules | `(tactic| walk_at "repl") => `(tactic| repeat first
  | exact RepL.nil
  | (apply RepL.cons; (· walk_at "rep")))
local macro_rules | `(tactic| walk_at "step") => `(tactic| first
  | ((with_reducible apply w_var); rfl)
  | (with_reducible apply w_c)
  | (with_reducible apply w_op)
  | (with_reducible apply w_I0)
  | ((with_reducible apply w_ix); (· assumption); (· walk_at "tp"); (· decide); (· rfl); (intro x hx; first | (have e := Rep.intI hx; subst e; clear hx) | (have e := Rep.strI hx; subst e; clear hx) | (have e := Rep.blI hx; subst e; clear hx) | skip))
  | ((with_reducible apply w_ixU); (· assumption); (· walk_at "tp"); (· decide); (· rfl))
  | (with_reducible apply w_eqS)
  | (with_reducible apply w_eqI)
  | (with_reducible apply w_eqB)
  | (with_reducible apply w_neB)
  | (with_reducible apply w_test)
  | (with_reducible apply w_tB)
  | (with_reducible apply w_and)
  | (with_reducible apply w_or)
  | (with_reducible apply w_not)
  | (with_reducible apply w_nil)
  | (with_reducible apply w_cons)
  | (with_reducible apply w_CB)
  | (with_reducible apply w_call)
  | (with_reducible apply w_seq)
  | (with_reducible apply w_asg)
  | (with_reducible apply w_gname)
  | (with_reducible apply w_drop)
  | (with_reducible apply w_ret)
  | (with_reducible apply w_ifS)
  | (with_reducible apply w_next)
  | (with_reducible apply w_ifE)
  | (with_reducible apply w_andV)
  | (with_reducible apply w_orV)
  | (with_reducible apply w_notV)
  | (with_reducible apply w_tupE)
  | (with_reducible apply w_lstE)
  | (with_reducible apply w_bl)
  | ((with_reducible apply w_aug); rfl)
  | (with_reducible apply w_ip)
  | (with_reducible apply w_for1)
  | (with_reducible apply w_for2)
  | (with_reducible apply w_forT)
  | (with_reducible apply w_forL)
  | ((with_reducible apply w_lenD); (· assumption); (· walk_at "tp"))
  | (with_reducible apply w_min)
  | (with_reducible apply w_intI)
  | (with_reducible apply w_intB)
  | ((with_reducible apply w_I); (· first | decide | exact (by decide : (1000 : Int) ≠ 0) | exact ⟨by decide, by decide⟩ | exact ⟨by decide, by decide, by decide⟩ | exact .inr ⟨by decide, by decide⟩ | exact .inl ⟨by decide, by decide⟩))
  | (with_reducible apply w_bm)
  | (with_reducible apply w_bm0)
  | ((with_reducible apply w_tyL); (· assumption))
  | (with_reducible apply w_gsub)
  | (with_reducible apply w_fld)
  | (with_reducible apply w_gcons)
  | (with_reducible apply w_gnil)
  | ((with_reducible apply w_gtup); (· assumption); (· walk_at "tp"); (· rfl))
  | (with_reducible apply w_meth)
  | (with_reducible apply w_lc1)
  | (with_reducible apply w_lcL)
  | (with_reducible apply w_lcT)
  | (with_reducible apply w_yes)
  | (with_reducible apply w_m1)
  | (with_reducible apply w_dnotin)
  | (with_reducible apply w_din)
  | (with_reducible apply w_dget)
  | (with_reducible apply w_dput)
  | ((with_reducible apply w_ixL); (· assumption); (· decide); (· rfl)))
local macro_rules | `(tactic| walk_at "go") => `(tactic| repeat walk_at "step")
local macro_rules | `(tactic| walk_at "set") => `(tactic| dsimp only [List.set_cons_succ, List.set_cons_zero])

section
variable {P : Program} {w : World} {K : PySem.W.Frag} {mg : Str → Option Value} {base : Heap} {H H' : Hp} {b p : Addr}
theorem RepL.strs : ∀ (zs : List Str), RepL H (zs.map PyData.str) (zs.map V.str)
  | [] => .nil
  | z :: r => .cons (.str z) (RepL.strs r)
theorem S1.not {a : Addr} (h : a ≠ b) : ¬ S1 b a := h
/-- a box's digits list stands elsewhere than an object of another kind -/
theorem menu3 {s0 s1 s2 : Str} {v : Nat} (h : v < 3) : ∃ z : Str, [V.str s0, V.str s1, V.str s2][v]? = some (.str z) := by
  match v, h with
  | 0, _ => exact ⟨_, rfl⟩
  | 1, _ => exact ⟨_, rfl⟩
  | 2, _ => exact ⟨_, rfl⟩
theorem pstr : ∀ k : Nat, k < 8 → ("p" : Str).length + ((toString (k : Int) : String) : Str).length ≤ 1000 ∧ ((k : Int)).natAbs.log2 < 1920 := by decide +kernel
theorem dotsharp : ∀ v : Nat, v < 2 → ∃ c, (".#" : Str).cps.toList[v]? = some c := fun v h => by
  match v, h with
  | 0, _ => exact ⟨46, by decide +kernel⟩
  | 1, _ => exact ⟨35, by decide +kernel⟩
theorem dotsharp_len : (".#" : Str).length ≤ 1000 := by decide +kernel
/-- a leaf that is drawn -/
def Leaf3 (p : Part) : Prop := LeafOk p ∧ pcost p ≤ 3
def spLeaf : Sp := fun vs H Q _ => ∃ (b l : Addr) (ds : List Int) (k : Nat), vs = [.ref b, .int k, .int 3] ∧ k < 8 ∧ Bx H b l ds ∧ ∀ (v : V) (p : Part) (H' : Hp), Leaf3 p → Gr (S1 b) H H' → Bx H' b l ds → Rep H' (encPart p) v → Q v H'
theorem sc_l_leaf : FnScope ["_law_box", "_law_k", "_law_wide", "_law_name", "_law_label", "_law_cost_here", "_law_width", "_law_rows", "_law_y", "_law_x"] ["_law_box", "_law_k", "_law_wide"] (defScope (top 37)) := ⟨rfl, rfl, rfl, by decide +kernel, rfl, by decide +kernel, by decide +kernel⟩
theorem ok_l_leaf (R : Raw K mg "_law_leaf" (top 37) ["_law_box", "_law_k", "_law_wide"]) (B : Bi mg) (D_l_draw : Def P w K mg base 1 "_law_draw" ["_law_box", "_law_many"] spDraw) : Def P w K mg base 2 "_law_leaf" ["_law_box", "_law_k", "_law_wide"] spLeaf := by
  refine R.ok sc_l_leaf (fun vs H Q E h => ?_) (fun f cdv A outer s H vs Q E hr h => ?_)
  · obtain ⟨_, _, _, _, rfl, _⟩ := h; rfl
  obtain ⟨b, bl, bd, k, rfl, hk, hb, q⟩ := h
  refine ⟨_, (pss_cons (ps_set (i := 3) sc_l_leaf.nd rfl (.inl rfl) (pe_op op_add_str pe_str (pe_callTy cx_str (by rfl) B.str bo_str (pa_cons (pv 1) pa_nil))))
    (pss_cons (ps_set (i := 4) sc_l_leaf.nd rfl (.inl rfl) (pe_ix (ix_sq (K := K) rfl) (pe_lst (pa_cons pe_str (pa_cons pe_str (pa_cons pe_str pa_nil)))) (pe_d D_l_draw hr (by rfl) (pa_cons (pv 0) (pa_cons pe_int pa_nil))) (fun _ _ => rfl)))
    (pss_cons (ps_set (i := 5) sc_l_leaf.nd rfl (.inl rfl) (pe_d D_l_draw hr (by rfl) (pa_cons (pv 0) (pa_cons pe_int pa_nil))))
    (pss_cons (ps_if (pt_cmpR op_eq (pe_d D_l_draw hr (by rfl) (pa_cons (pv 0) (pa_cons pe_int pa_nil))) pe_int (nomark _))
      (pss_one (ps_ret (pe_tup (pa_cons pe_str (pa_cons (pv 3) (pa_cons (pv 4) (pa_cons (pv 5) (pa_cons (pe_cmpR op_eq (pe_d D_l_draw hr (by rfl) (pa_cons (pv 0) (pa_cons pe_int pa_nil))) pe_int (nomark _)) pa_nil))))))))
      pss_nil)
    (pss_cons (ps_set (i := 6) sc_l_leaf.nd rfl (.inl rfl) (pe_op op_add pe_int (pe_d D_l_draw hr (by rfl) (pa_cons (pv 0) (pa_cons (pv 2) pa_nil)))))
    (pss_cons (ps_set (i := 7) sc_l_leaf.nd rfl (.inl rfl) (pe_lst pa_nil))
    (pss_cons (ps_for PassesOwn.never rfl (pi_range1 (by rfl) B.range (pa_cons (pe_op op_add pe_int (pe_d D_l_draw hr (by rfl) (pa_cons (pv 0) (pa_cons (pv 2) pa_nil)))) pa_nil)) (pg_name (i := 8) sc_l_leaf.nd rfl (.inl rfl))
      (pss_one (ps_expr (pe_bm PySem.F.plainAttrs_list PySem.F.slot_list_append PySem.F.type_list_append mt_append (pv 7) (pa_cons (pe_joinX pe_str (pe_lc (own := [("_law_x", 9)]) (g := gName 9) rfl sc_l_leaf.nd (pi_range1 (by rfl) B.range (pa_cons (pv 6) pa_nil)) (blkOk_by (N := ["_law_box", "_law_k", "_law_wide", "_law_name", "_law_label", "_law_cost_here", "_law_width", "_law_rows", "_law_y", "_law_x"]) (sc := defScope (top 37)) (by decide +kernel)) (fun _ _ _ _ _ => pg_name (i := 9) sc_l_leaf.nd rfl (.inl rfl)) (fun _ _ _ _ _ => pts_nil) (fun _ _ _ _ _ => (pe_ix (ix_sq (K := K) rfl) pe_str (pe_d D_l_draw hr (by rfl) (pa_cons (pv 0) (pa_cons pe_int pa_nil))) (fun _ _ => rfl))))) pa_nil)))))
    (pss_one (ps_ret (pe_tup (pa_cons pe_str (pa_cons (pv 3) (pa_cons (pv 4) (pa_cons (pv 5) (pa_cons (pe_callTy (ck_tup (K := K) rfl) (by rfl) B.tuple bo_tuple (pa_cons (pv 7) pa_nil)) pa_nil))))))))))))))), ?_⟩
  obtain ⟨k1, k2⟩ := pstr k hk
  walk_at "go"
  refine ⟨_, rfl, k2, ?_⟩
  refine ⟨_, _, rfl, rfl, Nat.le_of_lt (small1000 k1), ?_⟩
  generalize ("p" : Str) ++ _ = nm
  walk_at "go"
  refine lst_new (by decide) fun p H1 pn hp g1 => ?_
  walk_at "go"
  refine ⟨b, bl, bd, 3, rfl, by decide, hb.gr g1, fun v1 H2 hv1 g2 hb2 => ?_⟩
  have hp2 := g2.lst (hb.ne pn) hp
  obtain ⟨lb, hlb⟩ := menu3 (s0 := "") (s1 := "x") (s2 := "yz") hv1
  refine w_ixL hp2 (by omega) (by rw [Int.toNat_natCast]; exact hlb) ?_
  walk_at "go"
  refine ⟨b, bl, bd, 4, rfl, by decide, hb2, fun cs H3 hcs g3 hb3 => ?_⟩
  walk_at "go"
  refine ⟨b, bl, bd, 2, rfl, by decide, hb3, fun v2 H4 hv2 g4 hb4 => ?_⟩
  have G4 : Gr (S1 b) H H4 := ((g1.any.trans g2).trans g3).trans g4
  walk_at "go"
  refine if_of (fun h => ?_) (fun h => ?_)
  · -- a plain part
    walk_at "go"
    refine ⟨b, bl, bd, 2, rfl, by decide, hb4, fun v3 H5 hv3 g5 hb5 => ?_⟩
    walk_at "go"
    refine tup_new (by walk_at "repl") (by simp) fun p H' _ _ g hp => ?_
    exact q _ (.plain nm lb cs (decide ((v3 : Int) = 1))) H' ⟨trivial, by show cs ≤ 3; omega⟩ ((G4.trans g5).trans g.any) (hb5.gr g) hp
  · walk_at "go"
    refine ⟨b, bl, bd, 3, rfl, by decide, hb4, fun wd H5 hwd g5 hb5 => ?_⟩
    walk_at "go"
    refine lst_new (by decide) fun l H6 ln hl g6 => ?_
    walk_at "go"
    refine ⟨b, bl, bd, 3, rfl, by decide, hb5.gr g6, fun ht H7 hht g7 hb7 => ?_⟩
    have lb' : l ≠ b := hb5.ne ln
    have hl7 := g7.lst lb' hl
    have G7 : Gr (S1 b) H H7 := ((G4.trans g5).trans g6.any).trans g7
    have ln0 : H l = none := (G4.trans g5).nn l ln
    walk_at "go"
    refine rng1 (n := 1 + ht) (by omega) (fun j σ H' => ∃ (rows : List Str) (d : Option V), σ = [some (.ref b), some (.int k), some (.int 3), some (.str nm), some (.str lb), some (.int cs), some (.int (1 + wd : Nat)), some (.ref l), d, none] ∧ Gr (S1 b) H H' ∧ Bx H' b bl bd ∧ H' l = some (.lst (rows.map V.str)) ∧ rows.length = j ∧ ∀ z ∈ rows, z.length = 1 + wd) ⟨[], none, rfl, G7, hb7, hl7, rfl, fun z hz => absurd hz (by simp)⟩ (fun j σ H8 hj hp8 => ?_) (fun σ H8 hp8 => ?_)
    · obtain ⟨rows, d, rfl, g8, hb8, hl8, hn, hrow⟩ := hp8
      walk_at "go"
      refine ⟨⟨_, rfl⟩, ?_⟩
      walk_at "go"
      refine lcR1 (n := 1 + wd) rfl (by omega) (fun D i H' => ∃ cs : List Nat, Gr (S1 b) H8 H' ∧ Bx H' b bl bd ∧ H' D = some (.lst ((ones cs).map V.str)) ∧ cs.length = i) (fun D hD => ⟨[], Gr.new hD, hb8.gr (Gr.new hD), upd_same, rfl⟩) (fun D i H' hD hi hp => ?_) (fun D H' hD hp => ?_)
      · obtain ⟨cl, g9, hb9, hD9, hc⟩ := hp
        walk_at "go"
        refine ⟨b, bl, bd, 2, rfl, by decide, hb9, fun v3 H10 hv3 g10 hb10 => ?_⟩
        obtain ⟨c, hc'⟩ := dotsharp v3 hv3
        refine w_ixS dotsharp_len (by omega) (by rw [Int.toNat_natCast]; exact hc') ?_
        have hD10 := g10.lst (hb8.ne hD) hD9
        refine w_put hD10 (small6 (by rw [List.length_map, ones, List.length_map]; omega)) ?_
        refine ⟨cl ++ [c], (g9.trans g10).setL (.inl hD) hD10, ?_, ?_, by rw [List.length_append, List.length_singleton]; omega⟩
        · exact hb10.set hb8 hD
        · rw [upd_same, ones, ones, List.map_append, List.map_append]; rfl
      · obtain ⟨cl, g9, hb9, hD9, hc⟩ := hp
        walk_at "go"
        refine w_join hD9 (by omega) fun z hz => ?_
        have hl9 := g9.lst lb' hl8
        walk_at "go"
        refine w_append hl9 (small6 (by rw [List.length_map]; omega)) ?_
        walk_at "go"
        refine ⟨rows ++ [z], _, rfl, (g8.trans g9).setL (.inl ln0) hl9, hb9.set hb ln0, by rw [upd_same, List.map_append]; rfl, by rw [List.length_append, List.length_singleton]; omega, fun y hy => ?_⟩
        rcases List.mem_append.mp hy with hy | hy
        · exact hrow y hy
        · rw [List.mem_singleton.mp hy]
          show z.cps.size = _
          rw [← Array.length_toList, hz, hc]
    · obtain ⟨rows, d, rfl, g8, hb8, hl8, hn, hrow⟩ := hp8
      walk_at "go"
      refine w_tupOf (ds := rows.map PyData.str) hl8 (RepL.strs rows) fun v H9 g9 hv => ?_
      walk_at "go"
      refine tup_new (by walk_at "repl") (by simp) fun p H' _ _ g hp => ?_
      exact q _ (.shape nm lb cs rows) H' ⟨⟨by omega, by omega, 1 + wd, by omega, by omega, hrow⟩, by show cs ≤ 3; omega⟩ ((g8.trans g9.any).trans g.any) ((hb8.gr g9).gr g) hp
end
end Sr
/-! SrK: places, choices and parts are drawn. -/
namespace Sr
open PySem PySem.Spec PyProof.Rows L2
local macro_rules | `(tactic| walk_at "tp") => `(tactic| first
  | exact Tp.refl _
  | assumption
  | exact Gr.tp (by assumption)
  | (refine Tp.trans ?_ (by first | assumption | exact Gr.tp (by assumption)); walk_at "tp"))
local macro_rules | `(tactic| walk_at "gr") => `(tactic| first
  | exact Gr.refl _ _
  | assumption
  | exact Gr.any (by assumption)
  | (refine Gr.trans ?_ (by first | assumption | exact Gr.any (by assumption)); walk_at "gr"))
local macro_rules | `(tactic| walk_at "rep") => `(tactic| first
  | exact Rep.int _ | exact Rep.str _ | exact Rep.bl _ | exact Rep.non
  | assumption
  | (refine Rep.mono ?_ (by assumption); walk_at "tp"))
local macro_rules | `(tactic| walk_at "repl") => `(tactic| repeat first
  | exact RepL.nil
  | (apply RepL.cons; (· walk_at "rep")))
local macro_rules | `(tactic| walk_at "step") => `(tactic| first
  | ((with_reducible apply w_var); rfl)
  | (with_reducible apply w_c)
  | (with_reducible apply w_op)
  | (with_reducible apply w_I0)
  | ((with_reducible apply w_ix); (· assumption); (· walk_at "tp"); (· decide); (· rfl); (intro x hx; first | (have e := Rep.intI hx; subst e; clear hx) | (have e := Rep.strI hx; subst e; clear hx) | (have e := Rep.blI hx; subst e; clear hx) | skip))
  | ((with_reducible apply w_ixU); (· assumption); (· walk_at "tp"); (· decide); (· rfl))
  | (with_reducible apply w_eqS)
  | (with_reducible apply w_eqI)
  | (with_reducible apply w_eqB)
  | (with_reducible apply w_neB)
  | (with_reducible apply w_test)
  | (with_reducible apply w_tB)
  | (with_reducible apply w_and)
  | (with_reducible apply w_or)
  | (with_reducible apply w_not)
  | (with_reducible apply w_nil)
  | (with_reducible apply w_cons)
  | (with_reducible apply w_CB)
  | (with_reducible apply w_call)
  | (with_reducible apply w_seq)
  | (with_reducible apply w_asg)
  | (with_reducible apply w_gname)
  | (with_reducible apply w_drop)
  | (with_reducible apply w_ret)
  | (with_reducible apply w_ifS)
  | (with_reducible apply w_next)
  | (with_reducible apply w_ifE)
  | (with_reducible apply w_andV)
  | (with_reducible apply w_orV)
  | (with_reducible apply w_notV)
  | (with_reducible apply w_tupE)
  | (with_reducible apply w_lstE)
  | (with_reducible apply w_bl)
  | ((with_reducible apply w_aug); rfl)
  | (with_reducible apply w_ip)
  | (with_reducible apply w_for1)
  | (with_reducible apply w_for2)
  | (with_reducible apply w_forT)
  | (with_reducible apply w_forL)
  | ((with_reducible apply w_lenD); (· assumption); (· walk_at "tp"))
  | (with_reducible apply w_min)
  | (with_reducible apply w_intI)
  | (with_reducible apply w_intB)
  | ((with_reducible apply w_I); (· first | decide | exact (by decide : (1000 : Int) ≠ 0) | exact ⟨by decide, by decide⟩ | exact ⟨by decide, by decide, by decide⟩ | exact .inr ⟨by decide, by decide⟩ | exact .inl ⟨by decide, by decide⟩))
  | (with_reducible apply w_bm)
  | (with_reducible apply w_bm0)
  | ((with_reducible apply w_tyL); (· assumption))
  | (with_reducible apply w_gsub)
  | (with_reducible apply w_fld)
  | (with_reducible apply w_gcons)
  | (with_reducible apply w_gnil)
  | ((with_reducible apply w_gtup); (· assumption); (· walk_at "tp"); (· rfl))
  | (with_reducible apply w_meth)
  | (with_reducible apply w_lc1)
  | (with_reducible apply w_lcL)
  | (with_reducible apply w_lcT)
  | (with_reducible apply w_yes)
  | (with_reducible apply w_m1)
  | (with_reducible apply w_dnotin)
  | (with_reducible apply w_din)
  | (with_reducible apply w_dget)
  | (with_reducible apply w_dput)
  | ((with_reducible apply w_ixL); (· assumption); (· decide); (· rfl)))
local macro_rules | `(tactic| walk_at "go") => `(tactic| repeat walk_at "step")
local macro_rules | `(tactic| walk_at "set") => `(tactic| dsimp only [List.set_cons_succ, List.set_cons_zero])

def ExOk (np : Nat) : Nat → Ex → Prop
  | _, .place p l m c => p < np ∧ 1 ≤ l ∧ l ≤ m ∧ m ≤ 8 ∧ c ≤ 2
  | 0, .two _ _ _ => False
  | 0, .rep _ _ => False
  | d + 1, .two _ a b => ExOk np d a ∧ ExOk np d b
  | d + 1, .rep k a => k < 3 ∧ ExOk np d a
theorem ExOk.up {np : Nat} : ∀ {d : Nat} {e : Ex}, ExOk np d e → ExOk np (d + 1) e
  | 0, .place _ _ _ _, h => h
  | _ + 1, .place _ _ _ _, h => h
  | d + 1, .two _ _ _, h => ⟨ExOk.up h.1, ExOk.up h.2⟩
  | d + 1, .rep _ _, h => ⟨h.1, ExOk.up h.2⟩
def dirS (ac : Bool) : Str := if ac then "across" else "down"
def Part3 (p : Part) : Prop := Leaf3 p ∨ isStrip p = true
section
variable {P : Program} {w : World} {K : PySem.W.Frag} {mg : Str → Option Value} {base : Heap} {H H' : Hp} {b p : Addr}
/-- the list of the parts so far -/
def PL (H : Hp) (pa : Addr) (ps : List Part) : Prop := ∃ vs, H pa = some (.lst vs) ∧ RepL H (ps.map encPart) vs
theorem PL.gr {S : Addr → Prop} {pa : Addr} {ps : List Part} (x : PL H pa ps) (g : Gr S H H') (h : ¬ S pa) : PL H' pa ps :=
  let ⟨vs, h1, h2⟩ := x; ⟨vs, g.lst h h1, h2.mono g.tp⟩
def spPlace : Sp := fun vs H Q _ => ∃ (b l : Addr) (ds : List Int) (pa : Addr) (ps : List Part) (ac : Bool), vs = [.ref b, .ref pa, .str (dirS ac)] ∧ Bx H b l ds ∧ pa ≠ b ∧ PL H pa ps ∧ 1 ≤ ps.length ∧ ps.length ≤ 100 ∧ (∀ p ∈ ps, Part3 p) ∧
  ∀ (v : V) (e : Ex) (H' : Hp), ExOk ps.length 0 e → Gr (S1 b) H H' → Bx H' b l ds → Rep H' (encEx e) v → Q v H'
theorem sc_l_place : FnScope ["_law_box", "_law_parts_here", "_law_direction", "_law_number", "_law_part", "_law_cost_here", "_law_size", "_law_least"] ["_law_box", "_law_parts_here", "_law_direction"] (defScope (top 38)) := ⟨rfl, rfl, rfl, by decide +kernel, rfl, by decide +kernel, by decide +kernel⟩
theorem ok_l_place (R : Raw K mg "_law_place" (top 38) ["_law_box", "_law_parts_here", "_law_direction"]) (B : Bi mg) (D_l_draw : Def P w K mg base 1 "_law_draw" ["_law_box", "_law_many"] spDraw) : Def P w K mg base 2 "_law_place" ["_law_box", "_law_parts_here", "_law_direction"] spPlace := by
  refine R.ok sc_l_place (fun vs H Q E h => ?_) (fun f cdv A outer s H vs Q E hr h => ?_)
  · obtain ⟨_, _, _, _, _, _, rfl, _⟩ := h; rfl
  obtain ⟨b, bl, bd, pa, ps, ac, rfl, hb, hpa, hpl, hn, hn2, hps, q⟩ := h
  refine ⟨_, (pss_cons (ps_set (i := 3) sc_l_place.nd rfl (.inl rfl) (pe_op op_modN (pe_callTy cx_int (by rfl) B.int bo_int (pa_cons (pe_d D_l_draw hr (by rfl) (pa_cons (pv 0) (pa_cons pe_int pa_nil))) pa_nil)) (pe_callB (ck_len (K := K) rfl) (by rfl) B.len bo_len (pa_cons (pv 1) pa_nil))))
    (pss_cons (ps_set (i := 4) sc_l_place.nd rfl (.inl rfl) (pe_ix (ix_sq (K := K) rfl) (pv 1) (pv 3) (fun _ _ => rfl)))
    (pss_cons (ps_set (i := 5) sc_l_place.nd rfl (.inl rfl) (pe_d D_l_draw hr (by rfl) (pa_cons (pv 0) (pa_cons pe_int pa_nil))))
    (pss_cons (ps_if (PW.pt (pw_and (pt_cmpR op_eq (pe_ix (ix_sq (K := K) rfl) (pv 4) pe_int (fun _ _ => rfl)) pe_str (nomark _)) (pw_and1 (pt_cmpR op_gt (pe_d D_l_draw hr (by rfl) (pa_cons (pv 0) (pa_cons pe_int pa_nil))) pe_int (nomark _)))))
      (pss_cons (ps_set (i := 6) sc_l_place.nd rfl (.inl rfl) (pe_callB (ck_len (K := K) rfl) (by rfl) B.len bo_len (pa_cons (pe_ix (ix_sq (K := K) rfl) (pv 4) pe_int (fun _ _ => rfl)) pa_nil)))
      (pss_cons (ps_if (pt_cmpR op_eq (pv 2) pe_str (nomark _))
        (pss_one (ps_set (i := 6) sc_l_place.nd rfl (.inl rfl) (pe_callB (ck_len (K := K) rfl) (by rfl) B.len bo_len (pa_cons (pe_ix (ix_sq (K := K) rfl) (pe_ix (ix_sq (K := K) rfl) (pv 4) pe_int (fun _ _ => rfl)) pe_int (fun _ _ => rfl)) pa_nil))))
        pss_nil)
      (pss_one (ps_ret (pe_tup (pa_cons pe_str (pa_cons (pv 3) (pa_cons (pv 6) (pa_cons (pv 6) (pa_cons (pv 5) pa_nil))))))))))
      pss_nil)
    (pss_cons (ps_set (i := 7) sc_l_place.nd rfl (.inl rfl) (pe_op op_add pe_int (pe_d D_l_draw hr (by rfl) (pa_cons (pv 0) (pa_cons pe_int pa_nil)))))
    (pss_one (ps_ret (pe_tup (pa_cons pe_str (pa_cons (pv 3) (pa_cons (pv 7) (pa_cons (pe_op op_add (pv 7) (pe_d D_l_draw hr (by rfl) (pa_cons (pv 0) (pa_cons pe_int pa_nil)))) (pa_cons (pv 5) pa_nil))))))))))))), ?_⟩
  walk_at "go"
  refine ⟨b, bl, bd, 600, rfl, by decide, hb, fun v1 H1 hv1 g1 hb1 => ?_⟩
  have hpl1 := hpl.gr g1 hpa
  obtain ⟨pvs, hp1, hl1⟩ := id hpl1
  have hlen : pvs.length = ps.length := by rw [← hl1.length, List.length_map]
  walk_at "go"
  refine w_lenL hp1 ?_
  obtain ⟨n, hn', en⟩ := fmod_nat (v1 : Int) (m := pvs.length) (by omega)
  refine w_I (show ((pvs.length : Nat) : Int) ≠ 0 by omega) ?_
  rw [en]
  walk_at "go"
  obtain ⟨x, hx, rx⟩ := hl1.get (n := n) (d := encPart (ps[n]'(by omega))) (by rw [List.getElem?_map, List.getElem?_eq_getElem (by omega)]; rfl)
  have hmem : ps[n]'(by omega) ∈ ps := List.getElem_mem _
  refine w_ixL hp1 (by omega) (by rw [Int.toNat_natCast]; exact hx) ?_
  walk_at "go"
  refine ⟨b, bl, bd, 3, rfl, by decide, hb1, fun cs H2 hcs g2 hb2 => ?_⟩
  have G2 : Gr (S1 b) H H2 := g1.trans g2
  have rx2 := rx.mono g2.tp
  -- the plain ending
  have fin : ∀ {x : V} {z : Option V} {H3 : Hp}, Gr (S1 b) H H3 → Bx H3 b bl bd → tSeq (tAsg (tOp (rI0 fun i j => V.int (i + j)) (tC (.int 1)) (tCall spDraw [] E0 (tCons (tVar 0) (tCons (tC (.int 2)) tNil)))) (gName 7))
      (tRet (tTup (tCons (tC (.str "place")) (tCons (tVar 3) (tCons (tVar 7) (tCons (tOp (rI0 fun i j => V.int (i + j)) (tVar 7) (tCall spDraw [] E0 (tCons (tVar 0) (tCons (tC (.int 3)) tNil)))) (tCons (tVar 5) tNil)))))))
      { nx := fun _ H' => Q .non H', rt := Q } [some (.ref b), some (.ref pa), some (.str (dirS ac)), some (.int n), some x, some (.int cs), z, none] H3 := by
    intro x z H3 g3 hb3
    walk_at "go"
    refine ⟨b, bl, bd, 2, rfl, by decide, hb3, fun v3 H4 hv3 g4 hb4 => ?_⟩
    walk_at "go"
    refine ⟨b, bl, bd, 3, rfl, by decide, hb4, fun v4 H5 hv4 g5 hb5 => ?_⟩
    walk_at "go"
    refine tup_new (by walk_at "repl") (by simp) fun p H' _ _ g hp => ?_
    exact q _ (.place n (1 + v3) (1 + v3 + v4) cs) H' ⟨by omega, by omega, by omega, by omega, by omega⟩ (((g3.trans g4).trans g5).trans g.any) (hb5.gr g) hp
  walk_at "go"
  rcases hps _ hmem with ⟨lo, _⟩ | hst
  · cases hpp : ps[n]'(by omega) with
    | strip => rw [hpp] at lo; exact absurd lo id
    | plain nm lb c bb =>
      rw [hpp] at rx2 
      walk_at "go"
      refine if_of (fun h => absurd h (by decide +kernel)) (fun h => ?_)
      exact fin G2 hb2
    | shape nm lb c rows =>
      rw [hpp] at rx2 lo
      walk_at "go"
      refine if_of (fun h => ?_) (fun h => absurd h (by decide +kernel))
      walk_at "go"
      refine ⟨b, bl, bd, 4, rfl, by decide, hb2, fun v3 H3 hv3 g3 hb3 => ?_⟩
      have rx3 := rx2.mono g3.tp
      walk_at "go"
      refine if_of (fun h => ?_) (fun h => ?_)
      · obtain ⟨l1, l2, wd, l3, l5, l4⟩ := lo
        have hw : (rows.getD 0 Str.empty).length = wd := l4 _ (mem_getD (by omega))
        have G3 := G2.trans g3
        walk_at "go"
        rw [List.length_map]
        walk_at "go"
        cases ac with
        | false =>
          refine if_of (fun h => absurd h (by decide +kernel)) (fun h => ?_)
          walk_at "go"
          refine tup_new (by walk_at "repl") (by simp) fun p H' _ _ g hp => ?_
          exact q _ (.place n rows.length rows.length cs) H' ⟨by omega, by omega, by omega, by omega, by omega⟩ (G3.trans g.any) (hb3.gr g) hp
        | true =>
          refine if_of (fun h => ?_) (fun h => absurd h (by decide +kernel))
          walk_at "go"
          refine w_ix (by assumption) (Tp.refl _) (by decide) (enc_get (l := rows) (i := 0) (by omega)) (fun z hz => ?_)
          have e := Rep.strI hz; subst e
          walk_at "go"
          refine w_lenS ?_ ?_
          · omega
          walk_at "go"
          refine tup_new (by walk_at "repl") (by simp) fun p H' _ _ g hp => ?_
          exact q _ (.place n (rows.getD 0 Str.empty).length (rows.getD 0 Str.empty).length cs) H' ⟨by omega, by omega, by omega, by omega, by omega⟩ (G3.trans g.any) (hb3.gr g) hp
      · exact fin (G2.trans g3) hb3
  · cases hpp : ps[n]'(by omega) with
    | strip a1 a2 a3 a4 =>
      rw [hpp] at rx2 
      walk_at "go"
      cases a1
      · refine if_of (fun h => absurd h (by decide +kernel)) (fun h => ?_)
        exact fin G2 hb2
      · refine if_of (fun h => absurd h (by decide +kernel)) (fun h => ?_)
        exact fin G2 hb2
    | plain => rw [hpp] at hst; cases hst
    | shape => rw [hpp] at hst; cases hst
/-! ### choices: every depth below d -/
theorem Raw.zero {nm : Str} {st : Stmt} {ps : List Str} {sp : Sp} (R : Raw K mg nm st ps) (h : ∀ vs H Q E, ¬ sp vs H Q E) : Def P w K mg base 0 nm ps sp := by
  obtain ⟨f, fd, F, m, b⟩ := R
  exact ⟨f, fd, ⟨fun vs H Q E z => absurd z (h vs H Q E), fun A outer s H args us vs Q E _ _ _ _ z => absurd z (h vs H Q E)⟩, m, F.kp, b⟩
def spChoice (d : Nat) : Sp := fun vs H Q _ => ∃ (b l : Addr) (ds : List Int) (pa : Addr) (ps : List Part) (ac : Bool) (n : Nat), vs = [.ref b, .ref pa, .str (dirS ac), .int n] ∧ n < d ∧ Bx H b l ds ∧ pa ≠ b ∧ PL H pa ps ∧ 1 ≤ ps.length ∧ ps.length ≤ 100 ∧ (∀ p ∈ ps, Part3 p) ∧
  ∀ (v : V) (e : Ex) (H' : Hp), ExOk ps.length n e → Gr (S1 b) H H' → Bx H' b l ds → Rep H' (encEx e) v → Q v H'
theorem ExOk.place {np n : Nat} {e : Ex} (h : ExOk np 0 e) : ExOk np n e := by
  induction n with
  | zero => exact h
  | succ n ih => exact ih.up
theorem sc_l_choice : FnScope ["_law_box", "_law_parts_here", "_law_direction", "_law_depth", "_law_kind", "_law_items", "_law_k"] ["_law_box", "_law_parts_here", "_law_direction", "_law_depth"] (defScope (top 39)) := ⟨rfl, rfl, rfl, by decide +kernel, rfl, by decide +kernel, by decide +kernel⟩
theorem ok_l_choice (d : Nat) (R : Raw K mg "_law_choice" (top 39) ["_law_box", "_law_parts_here", "_law_direction", "_law_depth"]) (B : Bi mg) (D_l_draw : Def P w K mg base (d + 2) "_law_draw" ["_law_box", "_law_many"] spDraw) (D_l_place : Def P w K mg base (d + 2) "_law_place" ["_law_box", "_law_parts_here", "_law_direction"] spPlace) (D_l_choice : Def P w K mg base (d + 2) "_law_choice" ["_law_box", "_law_parts_here", "_law_direction", "_law_depth"] (spChoice d)) : Def P w K mg base (d + 3) "_law_choice" ["_law_box", "_law_parts_here", "_law_direction", "_law_depth"] (spChoice (d + 1)) := by
  refine R.ok sc_l_choice (fun vs H Q E h => ?_) (fun f cdv A outer s H vs Q E hr h => ?_)
  · obtain ⟨_, _, _, _, _, _, _, rfl, _⟩ := h; rfl
  obtain ⟨b, bl, bd, pa, ps, ac, n, rfl, hd, hb, hpa, hpl, hn, hn2, hps, q⟩ := h
  refine ⟨_, (pss_cons (ps_set (i := 4) sc_l_choice.nd rfl (.inl rfl) (pe_d D_l_draw hr (by rfl) (pa_cons (pv 0) (pa_cons pe_int pa_nil))))
    (pss_cons (ps_if (PW.pt (pw_or (pt_cmpR op_eq (pv 3) pe_int (nomark _)) (pw_or1 (pt_cmpR op_lt (pv 4) pe_int (nomark _)))))
      (pss_one (ps_ret (pe_d D_l_place hr (by rfl) (pa_cons (pv 0) (pa_cons (pv 1) (pa_cons (pv 2) pa_nil))))))
      pss_nil)
    (pss_cons (ps_if (pt_cmpR op_lt (pv 4) pe_int (nomark _))
      (pss_cons (ps_set (i := 5) sc_l_choice.nd rfl (.inl rfl) (pe_callTy (ck_tup (K := K) rfl) (by rfl) B.tuple bo_tuple (pa_cons (pe_lc (own := [("_law_k", 6)]) (g := gName 6) rfl sc_l_choice.nd (pi_range1 (by rfl) B.range (pa_cons pe_int pa_nil)) (blkOk_by (N := ["_law_box", "_law_parts_here", "_law_direction", "_law_depth", "_law_kind", "_law_items", "_law_k"]) (sc := defScope (top 39)) (by decide +kernel)) (fun _ _ _ _ _ => pg_name (i := 6) sc_l_choice.nd rfl (.inl rfl)) (fun _ _ _ _ _ => pts_nil) (fun _ _ _ _ _ => (pe_d D_l_choice hr (by rfl) (pa_cons (pv 0) (pa_cons (pv 1) (pa_cons (pv 2) (pa_cons (pe_op op_sub (pv 3) pe_int) pa_nil))))))) pa_nil)))
      (pss_one (ps_ret (pe_tup (pa_cons (pe_ix (ix_sq (K := K) rfl) (pe_lst (pa_cons pe_str (pa_cons pe_str pa_nil))) (pe_op op_modN (pe_callTy cx_int (by rfl) B.int bo_int (pa_cons (pv 4) pa_nil)) pe_int) (fun _ _ => rfl)) (pa_cons (pv 5) pa_nil))))))
      pss_nil)
    (pss_one (ps_ret (pe_tup (pa_cons (pe_ix (ix_sq (K := K) rfl) (pe_lst (pa_cons pe_str (pa_cons pe_str (pa_cons pe_str pa_nil)))) (pe_d D_l_draw hr (by rfl) (pa_cons (pv 0) (pa_cons pe_int pa_nil))) (fun _ _ => rfl)) (pa_cons (pe_d D_l_choice hr (by rfl) (pa_cons (pv 0) (pa_cons (pv 1) (pa_cons (pv 2) (pa_cons (pe_op op_sub (pv 3) pe_int) pa_nil))))) pa_nil)))))))), ?_⟩
  walk_at "go"
  refine ⟨b, bl, bd, 8, rfl, by decide, hb, fun kd H1 hkd g1 hb1 => ?_⟩
  have hpl1 := hpl.gr g1 hpa
  have fin : ∀ {z : Option V} {R' : VK} {E' : XK}, (∀ v H', Q v H' → R' v H') → spPlace [.ref b, .ref pa, .str (dirS ac)] H1 R' E' := fun hR =>
    ⟨b, bl, bd, pa, ps, ac, rfl, hb1, hpa, hpl1, hn, hn2, hps, fun v e H' he g hb' hv => hR v H' (q v e H' he.place (g1.trans g) hb' hv)⟩
  walk_at "go"
  refine if_of (fun h => ?_) (fun h0 => ?_)
  · walk_at "go"
    refine if_of (fun h => ?_) (fun h => absurd h (by decide))
    walk_at "go"
    exact fin (z := none) fun _ _ z => z
  have hn0 := of_decide_eq_false h0
  obtain ⟨n', rfl⟩ : ∃ n', n = n' + 1 := ⟨n - 1, by omega⟩
  have e1 : ((n' + 1 : Nat) : Int) - 1 = (n' : Nat) := by omega
  walk_at "go"
  refine if_of (fun h => ?_) (fun h => ?_)
  · walk_at "go"
    exact fin (z := none) fun _ _ z => z
  walk_at "go"
  refine if_of (fun h => ?_) (fun h => ?_)
  · -- two items
    walk_at "go"
    refine lcR1 (n := 2) rfl (by omega) (fun D i H' => ∃ es : List Ex, Gr (S1 b) H1 H' ∧ Bx H' b bl bd ∧ (∃ vs, H' D = some (.lst vs) ∧ RepL H' (es.map encEx) vs) ∧ es.length = i ∧ ∀ e ∈ es, ExOk ps.length n' e)
      (fun D hD => ⟨[], Gr.new hD, hb1.gr (Gr.new hD), ⟨[], upd_same, .nil⟩, rfl, fun e he => absurd he (by simp)⟩) (fun D i H' hD hi hp => ?_) (fun D H' hD hp => ?_)
    · obtain ⟨es, g2, hb2, ⟨vs, hv, hl⟩, hc, he⟩ := hp
      walk_at "go"
      rw [e1]
      refine ⟨b, bl, bd, pa, ps, ac, n', rfl, by omega, hb2, hpa, hpl1.gr g2 hpa, hn, hn2, hps, fun v e H3 he3 g3 hb3 hv3 => ?_⟩
      have hD3 := g3.lst (hb1.ne hD) hv
      refine w_put hD3 (small6 (by rw [← hl.length, List.length_map]; omega)) ?_
      refine ⟨es ++ [e], (g2.trans g3).setL (.inl hD) hD3, hb3.set hb1 hD, ⟨_, upd_same, ?_⟩, by rw [List.length_append, List.length_singleton]; omega, fun y hy => ?_⟩
      · rw [List.map_append]
        exact ((hl.mono g3.tp).append (.cons hv3 .nil)).mono (Tp.setL hD3)
      · rcases List.mem_append.mp hy with hy | hy
        · exact he y hy
        · rw [List.mem_singleton.mp hy]; exact he3
    · obtain ⟨es, g2, hb2, ⟨vs, hv, hl⟩, hc, he⟩ := hp
      obtain ⟨a1, a2, rfl⟩ : ∃ a1 a2, es = [a1, a2] := by
        match es, hc with
        | [a1, a2], _ => exact ⟨a1, a2, rfl⟩
      walk_at "go"
      refine w_tupOf hv hl fun vt H3 g3 hvt => ?_
      walk_at "go"
      refine lst_new (by decide) fun p H4 pn hp g4 => ?_
      walk_at "go"
      obtain ⟨k2, hk2, ek⟩ := fmod_nat (kd : Int) (m := 2) (by decide)
      have ek' : (kd : Int).fmod 2 = (k2 : Nat) := ek
      rw [ek']
      have hx : [V.str "sequence", V.str "choice"][k2]? = some (.str (if decide (k2 = 0) then "sequence" else "choice")) := by
        match k2, hk2 with
        | 0, _ => rfl
        | 1, _ => rfl
      refine w_ixL hp (by omega) (by rw [Int.toNat_natCast]; exact hx) ?_
      walk_at "go"
      refine tup_new (by walk_at "repl") (by simp) fun p5 H5 _ _ g5 hp5 => ?_
      exact q _ (.two (decide (k2 = 0)) a1 a2) H5 ⟨he a1 (by simp), he a2 (by simp)⟩ (((g1.trans g2).trans g3.any).trans (g4.any.trans g5.any)) (((hb2.gr g3).gr g4).gr g5) hp5
  · -- any, some, maybe
    walk_at "go"
    refine lst_new (by decide) fun p H4 pn hp g4 => ?_
    walk_at "go"
    refine ⟨b, bl, bd, 3, rfl, by decide, hb1.gr g4, fun k H5 hk g5 hb5 => ?_⟩
    have hp5 := g5.lst (hb1.ne pn) hp
    have hx : [V.str "any", V.str "some", V.str "maybe"][k]? = some (.str (kName k)) := by
      match k, hk with
      | 0, _ => rfl
      | 1, _ => rfl
      | 2, _ => rfl
    refine w_ixL hp5 (by omega) (by rw [Int.toNat_natCast]; exact hx) ?_
    walk_at "go"
    rw [e1]
    refine ⟨b, bl, bd, pa, ps, ac, n', rfl, by omega, hb5, hpa, (hpl1.gr g4 id).gr g5 hpa, hn, hn2, hps, fun v e H3 he3 g3 hb3 hv3 => ?_⟩
    walk_at "go"
    refine tup_new (by walk_at "repl") (by simp) fun p6 H6 _ _ g6 hp6 => ?_
    exact q _ (.rep k e) H6 ⟨hk, he3⟩ ((((g1.trans g4.any).trans g5).trans g3).trans g6.any) (hb3.gr g6) hp6
/-! ### all parts -/
/-- the expression of a strip: at most four places -/
def TopOk (np : Nat) (e : Ex) : Prop := ExOk np 2 e ∨ ∃ k a, e = .rep k a ∧ k < 3 ∧ ExOk np 2 a
/-- leaves first, then strips that name parts ahead of them -/
def PsOk (ps : List Part) (lf st : Nat) : Prop := ps.length = lf + st ∧ (∀ i p, ps[i]? = some p → i < lf → Leaf3 p) ∧ ∀ i p, ps[i]? = some p → lf ≤ i → ∃ ac nm jt e, p = .strip ac nm jt e ∧ TopOk i e
def spParts : Sp := fun vs H Q _ => ∃ (b l : Addr) (ds : List Int) (st : Nat), vs = [.ref b, .int 3, .int st] ∧ st ≤ 2 ∧ Bx H b l ds ∧
  ∀ (v : V) (ps : List Part) (lf : Nat) (H' : Hp), PsOk ps lf st → 2 ≤ lf → lf ≤ 4 → Gr (S1 b) H H' → Bx H' b l ds → Rep H' (partsD ps) v → Q v H'
theorem menu2 {s0 s1 : Str} {v : Nat} (h : v < 2) : [V.str s0, V.str s1][v]? = some (.str (if decide (v = 0) then s0 else s1)) := by
  match v, h with
  | 0, _ => rfl
  | 1, _ => rfl
theorem sstr : ∀ k : Nat, k < 8 → ("s" : Str).length + ((toString (k : Int) : String) : Str).length ≤ 1000 ∧ ((k : Int)).natAbs.log2 < 1920 := by decide +kernel
theorem PsOk.snoc {ps : List Part} {lf st : Nat} {ac : Bool} {nm jt : Str} {e : Ex} (h : PsOk ps lf st) (he : TopOk ps.length e) : PsOk (ps ++ [.strip ac nm jt e]) lf (st + 1) := by
  obtain ⟨h1, h2, h3⟩ := h
  refine ⟨by rw [List.length_append, List.length_singleton]; omega, fun i p hi hl => ?_, fun i p hi hl => ?_⟩
  · rw [List.getElem?_append_left (by omega)] at hi
    exact h2 i p hi hl
  · by_cases hlt : i < ps.length
    · rw [List.getElem?_append_left hlt] at hi
      exact h3 i p hi hl
    · rw [List.getElem?_append_right (by omega)] at hi
      have hi0 : i - ps.length < 1 := (List.getElem?_eq_some_iff.mp hi).1
      have ei : i = ps.length := by omega
      subst ei
      rw [Nat.sub_self] at hi
      cases hi
      exact ⟨ac, nm, jt, e, rfl, he⟩
theorem PsOk.all {ps : List Part} {lf st : Nat} (h : PsOk ps lf st) : ∀ p ∈ ps, Part3 p := fun p hp => by
  obtain ⟨i, hi⟩ := List.getElem?_of_mem hp
  by_cases hl : i < lf
  · exact .inl (h.2.1 i p hi hl)
  · obtain ⟨ac, nm, jt, e, rfl, _⟩ := h.2.2 i p hi (by omega)
    exact .inr rfl
theorem sc_l_parts : FnScope ["_law_box", "_law_wide", "_law_strips", "_law_parts_here", "_law_k", "_law_direction", "_law_choice_here"] ["_law_box", "_law_wide", "_law_strips"] (defScope (top 40)) := ⟨rfl, rfl, rfl, by decide +kernel, rfl, by decide +kernel, by decide +kernel⟩
theorem ok_l_parts (R : Raw K mg "_law_parts" (top 40) ["_law_box", "_law_wide", "_law_strips"]) (B : Bi mg) (D_l_draw : Def P w K mg base 5 "_law_draw" ["_law_box", "_law_many"] spDraw) (D_l_leaf : Def P w K mg base 5 "_law_leaf" ["_law_box", "_law_k", "_law_wide"] spLeaf) (D_l_choice : Def P w K mg base 5 "_law_choice" ["_law_box", "_law_parts_here", "_law_direction", "_law_depth"] (spChoice 3)) : Def P w K mg base 6 "_law_parts" ["_law_box", "_law_wide", "_law_strips"] spParts := by
  refine R.ok sc_l_parts (fun vs H Q E h => ?_) (fun f cdv A outer s H vs Q E hr h => ?_)
  · obtain ⟨_, _, _, _, rfl, _⟩ := h; rfl
  obtain ⟨b, bl, bd, st, rfl, hst, hb, q⟩ := h
  refine ⟨_, (pss_cons (ps_set (i := 3) sc_l_parts.nd rfl (.inl rfl) (pe_lst pa_nil))
    (pss_cons (ps_for PassesOwn.never rfl (pi_range1 (by rfl) B.range (pa_cons (pe_op op_add pe_int (pe_d D_l_draw hr (by rfl) (pa_cons (pv 0) (pa_cons pe_int pa_nil)))) pa_nil)) (pg_name (i := 4) sc_l_parts.nd rfl (.inl rfl))
      (pss_one (ps_expr (pe_bm PySem.F.plainAttrs_list PySem.F.slot_list_append PySem.F.type_list_append mt_append (pv 3) (pa_cons (pe_d D_l_leaf hr (by rfl) (pa_cons (pv 0) (pa_cons (pv 4) (pa_cons (pv 1) pa_nil)))) pa_nil)))))
    (pss_cons (ps_for PassesOwn.never rfl (pi_range1 (by rfl) B.range (pa_cons (pv 2) pa_nil)) (pg_name (i := 4) sc_l_parts.nd rfl (.inl rfl))
      (pss_cons (ps_set (i := 5) sc_l_parts.nd rfl (.inl rfl) (pe_ix (ix_sq (K := K) rfl) (pe_lst (pa_cons pe_str (pa_cons pe_str pa_nil))) (pe_d D_l_draw hr (by rfl) (pa_cons (pv 0) (pa_cons pe_int pa_nil))) (fun _ _ => rfl)))
      (pss_cons (ps_set (i := 6) sc_l_parts.nd rfl (.inl rfl) (pe_tup (pa_cons (pe_ix (ix_sq (K := K) rfl) (pe_lst (pa_cons pe_str (pa_cons pe_str (pa_cons pe_str pa_nil)))) (pe_d D_l_draw hr (by rfl) (pa_cons (pv 0) (pa_cons pe_int pa_nil))) (fun _ _ => rfl)) (pa_cons (pe_d D_l_choice hr (by rfl) (pa_cons (pv 0) (pa_cons (pv 3) (pa_cons (pv 5) (pa_cons pe_int pa_nil))))) pa_nil))))
      (pss_cons (ps_if (pt_cmpR op_eq (pe_d D_l_draw hr (by rfl) (pa_cons (pv 0) (pa_cons pe_int pa_nil))) pe_int (nomark _))
        (pss_one (ps_set (i := 6) sc_l_parts.nd rfl (.inl rfl) (pe_ix (ix_sq (K := K) rfl) (pv 6) pe_int (fun _ _ => rfl))))
        pss_nil)
      (pss_one (ps_expr (pe_bm PySem.F.plainAttrs_list PySem.F.slot_list_append PySem.F.type_list_append mt_append (pv 3) (pa_cons (pe_tup (pa_cons (pv 5) (pa_cons (pe_op op_add_str pe_str (pe_callTy cx_str (by rfl) B.str bo_str (pa_cons (pv 4) pa_nil))) (pa_cons (pe_ix (ix_sq (K := K) rfl) (pe_lst (pa_cons pe_str (pa_cons pe_str (pa_cons pe_str pa_nil)))) (pe_d D_l_draw hr (by rfl) (pa_cons (pv 0) (pa_cons pe_int pa_nil))) (fun _ _ => rfl)) (pa_cons (pv 6) pa_nil))))) pa_nil))))))))
    (pss_one (ps_ret (pe_callTy (ck_tup (K := K) rfl) (by rfl) B.tuple bo_tuple (pa_cons (pv 3) pa_nil))))))), ?_⟩
  walk_at "go"
  refine lst_new (Nat.zero_le _) fun pa H1 pn hp g1 => ?_
  walk_at "go"
  refine ⟨b, bl, bd, 3, rfl, by decide, hb.gr g1, fun nl H2 hnl g2 hb2 => ?_⟩
  have pb := hb.ne pn
  have hp2 := g2.lst pb hp
  walk_at "go"
  refine rng1 (n := 2 + nl) (by omega) (fun j σ H' => j ≤ 5 ∧ ∃ (ps : List Part) (d : Option V), σ = [some (.ref b), some (.int 3), some (.int st), some (.ref pa), d, none, none] ∧ Gr (S1 b) H H' ∧ Bx H' b bl bd ∧ PL H' pa ps ∧ PsOk ps j 0) ⟨by omega, [], none, rfl, g1.any.trans g2, hb2, ⟨[], hp2, .nil⟩, rfl, fun i p h => by simp at h, fun i p h => by simp at h⟩ (fun j σ H3 hj hp3 => ?_) (fun σ H3 hp3 => ?_)
  · obtain ⟨_, ps, d, rfl, g3, hb3, ⟨vs, hv, hl⟩, ok⟩ := hp3
    walk_at "go"
    refine ⟨b, bl, bd, j, rfl, by omega, hb3, fun v p H4 hp4 g4 hb4 hv4 => ?_⟩
    have hv' := g4.lst pb hv
    walk_at "go"
    refine w_append hv' (small6 (by rw [← hl.length, List.length_map, ok.1]; omega)) ?_
    walk_at "go"
    refine ⟨by omega, ps ++ [p], _, rfl, (g3.trans g4).setL (.inl pn) hv', hb4.set hb pn, ⟨_, upd_same, ?_⟩, ?_, fun i p' hi hil => ?_, fun i p' hi hil => ?_⟩
    · rw [List.map_append]
      exact ((hl.mono g4.tp).append (.cons hv4 .nil)).mono (Tp.setL hv')
    · rw [List.length_append, List.length_singleton, ok.1]
    · by_cases hlt : i < ps.length
      · rw [List.getElem?_append_left hlt] at hi
        exact ok.2.1 i p' hi (by have := ok.1; omega)
      · rw [List.getElem?_append_right (by omega)] at hi
        have hi0 : i - ps.length < 1 := (List.getElem?_eq_some_iff.mp hi).1
        have ei : i = ps.length := by omega
        subst ei
        rw [Nat.sub_self] at hi
        cases hi
        exact hp4
    · have := (List.getElem?_eq_some_iff.mp hi).1
      rw [List.length_append, List.length_singleton, ok.1] at this
      omega
  · obtain ⟨_, ps, d, rfl, g3, hb3, hpl, ok⟩ := hp3
    walk_at "go"
    refine rng1 (n := st) (by omega) (fun j σ H' => j ≤ 2 ∧ ∃ (ps : List Part) (d d1 d2 : Option V), σ = [some (.ref b), some (.int 3), some (.int st), some (.ref pa), d, d1, d2] ∧ Gr (S1 b) H H' ∧ Bx H' b bl bd ∧ PL H' pa ps ∧ PsOk ps (2 + nl) j) ⟨by omega, ps, d, none, none, rfl, g3, hb3, hpl, ok⟩ (fun j σ H4 hj hp4 => ?_) (fun σ H4 hp4 => ?_)
    · obtain ⟨_, ps, d, d1, d2, rfl, g4, hb4, hpl4, ok⟩ := hp4
      have hlen := ok.1
      walk_at "go"
      refine lst_new (by decide) fun m5 H5 mn5 hm5 g5 => ?_
      walk_at "go"
      refine ⟨b, bl, bd, 2, rfl, by decide, hb4.gr g5, fun v5 H6 hv5 g6 hb6 => ?_⟩
      refine w_ixL (g6.lst (hb4.ne mn5) hm5) (by omega) (by rw [Int.toNat_natCast]; exact menu2 hv5) ?_
      walk_at "go"
      refine lst_new (by decide) fun m7 H7 mn7 hm7 g7 => ?_
      walk_at "go"
      refine ⟨b, bl, bd, 3, rfl, by decide, hb6.gr g7, fun v8 H8 hv8 g8 hb8 => ?_⟩
      have hx : [V.str "any", V.str "some", V.str "any"][v8]? = some (.str (kName (if v8 = 1 then 1 else 0))) := by
        match v8, hv8 with
        | 0, _ => rfl
        | 1, _ => rfl
        | 2, _ => rfl
      refine w_ixL (g8.lst (hb6.ne mn7) hm7) (by omega) (by rw [Int.toNat_natCast]; exact hx) ?_
      walk_at "go"
      have pl8 : PL H8 pa ps := (((hpl4.gr g5 id).gr g6 pb).gr g7 id).gr g8 pb
      refine ⟨b, bl, bd, pa, ps, decide (v5 = 0), 2, rfl, by decide, hb8, pb, pl8, by omega, by omega, ok.all, fun v9 e9 H9 he9 g9 hb9 hv9 => ?_⟩
      walk_at "go"
      refine tup_new (by walk_at "repl") (by simp) fun p10 H10 _ _ g10 hp10 => ?_
      walk_at "go"
      refine ⟨b, bl, bd, 3, rfl, by decide, hb9.gr g10, fun v11 H11 hv11 g11 hb11 => ?_⟩
      walk_at "go"
      have G11 : Gr (S1 b) H4 H11 := ((((((g5.any.trans g6).trans g7.any).trans g8).trans g9).trans g10.any).trans g11)
      obtain ⟨k1, k2⟩ := sstr j (by omega)
      have hv9' := hv9.mono (g10.tp.trans g11.tp)
      have hp10' := hp10.mono g11.tp
      obtain ⟨vs11, ev11, hl11⟩ := ((pl8.gr g9 pb).gr g10 id).gr g11 pb
      refine if_of (fun h => ?wa) (fun h => ?wb)
      case' wa =>
        walk_at "go"
        rename_i z hz
        change Rep H11 (encEx e9) z at hz
        have he : TopOk ps.length e9 := .inl he9
        generalize e9 = e at hz he
      case' wb =>
        have hz := hp10'
        have he : TopOk ps.length (.rep (if v8 = 1 then 1 else 0) e9) := .inr ⟨_, e9, rfl, by (by_cases h8 : v8 = 1); (· rw [if_pos h8]; decide); (· rw [if_neg h8]; decide), he9⟩
        change Rep H11 (encEx (.rep (if v8 = 1 then 1 else 0) e9)) (.ref p10) at hz
        generalize Ex.rep (if v8 = 1 then 1 else 0) e9 = e at hz he
        generalize V.ref p10 = z at hz ⊢
      all_goals
        walk_at "go"
        refine ⟨_, rfl, k2, ?_⟩
        refine ⟨_, _, rfl, rfl, Nat.le_of_lt (small1000 k1), ?_⟩
        generalize ("s" : Str) ++ _ = nm
        walk_at "go"
        refine lst_new (by decide) fun m12 H12 mn12 hm12 g12 => ?_
        walk_at "go"
        refine ⟨b, bl, bd, 3, rfl, by decide, hb11.gr g12, fun v13 H13 hv13 g13 hb13 => ?_⟩
        obtain ⟨jt, hjt⟩ := menu3 (s0 := "") (s1 := "/") (s2 := " ") hv13
        refine w_ixL (g13.lst (hb11.ne mn12) hm12) (by omega) (by rw [Int.toNat_natCast]; exact hjt) ?_
        walk_at "go"
        refine tup_new (by walk_at "repl") (by simp) fun p14 H14 _ _ g14 hp14 => ?_
        have ev14 := g14.lst id (g13.lst pb (g12.lst id ev11))
        walk_at "go"
        refine w_append ev14 (small6 (by rw [← hl11.length, List.length_map]; omega)) ?_
        refine ⟨by omega, ps ++ [.strip (decide (v5 = 0)) nm jt e], _, _, _, rfl, ?_, ?_, ⟨_, upd_same, ?_⟩, ok.snoc he⟩
        · exact (g4.trans (G11.trans ((g12.any.trans g13).trans g14.any))).setL (.inl pn) ev14
        · exact (hb13.gr g14).set hb pn
        · rw [List.map_append]
          exact (((hl11.mono (g12.tp.trans (g13.tp.trans g14.tp)))).append (.cons hp14 .nil)).mono (Tp.setL ev14)
    · obtain ⟨_, ps, d, d1, d2, rfl, g4, hb4, ⟨vs, hv, hl⟩, ok⟩ := hp4
      walk_at "go"
      refine w_tupOf hv hl fun v5 H5 g5 hv5 => ?_
      walk_at "go"
      exact q _ ps (2 + nl) H5 ok (by omega) (by omega) (g4.trans g5.any) (hb4.gr g5) hv5
end
end Sr
/-! SrM: the machine of an expression: places and what can stand behind which. -/
namespace Sr
open PySem PySem.Spec PyProof.Rows L2
local macro_rules | `(tactic| walk_at "tp") => `(tactic| first
  | exact Tp.refl _
  | assumption
  | exact Gr.tp (by assumption)
  | (refine Tp.trans ?_ (by first | assumption | exact Gr.tp (by assumption)); walk_at "tp"))
local macro_rules | `(tactic| walk_at "gr") => `(tactic| first
  | exact Gr.refl _ _
  | assumption
  | exact Gr.any (by assumption)
  | (refine Gr.trans ?_ (by first | assumption | exact Gr.any (by assumption)); walk_at "gr"))
local macro_rules | `(tactic| walk_at "rep") => `(tactic| first
  | exact Rep.int _ | exact Rep.str _ | exact Rep.bl _ | exact Rep.non
  | assumption
  | (refine Rep.mono ?_ (by assumption); walk_at "tp"))
local macro_rules | `(tactic| walk_at "repl") => `(tactic| repeat first
  | exact RepL.nil
  | (apply RepL.cons; (· walk_at "rep")))
local macro_rules | `(tactic| walk_at "step") => `(tactic| first
  | ((with_reducible apply w_var); rfl)
  | (with_reducible apply w_c)
  | (with_reducible apply w_op)
  | (with_reducible apply w_I0)
  | ((with_reducible apply w_ix); (· assumption); (· walk_at "tp"); (· decide); (· rfl); (intro x hx; first | (have e := Rep.intI hx; subst e; clear hx) | (have e := Rep.strI hx; subst e; clear hx) | (have e := Rep.blI hx; subst e; clear hx) | skip))
  | ((with_reducible apply w_ixU); (· assumption); (· walk_at "tp"); (· decide); (· rfl))
  | (with_reducible apply w_eqS)
  | (with_reducible apply w_eqI)
  | (with_reducible apply w_eqB)
  | (with_reducible apply w_neB)
  | (with_reducible apply w_test)
  | (with_reducible apply w_tB)
  | (with_reducible apply w_and)
  | (with_reducible apply w_or)
  | (with_reducible apply w_not)
  | (with_reducible apply w_nil)
  | (with_reducible apply w_cons)
  | (with_reducible apply w_CB)
  | (with_reducible apply w_call)
  | (with_reducible apply w_seq)
  | (with_reducible apply w_asg)
  | (with_reducible apply w_gname)
  | (with_reducible apply w_drop)
  | (with_reducible apply w_ret)
  | (with_reducible apply w_ifS)
  | (with_reducible apply w_next)
  | (with_reducible apply w_ifE)
  | (with_reducible apply w_andV)
  | (with_reducible apply w_orV)
  | (with_reducible apply w_notV)
  | (with_reducible apply w_tupE)
  | (with_reducible apply w_lstE)
  | (with_reducible apply w_bl)
  | ((with_reducible apply w_aug); rfl)
  | (with_reducible apply w_ip)
  | (with_reducible apply w_for1)
  | (with_reducible apply w_for2)
  | (with_reducible apply w_forT)
  | (with_reducible apply w_forL)
  | ((with_reducible apply w_lenD); (· assumption); (· walk_at "tp"))
  | (with_reducible apply w_min)
  | (with_reducible apply w_intI)
  | (with_reducible apply w_intB)
  | ((with_reducible apply w_I); (· first | decide | exact (by decide : (1000 : Int) ≠ 0) | exact ⟨by decide, by decide⟩ | exact ⟨by decide, by decide, by decide⟩ | exact .inr ⟨by decide, by decide⟩ | exact .inl ⟨by decide, by decide⟩))
  | (with_reducible apply w_bm)
  | (with_reducible apply w_bm0)
  | ((with_reducible apply w_tyL); (· assumption))
  | (with_reducible apply w_gsub)
  | (with_reducible apply w_fld)
  | (with_reducible apply w_gcons)
  | (with_reducible apply w_gnil)
  | ((with_reducible apply w_gtup); (· assumption); (· walk_at "tp"); (· rfl))
  | (with_reducible apply w_meth)
  | (with_reducible apply w_lc1)
  | (with_reducible apply w_lcL)
  | (with_reducible apply w_lcT)
  | (with_reducible apply w_yes)
  | (with_reducible apply w_m1)
  | (with_reducible apply w_dnotin)
  | (with_reducible apply w_din)
  | (with_reducible apply w_dget)
  | (with_reducible apply w_dput)
  | ((with_reducible apply w_ixL); (· assumption); (· decide); (· rfl)))
local macro_rules | `(tactic| walk_at "go") => `(tactic| repeat walk_at "step")
local macro_rules | `(tactic| walk_at "set") => `(tactic| dsimp only [List.set_cons_succ, List.set_cons_zero])

def joinedL (xs ys : List Nat) : List Nat := xs ++ ys.filter fun y => !decide (y ∈ xs)
structure Wk where
  pl : List Ex
  fo : List (List Nat)
def linkL (fo : List (List Nat)) (lasts firsts : List Nat) : List (List Nat) := lasts.foldl (fun f l => f.set l (joinedL (f.getD l []) firsts)) fo
structure Fd where
  em : Bool
  fi : List Nat
  la : List Nat
def walkE : Ex → Wk → Fd × Wk
  | .place p l m c, W => (⟨false, [W.pl.length + 1], [W.pl.length + 1]⟩, ⟨W.pl ++ [.place p l m c], W.fo ++ [[]]⟩)
  | .two sq a b, W =>
    let r1 := walkE a W
    let r2 := walkE b r1.2
    if sq then (⟨r1.1.em && r2.1.em, if r1.1.em then joinedL r1.1.fi r2.1.fi else r1.1.fi, if r2.1.em then joinedL r1.1.la r2.1.la else r2.1.la⟩, ⟨r2.2.pl, linkL r2.2.fo r1.1.la r2.1.fi⟩)
    else (⟨r1.1.em || r2.1.em, joinedL r1.1.fi r2.1.fi, joinedL r1.1.la r2.1.la⟩, r2.2)
  | .rep k a, W =>
    let r := walkE a W
    if k < 2 then (⟨r.1.em || decide (k = 0), r.1.fi, r.1.la⟩, ⟨r.2.pl, linkL r.2.fo r.1.la r.1.fi⟩)
    else (⟨true, r.1.fi, r.1.la⟩, r.2)
def exN : Ex → Nat
  | .place _ _ _ _ => 1
  | .two _ a b => exN a + exN b
  | .rep _ a => exN a
def exD : Ex → Nat
  | .place _ _ _ _ => 0
  | .two _ a b => max (exD a) (exD b) + 1
  | .rep _ a => exD a + 1
/-- numbers of places -/
def Nu (n : Nat) (xs : List Nat) : Prop := xs.Nodup ∧ ∀ x ∈ xs, 1 ≤ x ∧ x ≤ n
theorem Nu.mono {n m : Nat} {xs : List Nat} (h : Nu n xs) (hm : n ≤ m) : Nu m xs := ⟨h.1, fun x hx => ⟨(h.2 x hx).1, Nat.le_trans (h.2 x hx).2 hm⟩⟩
theorem Nu.nil (n : Nat) : Nu n [] := ⟨List.nodup_nil, fun x hx => absurd hx (by simp)⟩
theorem Nu.joined {n : Nat} {xs ys : List Nat} (h : Nu n xs) (k : Nu n ys) : Nu n (joinedL xs ys) := by
  refine ⟨?_, fun x hx => ?_⟩
  · refine List.nodup_append.mpr ⟨h.1, k.1.filter _, fun a ha b hb e => ?_⟩
    have q := (List.mem_filter.mp hb).2
    subst e
    simp [ha] at q
  · rcases List.mem_append.mp hx with q | q
    · exact h.2 x q
    · exact k.2 x (List.mem_filter.mp q).1
theorem nodup_le : ∀ {n : Nat} {xs : List Nat}, xs.Nodup → (∀ x ∈ xs, 1 ≤ x ∧ x ≤ n) → xs.length ≤ n
  | 0, xs, _, h => by
    cases xs with
    | nil => exact Nat.le_refl _
    | cons x r => have := h x (by simp); omega
  | n + 1, xs, hd, h => by
    have h1 : (xs.erase (n + 1)).length ≤ n := by
      refine nodup_le (hd.erase _) fun x hx => ?_
      have hm : x ∈ xs := List.mem_of_mem_erase hx
      have hne : x ≠ n + 1 := fun e => by
        subst e
        exact (List.Nodup.mem_erase_iff hd).mp hx |>.1 rfl
      have := h x hm
      omega
    by_cases hm : n + 1 ∈ xs
    · have := List.length_erase_of_mem hm
      omega
    · rw [List.erase_of_not_mem hm] at h1
      omega
theorem Nu.len {n : Nat} {xs : List Nat} (h : Nu n xs) : xs.length ≤ n := nodup_le h.1 h.2
structure WkOk (W : Wk) : Prop where
  len : W.fo.length = W.pl.length + 1
  fo : ∀ f ∈ W.fo, Nu W.pl.length f
theorem linkL_len (firsts : List Nat) : ∀ (lasts : List Nat) (fo : List (List Nat)), (linkL fo lasts firsts).length = fo.length
  | [], _ => rfl
  | l :: r, fo => by
    show (linkL (fo.set l _) r firsts).length = _
    rw [linkL_len firsts r, List.length_set]
theorem mem_getDL {fo : List (List Nat)} {l : Nat} : fo.getD l [] ∈ fo ∨ fo.getD l [] = [] := by
  rw [List.getD_eq_getElem?_getD]
  cases h : fo[l]? with
  | none => exact .inr rfl
  | some x => exact .inl (List.mem_of_getElem? h)
theorem linkL_nu {n : Nat} {firsts : List Nat} (hf : Nu n firsts) : ∀ (lasts : List Nat) (fo : List (List Nat)), (∀ f ∈ fo, Nu n f) → ∀ f ∈ linkL fo lasts firsts, Nu n f
  | [], _, h => h
  | l :: r, fo, h => by
    refine linkL_nu hf r _ fun f hm => ?_
    rcases List.mem_or_eq_of_mem_set hm with q | q
    · exact h f q
    · subst q
      refine Nu.joined ?_ hf
      rcases mem_getDL (fo := fo) (l := l) with q | q
      · exact h _ q
      · rw [q]; exact Nu.nil n
theorem walkE_ok : ∀ (e : Ex) (W : Wk), WkOk W → WkOk (walkE e W).2 ∧ Nu (walkE e W).2.pl.length (walkE e W).1.fi ∧ Nu (walkE e W).2.pl.length (walkE e W).1.la ∧ (walkE e W).2.pl.length = W.pl.length + exN e
  | .place p l m c, W, h => by
    have e1 : (W.pl ++ [Ex.place p l m c]).length = W.pl.length + 1 := by rw [List.length_append]; rfl
    have one : Nu (W.pl ++ [Ex.place p l m c]).length [W.pl.length + 1] := ⟨by simp, fun x hx => by rw [List.mem_singleton.mp hx, e1]; omega⟩
    refine ⟨⟨?_, fun f hf => ?_⟩, one, one, e1⟩
    · show (W.fo ++ [[]]).length = (W.pl ++ [_]).length + 1
      rw [e1, List.length_append, h.len]; rfl
    · rcases List.mem_append.mp hf with q | q
      · exact (h.fo f q).mono (by show _ ≤ (W.pl ++ [_]).length; rw [e1]; omega)
      · rw [List.mem_singleton.mp q]; exact Nu.nil _
  | .two sq a b, W, h => by
    obtain ⟨a1, a2, a3, a4⟩ := walkE_ok a W h
    obtain ⟨b1, b2, b3, b4⟩ := walkE_ok b _ a1
    have le : (walkE a W).2.pl.length ≤ (walkE b (walkE a W).2).2.pl.length := by omega
    have a2' := a2.mono le
    have a3' := a3.mono le
    unfold walkE
    cases sq
    · refine ⟨b1, a2'.joined b2, a3'.joined b3, ?_⟩
      show (walkE b (walkE a W).2).2.pl.length = _
      unfold exN; omega
    · refine ⟨⟨?_, ?_⟩, ?_, ?_, ?_⟩
      · show (linkL _ _ _).length = _
        rw [linkL_len]; exact b1.len
      · exact linkL_nu b2 _ _ b1.fo
      · show Nu (walkE b (walkE a W).2).2.pl.length (if _ then _ else _)
        split
        · exact a2'.joined b2
        · exact a2'
      · show Nu (walkE b (walkE a W).2).2.pl.length (if _ then _ else _)
        split
        · exact a3'.joined b3
        · exact b3
      · show (walkE b (walkE a W).2).2.pl.length = _
        unfold exN; omega
  | .rep k a, W, h => by
    obtain ⟨a1, a2, a3, a4⟩ := walkE_ok a W h
    unfold walkE
    by_cases hk : k < 2
    · rw [if_pos hk]
      refine ⟨⟨?_, ?_⟩, a2, a3, a4⟩
      · show (linkL _ _ _).length = _
        rw [linkL_len]; exact a1.len
      · exact linkL_nu a2 _ _ a1.fo
    · rw [if_neg hk]
      exact ⟨a1, a2, a3, a4⟩
theorem joinedL_nil (ys : List Nat) : joinedL [] ys = ys := by
  unfold joinedL
  rw [List.nil_append]
  exact List.filter_eq_self.mpr fun y _ => by simp
section
variable {P : Program} {w : World} {K : PySem.W.Frag} {mg : Str → Option Value} {base : Heap} {H H' : Hp} {b p : Addr}
/-! ### joined -/
def spJoined : Sp := fun vs H Q _ => ∃ (a b : Addr) (xs ys : List Nat), vs = [.ref a, .ref b] ∧ LI H a xs ∧ LI H b ys ∧ xs.length ≤ 1000 ∧ ys.length ≤ 1000 ∧ ∀ (p : Addr) (H' : Hp), Gr S0 H H' → H p = none → LI H' p (joinedL xs ys) → Q (.ref p) H'
theorem sc_joined : FnScope ["one", "other", "item"] ["one", "other"] (defScope (top 2)) := ⟨rfl, rfl, rfl, by decide +kernel, rfl, by decide +kernel, by decide +kernel⟩
theorem ok_joined (R : Raw K mg "joined" (top 2) ["one", "other"]) : Def P w K mg base 1 "joined" ["one", "other"] spJoined := by
  refine R.ok sc_joined (fun vs H Q E h => ?_) (fun f cdv A outer s H vs Q E hr h => ?_)
  · obtain ⟨_, _, _, _, rfl, _⟩ := h; rfl
  obtain ⟨a, b, xs, ys, rfl, ha, hb, hx, hy, q⟩ := h
  refine ⟨_, (pss_one (ps_ret (pe_op op_cat (pv 0) (pe_lc (own := [("item", 2)]) (g := gName 2) rfl sc_joined.nd (pi_list (pv 1)) (blkOk_by (N := ["one", "other", "item"]) (sc := defScope (top 2)) (by decide +kernel)) (fun _ _ _ _ _ => pg_name (i := 2) sc_joined.nd rfl (.inl rfl)) (fun _ _ _ _ _ => (pts_one (pt_cmpR (os_notin (K := K) rfl) (pv 2) (pv 0) (by rfl)))) (fun _ _ _ _ _ => (pv 2)))))), ?_⟩
  walk_at "go"
  refine lcRL rfl (SqL.of hb) (fun D i H' => Gr S0 H H' ∧ LI H' D ((ys.take i).filter fun y => !decide (y ∈ xs))) (fun D hD => ⟨Gr.new hD, upd_same⟩) (fun D i H' hD hp => SqL.of (hp.1.lst id hb)) (fun D i x H' hD hi hp => ?_) (fun D H' hD hp => ?_)
  · obtain ⟨g, hl⟩ := hp
    have hiL := (List.getElem?_eq_some_iff.mp hi).1
    have hiL' : i < ys.length := by rw [ni, List.length_map] at hiL; exact hiL
    have ex : x = .int (ys[i] : Nat) := by
      rw [ni, List.getElem?_map, List.getElem?_eq_getElem hiL'] at hi
      cases hi; rfl
    subst ex
    have et : ys.take (i + 1) = ys.take i ++ [ys[i]] := by rw [List.take_succ, List.getElem?_eq_getElem hiL']; rfl
    have hlen : ((ys.take i).filter fun y => !decide (y ∈ xs)).length ≤ 1000 := Nat.le_trans (List.length_filter_le _ _) (by rw [List.length_take]; omega)
    walk_at "go"
    refine w_notin (g.lst id ha) ?_
    refine ⟨_, rfl, if_of (fun h => ?_) (fun h => ?_)⟩
    · walk_at "go"
      refine w_put hl (small6 (by rw [ni, List.length_map]; omega)) ⟨g.setL (.inl hD) hl, ?_⟩
      show _ = _
      rw [upd_same, et, List.filter_append, show [ys[i]].filter (fun y => !decide (y ∈ xs)) = [ys[i]] by rw [List.filter_cons, if_pos h]; rfl, ni, ni, List.map_append]
      rfl
    · refine ⟨g, ?_⟩
      rw [et, List.filter_append, show [ys[i]].filter (fun y => !decide (y ∈ xs)) = [] by rw [List.filter_cons, if_neg (by rw [h]; decide)]; rfl, List.append_nil]
      exact hl
  · obtain ⟨g, hl⟩ := hp
    have el : (ni ys).length = ys.length := by rw [ni, List.length_map]
    rw [el, List.take_length] at hl
    have hlen : (ys.filter fun y => !decide (y ∈ xs)).length ≤ 1000 := Nat.le_trans (List.length_filter_le _ _) hy
    refine w_cat (g.lst id ha) hl (Nat.le_of_lt (small6 (by rw [ni, ni, List.length_map, List.length_map]; omega))) fun p H2 pn hp2 g2 => ?_
    refine q p H2 (g.trans g2) (g.nn p pn) ?_
    show _ = _
    rw [hp2, joinedL, ni, ni, ni, List.map_append]
end
end Sr
/-! SrN: the object that gathers places; the walks over an expression. -/
namespace Sr
open PySem PySem.Spec PyProof.Rows L2
local macro_rules | `(tactic| walk_at "tp") => `(tactic| first
  | exact Tp.refl _
  | assumption
  | exact Gr.tp (by assumption)
  | (refine Tp.trans ?_ (by first | assumption | exact Gr.tp (by assumption)); walk_at "tp"))
local macro_rules | `(tactic| walk_at "gr") => `(tactic| first
  | exact Gr.refl _ _
  | assumption
  | exact Gr.any (by assumption)
  | (refine Gr.trans ?_ (by first | assumption | exact Gr.any (by assumption)); walk_at "gr"))
local macro_rules | `(tactic| walk_at "rep") => `(tactic| first
  | exact Rep.int _ | exact Rep.str _ | exact Rep.bl _ | exact Rep.non
  | assumption
  | (refine Rep.mono ?_ (by assumption); walk_at "tp"))
local macro_rules | `(tactic| walk_at "repl") => `(tactic| repeat first
  | exact RepL.nil
  | (apply RepL.cons; (· walk_at "rep")))
local macro_rules | `(tactic| walk_at "step") => `(tactic| first
  | ((with_reducible apply w_var); rfl)
  | (with_reducible apply w_c)
  | (with_reducible apply w_op)
  | (with_reducible apply w_I0)
  | ((with_reducible apply w_ix); (· assumption); (· walk_at "tp"); (· decide); (· rfl); (intro x hx; first | (have e := Rep.intI hx; subst e; clear hx) | (have e := Rep.strI hx; subst e; clear hx) | (have e := Rep.blI hx; subst e; clear hx) | skip))
  | ((with_reducible apply w_ixU); (· assumption); (· walk_at "tp"); (· decide); (· rfl))
  | (with_reducible apply w_eqS)
  | (with_reducible apply w_eqI)
  | (with_reducible apply w_eqB)
  | (with_reducible apply w_neB)
  | (with_reducible apply w_test)
  | (with_reducible apply w_tB)
  | (with_reducible apply w_and)
  | (with_reducible apply w_or)
  | (with_reducible apply w_not)
  | (with_reducible apply w_nil)
  | (with_reducible apply w_cons)
  | (with_reducible apply w_CB)
  | (with_reducible apply w_call)
  | (with_reducible apply w_seq)
  | (with_reducible apply w_asg)
  | (with_reducible apply w_gname)
  | (with_reducible apply w_drop)
  | (with_reducible apply w_ret)
  | (with_reducible apply w_ifS)
  | (with_reducible apply w_next)
  | (with_reducible apply w_ifE)
  | (with_reducible apply w_andV)
  | (with_reducible apply w_orV)
  | (with_reducible apply w_notV)
  | (with_reducible apply w_tupE)
  | (with_reducible apply w_lstE)
  | (with_reducible apply w_bl)
  | ((with_reducible apply w_aug); rfl)
  | (with_reducible apply w_ip)
  | (with_reducible apply w_for1)
  | (with_reducible apply w_for2)
  | (with_reducible apply w_forT)
  | (with_reducible apply w_forL)
  | ((with_reducible apply w_lenD); (· assumption); (· walk_at "tp"))
  | (with_reducible apply w_min)
  | (with_reducible apply w_intI)
  | (with_reducible apply w_intB)
  | ((with_reducible apply w_I); (· first | decide | exact (by decide : (1000 : Int) ≠ 0) | exact ⟨by decide, by decide⟩ | exact ⟨by decide, by decide, by decide⟩ | exact .inr ⟨by decide, by decide⟩ | exact .inl ⟨by decide, by decide⟩))
  | (with_reducible apply w_bm)
  | (with_reducible apply w_bm0)
  | ((with_reducible apply w_tyL); (· assumption))
  | (with_reducible apply w_gsub)
  | (with_reducible apply w_fld)
  | (with_reducible apply w_gcons)
  | (with_reducible apply w_gnil)
  | ((with_reducible apply w_gtup); (· assumption); (· walk_at "tp"); (· rfl))
  | (with_reducible apply w_meth)
  | (with_reducible apply w_lc1)
  | (with_reducible apply w_lcL)
  | (with_reducible apply w_lcT)
  | (with_reducible apply w_yes)
  | (with_reducible apply w_m1)
  | (with_reducible apply w_dnotin)
  | (with_reducible apply w_din)
  | (with_reducible apply w_dget)
  | (with_reducible apply w_dput)
  | ((with_reducible apply w_ixL); (· assumption); (· decide); (· rfl)))
local macro_rules | `(tactic| walk_at "go") => `(tactic| repeat walk_at "step")
local macro_rules | `(tactic| walk_at "set") => `(tactic| dsimp only [List.set_cons_succ, List.set_cons_zero])

/-- what is local to a call is not seen outside -/
theorem Gr.local {S : Addr → Prop} {H H1 H2 : Hp} (g1 : Gr S0 H H1) (g2 : Gr S H1 H2) (h : ∀ a, S a → H a = none) : Gr S0 H H2 :=
  ⟨fun a o _ ho e => g2.st a o (fun z => by rw [h a z] at e; cases e) ho (g1.st a o id ho e), g1.tp.trans g2.tp, fun a x => g2.tb a (g1.tb a x), fun a x => g1.nn a (g2.nn a x)⟩
def S2 (a b : Addr) : Addr → Prop := fun x => x = a ∨ x = b
theorem fl_ne : ¬ (("places" : Str) = "followers") := by decide +kernel
def flds (lp lf : Addr) : List (Str × V) := putF "followers" (.ref lf) (putF "places" (.ref lp) [])
theorem flds_p (lp lf : Addr) : (flds lp lf).lookup ("places" : Str) = some (.ref lp) := by
  unfold flds
  rw [lookup_putF, if_neg fl_ne, lookup_putF, if_pos rfl]
theorem flds_f (lp lf : Addr) : (flds lp lf).lookup ("followers" : Str) = some (.ref lf) := by
  unfold flds
  rw [lookup_putF, if_pos rfl]
theorem flds_no (lp lf : Addr) {m : Str} (h1 : ¬ m = "followers") (h2 : ¬ m = "places") : (flds lp lf).lookup m = none := by
  unfold flds
  rw [lookup_putF, if_neg h1, lookup_putF, if_neg h2]
  rfl
/-- what the class must have -/
structure PT (K : PySem.W.Frag) (mg : Str → Option Value) (C : Addr) : Prop where
  cl : Cls K C
  nP : NoAttr K C "places"
  nF : NoAttr K C "followers"
  mgC : mg "Places" = some (.ref C)
structure PlAt (C : Addr) (H : Hp) (p lp lf : Addr) (W : Wk) : Prop where
  ob : ∃ dx, H p = some (.ins C dx (flds lp lf))
  pls : ∃ vs, H lp = some (.lst vs) ∧ RepL H (W.pl.map encEx) vs
  fos : ∃ as : List Addr, H lf = some (.lst (as.map V.ref)) ∧ as.length = W.fo.length ∧ ∀ (i : Nat) (a : Addr), as[i]? = some a → LI H a (W.fo.getD i []) ∧ a ≠ lp ∧ a ≠ lf
  ne : lp ≠ lf
section
variable {P : Program} {w : World} {K : PySem.W.Frag} {mg : Str → Option Value} {base : Heap} {H H' : Hp} {C b p lp lf : Addr} {W : Wk} {Q : VK}
theorem PlAt.fldP (x : PlAt C H p lp lf W) (T : PT K mg C) (q : Q (.ref lp) H) : rFld K "places" (.ref p) H Q :=
  let ⟨dx, h⟩ := x.ob; ⟨p, C, dx, _, _, rfl, h, T.cl, T.nP, flds_p _ _, q⟩
theorem PlAt.fldF (x : PlAt C H p lp lf W) (T : PT K mg C) (q : Q (.ref lf) H) : rFld K "followers" (.ref p) H Q :=
  let ⟨dx, h⟩ := x.ob; ⟨p, C, dx, _, _, rfl, h, T.cl, T.nF, flds_f _ _, q⟩
theorem PlAt.meth {m : Str} {R : Prop} (x : PlAt C H p lp lf W) (h1 : ¬ m = "followers") (h2 : ¬ m = "places") (q : R) : rMeth C m (.ref p) H R :=
  let ⟨dx, h⟩ := x.ob; ⟨p, dx, _, rfl, h, flds_no _ _ h1 h2, q⟩
theorem Gr.ins {S : Addr → Prop} {a C dx : Addr} {fs : List (Str × V)} (g : Gr S H H') (hs : ¬ S a) (h : H a = some (.ins C dx fs)) : H' a = some (.ins C dx fs) := g.st a _ hs (fun _ z => by cases z) h
theorem PlAt.gr {S : Addr → Prop} (x : PlAt C H p lp lf W) (g : Gr S H H') (h : ∀ a, S a → H a = none) : PlAt C H' p lp lf W := by
  obtain ⟨⟨dx, h1⟩, ⟨vs, h2, h3⟩, ⟨as, h4, h5, h6⟩, ne⟩ := x
  have no : ∀ {a o}, H a = some o → ¬ S a := fun {a o} e z => by rw [h a z] at e; cases e
  exact ⟨⟨dx, g.ins (no h1) h1⟩, ⟨vs, g.lst (no h2) h2, h3.mono g.tp⟩, ⟨as, g.lst (no h4) h4, h5, fun i a hi => ⟨g.lst (no (h6 i a hi).1) (h6 i a hi).1, (h6 i a hi).2⟩⟩, ne⟩
theorem PlAt.gr0 (x : PlAt C H p lp lf W) (g : Gr S0 H H') : PlAt C H' p lp lf W := x.gr g fun _ z => z.elim
/-! ### the object is made -/
def spInit (C : Addr) : Sp := fun vs H Q _ => ∃ (p dx : Addr), vs = [.ref p] ∧ H p = some (.ins C dx []) ∧
  ∀ (lp lf : Addr) (H' : Hp), H lp = none → H lf = none → Gr (S1 p) H H' → PlAt C H' p lp lf ⟨[], [[]]⟩ → Q .non H'
theorem sc_P_init : FnScope ["self"] ["self"] (defScope (inClass (top 3) 0)) := ⟨rfl, rfl, rfl, by decide +kernel, rfl, by decide +kernel, by decide +kernel⟩
theorem ok_P_init (R : RawI K C "Places.__init__" (inClass (top 3) 0) ["self"]) (T : PT K mg C) : DefI P w K mg base C 1 ["self"] (spInit C) := by
  refine R.ok sc_P_init (fun vs H Q E h => ?_) (fun f cdv A outer s H vs Q E hr h => ?_)
  · obtain ⟨_, _, rfl, _⟩ := h; rfl
  obtain ⟨p, dx, rfl, hp, q⟩ := h
  refine ⟨_, (pss_cons (ps_fld (pv 0) (pe_lst pa_nil) rfl)
    (pss_one (ps_fld (pv 0) (pe_lst (pa_cons (pe_lst pa_nil) pa_nil)) rfl))), ?_⟩
  refine ⟨Nat.zero_le _, fun lp hlp => ?_⟩
  have npl : p ≠ lp := ne_of_none hp hlp
  refine ⟨_, rfl, p, C, dx, [], rfl, by rw [upd_ne npl]; exact hp, T.cl, T.nP, by decide, ?_⟩
  refine ⟨Nat.zero_le _, fun l0 hl0 => ?_⟩
  refine ⟨by show 1 ≤ sizeLine; decide, fun lf hlf => ?_⟩
  have e1 : ∀ {o o' : HO} {x : Addr}, (upd (upd H lp o) p o') x = none → H x = none ∧ x ≠ lp ∧ x ≠ p := fun {o o' x} e => by
    have h1 : x ≠ p := fun z => by rw [z, upd_same] at e; cases e
    rw [upd_ne h1] at e
    have h2 : x ≠ lp := fun z => by rw [z, upd_same] at e; cases e
    rw [upd_ne h2] at e
    exact ⟨e, h2, h1⟩
  obtain ⟨a1, a2, a3⟩ := e1 hl0
  have h0f : lf ≠ l0 := fun z => by rw [z, upd_same] at hlf; cases hlf
  have hlf' := hlf
  rw [upd_ne h0f] at hlf'
  obtain ⟨b1, b2, b3⟩ := e1 hlf'
  have hpp : (upd (upd (upd (upd H lp (.lst [])) p (.ins C dx (putF "places" (.ref lp) []))) l0 (.lst [])) lf (.lst [.ref l0])) p = some (.ins C dx (putF "places" (.ref lp) [])) := by
    rw [upd_ne b3.symm, upd_ne a3.symm, upd_same]
  refine ⟨_, rfl, p, C, dx, _, rfl, hpp, T.cl, T.nF, by show 1 < 1000; decide, ?_⟩
  have G0 : Gr (S1 p) H (upd (upd (upd (upd H lp (.lst [])) p (.ins C dx (putF "places" (.ref lp) []))) l0 (.lst [])) lf (.lst [.ref l0])) := by
    refine Gr.trans (Gr.trans (Gr.set (Gr.new hlp) (.inr rfl) (by rw [upd_ne npl]; exact hp) (fun _ z => by cases z) (fun _ z => by cases z)) (Gr.new hl0)) (Gr.new hlf)
  refine q lp lf _ hlp b1 (G0.set (.inr rfl) hpp (fun _ z => by cases z) (fun _ z => by cases z)) ⟨⟨dx, upd_same⟩, ⟨[], ?_, .nil⟩, ⟨[l0], ?_, rfl, fun i a hi => ?_⟩, b2.symm⟩
  · rw [upd_ne npl.symm, upd_ne b2.symm, upd_ne a2.symm, upd_ne npl.symm, upd_same]
  · rw [upd_ne b3, upd_same]; rfl
  · match i, hi with
    | 0, hi =>
      cases hi
      exact ⟨by show _ = _; rw [upd_ne a3, upd_ne h0f.symm, upd_same]; rfl, a2, h0f.symm⟩
/-! ### a place is added -/
def spAdd (C : Addr) : Sp := fun vs H Q _ => ∃ (p lp lf : Addr) (W : Wk) (v : V) (e : Ex), vs = [.ref p, v] ∧ PlAt C H p lp lf W ∧ W.pl.length ≤ 100 ∧ W.fo.length ≤ 200 ∧ Rep H (encEx e) v ∧
  ∀ H', Gr (S2 lp lf) H H' → PlAt C H' p lp lf ⟨W.pl ++ [e], W.fo ++ [[]]⟩ → Q (.int (W.pl.length + 1 : Nat)) H'
theorem sc_P_add : FnScope ["self", "place"] ["self", "place"] (defScope (inClass (top 3) 1)) := ⟨rfl, rfl, rfl, by decide +kernel, rfl, by decide +kernel, by decide +kernel⟩
theorem ok_P_add (R : RawM K C "add" "Places.add" (inClass (top 3) 1) ["self", "place"]) (T : PT K mg C) (B : Bi mg) : DefM P w K mg base C 1 "add" ["self", "place"] (spAdd C) := by
  refine R.ok sc_P_add (fun vs H Q E h => ?_) (fun f cdv A outer s H vs Q E hr h => ?_)
  · obtain ⟨_, _, _, _, _, _, rfl, _⟩ := h; rfl
  obtain ⟨p, lp, lf, W, v, e, rfl, hp, hn, hn2, hv, q⟩ := h
  refine ⟨_, (pss_cons (ps_expr (pe_bm PySem.F.plainAttrs_list PySem.F.slot_list_append PySem.F.type_list_append mt_append (pe_fld (pv 0) rfl) (pa_cons (pv 1) pa_nil)))
    (pss_cons (ps_expr (pe_bm PySem.F.plainAttrs_list PySem.F.slot_list_append PySem.F.type_list_append mt_append (pe_fld (pv 0) rfl) (pa_cons (pe_lst pa_nil) pa_nil)))
    (pss_one (ps_ret (pe_callB (ck_len (K := K) rfl) (by rfl) B.len bo_len (pa_cons (pe_fld (pv 0) rfl) pa_nil)))))), ?_⟩
  obtain ⟨⟨dx, h1⟩, ⟨vs, h2, h3⟩, ⟨as, h4, h5, h6⟩, ne⟩ := id hp
  have nps : vs.length = W.pl.length := by rw [← h3.length, List.length_map]
  walk_at "go"
  refine hp.fldP T ?_
  walk_at "go"
  refine w_append h2 (small6 (by omega)) ?_
  have g1 : Gr (S2 lp lf) H (upd H lp (.lst (vs ++ [v]))) := (Gr.refl _ H).setL (.inr (.inl rfl)) h2
  have npl : p ≠ lp := ne_of h1 h2 (by intro z; cases z)
  have npf : p ≠ lf := ne_of h1 h4 (by intro z; cases z)
  have k1 : (upd H lp (.lst (vs ++ [v]))) p = some (.ins C dx (flds lp lf)) := by rw [upd_ne npl]; exact h1
  have k4 : (upd H lp (.lst (vs ++ [v]))) lf = some (.lst (as.map V.ref)) := by rw [upd_ne ne.symm]; exact h4
  have k2 : (upd H lp (.lst (vs ++ [v]))) lp = some (.lst (vs ++ [v])) := upd_same
  have k6 : ∀ (i : Nat) (a : Addr), as[i]? = some a → LI (upd H lp (.lst (vs ++ [v]))) a (W.fo.getD i []) := fun i a hi => by
    show _ = _
    rw [upd_ne (h6 i a hi).2.1]; exact (h6 i a hi).1
  generalize upd H lp (.lst (vs ++ [v])) = H1 at g1 k1 k2 k4 k6 ⊢
  walk_at "go"
  refine ⟨p, C, dx, _, _, rfl, k1, T.cl, T.nF, flds_f _ _, ?_⟩
  walk_at "go"
  refine lst_new (Nat.zero_le _) fun l0 H2 l0n hl0 g2 => ?_
  have m4 := g2.lst id k4
  walk_at "go"
  refine w_append m4 (small6 (by rw [List.length_map]; omega)) ?_
  have nl0 : l0 ≠ lf := fun z => by rw [z, k4] at l0n; cases l0n
  have nl1 : l0 ≠ lp := fun z => by rw [z, k2] at l0n; cases l0n
  have G : Gr (S2 lp lf) H (upd H2 lf (.lst (as.map V.ref ++ [.ref l0]))) := (g1.trans g2.any).setL (.inr (.inr rfl)) m4
  have n2 : (upd H2 lf (.lst (as.map V.ref ++ [.ref l0]))) lp = some (.lst (vs ++ [v])) := by rw [upd_ne ne]; exact g2.lst id k2
  have n1 : (upd H2 lf (.lst (as.map V.ref ++ [.ref l0]))) p = some (.ins C dx (flds lp lf)) := by rw [upd_ne npf]; exact g2.ins id k1
  have fin : PlAt C (upd H2 lf (.lst (as.map V.ref ++ [.ref l0]))) p lp lf ⟨W.pl ++ [e], W.fo ++ [[]]⟩ := by
    refine ⟨⟨dx, n1⟩, ⟨_, n2, ?_⟩, ⟨as ++ [l0], by rw [upd_same, List.map_append]; rfl, by rw [List.length_append, List.length_append, h5]; rfl, fun i a hi => ?_⟩, ne⟩
    · rw [List.map_append]
      exact (h3.mono G.tp).append (.cons (hv.mono G.tp) .nil)
    · by_cases hlt : i < as.length
      · rw [List.getElem?_append_left hlt] at hi
        have ha := k6 i a hi
        refine ⟨?_, (h6 i a hi).2⟩
        have e1 : (W.fo ++ [[]]).getD i [] = W.fo.getD i [] := by
          rw [List.getD_eq_getElem?_getD, List.getD_eq_getElem?_getD, List.getElem?_append_left (by omega)]
        show _ = _
        rw [e1, upd_ne (h6 i a hi).2.2]
        exact g2.lst id ha
      · rw [List.getElem?_append_right (by omega)] at hi
        have hi0 : i - as.length < 1 := (List.getElem?_eq_some_iff.mp hi).1
        have ei : i = as.length := by omega
        subst ei
        rw [Nat.sub_self] at hi
        cases hi
        refine ⟨?_, nl1, nl0⟩
        have e1 : (W.fo ++ [[]]).getD as.length [] = [] := by
          rw [List.getD_eq_getElem?_getD, h5, List.getElem?_append_right (Nat.le_refl _), Nat.sub_self]; rfl
        show _ = _
        rw [e1, upd_ne nl0]
        exact hl0
  generalize upd H2 lf (.lst (as.map V.ref ++ [.ref l0])) = H3 at G n1 n2 fin ⊢
  walk_at "go"
  refine ⟨p, C, dx, _, _, rfl, n1, T.cl, T.nP, flds_p _ _, ?_⟩
  walk_at "go"
  refine w_lenL n2 ?_
  have e2 : (vs ++ [v]).length = W.pl.length + 1 := by rw [List.length_append, nps]; rfl
  rw [e2]
  exact q H3 G fin
/-! ### places are linked -/
theorem LI.gr {S : Addr → Prop} {a : Addr} {ns : List Nat} (h : LI H a ns) (g : Gr S H H') (hs : ¬ S a) : LI H' a ns := g.lst hs h
/-- another list of followers -/
theorem PlAt.setF {as : List Addr} {l a : Addr} {i : Nat} {f : List Nat} (x : PlAt C H p lp lf W) (h4 : H lf = some (.lst (as.map V.ref))) (hi : i < as.length) (ha : LI H a f) (h1 : a ≠ lp) (h2 : a ≠ lf) :
    PlAt C (upd H lf (.lst ((as.map V.ref).set i (.ref a)))) p lp lf ⟨W.pl, W.fo.set i f⟩ ∧ Gr (S2 lp lf) H (upd H lf (.lst ((as.map V.ref).set i (.ref a)))) := by
  obtain ⟨⟨dx, g1⟩, ⟨vs, g2, g3⟩, ⟨as', g4, g5, g6⟩, ne⟩ := x
  have e : as' = as := by
    rw [g4] at h4
    injection h4 with h4
    injection h4 with h4
    have inj : ∀ (xs ys : List Addr), xs.map V.ref = ys.map V.ref → xs = ys := by
      intro xs
      induction xs with
      | nil => intro ys h; cases ys with
        | nil => rfl
        | cons => cases h
      | cons x r ih => intro ys h; cases ys with
        | nil => cases h
        | cons y s =>
          injection h with h h'
          injection h with h
          rw [h, ih s h']
    exact inj _ _ h4
  subst e
  have npf : p ≠ lf := ne_of g1 g4 (by intro z; cases z)
  refine ⟨⟨⟨dx, by rw [upd_ne npf]; exact g1⟩, ⟨vs, by rw [upd_ne ne]; exact g2, g3.mono (Tp.setL g4)⟩, ⟨as'.set i a, by rw [upd_same, List.map_set], by rw [List.length_set, List.length_set, g5], fun j b hj => ?_⟩, ne⟩, (Gr.refl _ H).setL (.inr (.inr rfl)) g4⟩
  by_cases hij : i = j
  · subst hij
    rw [List.getElem?_set_self hi] at hj
    cases hj
    refine ⟨?_, h1, h2⟩
    show _ = _
    rw [upd_ne h2]
    have e1 : (W.fo.set i f).getD i [] = f := by
      rw [List.getD_eq_getElem?_getD, List.getElem?_set_self (by omega)]; rfl
    rw [show (⟨W.pl, W.fo.set i f⟩ : Wk).fo.getD i [] = f from e1]
    exact ha
  · rw [List.getElem?_set_ne hij] at hj
    obtain ⟨k1, k2, k3⟩ := g6 j b hj
    refine ⟨?_, k2, k3⟩
    show _ = _
    rw [upd_ne k3]
    have e1 : (W.fo.set i f).getD j [] = W.fo.getD j [] := by
      rw [List.getD_eq_getElem?_getD, List.getElem?_set_ne hij, ← List.getD_eq_getElem?_getD]
    rw [show (⟨W.pl, W.fo.set i f⟩ : Wk).fo.getD j [] = W.fo.getD j [] from e1]
    exact k1
theorem linkL_take {fo : List (List Nat)} {la fi : List Nat} {i : Nat} (h : i < la.length) : linkL fo (la.take (i + 1)) fi = (linkL fo (la.take i) fi).set la[i] (joinedL ((linkL fo (la.take i) fi).getD la[i] []) fi) := by
  unfold linkL
  rw [List.take_succ, List.getElem?_eq_getElem h, List.foldl_append]
  rfl
def spLink (C : Addr) : Sp := fun vs H Q _ => ∃ (p lp lf : Addr) (W : Wk) (a b : Addr) (la fi : List Nat) (n : Nat), vs = [.ref p, .ref a, .ref b] ∧ PlAt C H p lp lf W ∧ LI H a la ∧ LI H b fi ∧ (a ≠ lp ∧ a ≠ lf ∧ b ≠ lp ∧ b ≠ lf) ∧
  n ≤ 100 ∧ (∀ f ∈ W.fo, Nu n f) ∧ Nu n fi ∧ (∀ x ∈ la, x < W.fo.length) ∧
  ∀ H', Gr (S2 lp lf) H H' → PlAt C H' p lp lf ⟨W.pl, linkL W.fo la fi⟩ → Q .non H'
theorem sc_P_link : FnScope ["self", "lasts", "firsts", "last"] ["self", "lasts", "firsts"] (defScope (inClass (top 3) 2)) := ⟨rfl, rfl, rfl, by decide +kernel, rfl, by decide +kernel, by decide +kernel⟩
theorem ok_P_link (R : RawM K C "link" "Places.link" (inClass (top 3) 2) ["self", "lasts", "firsts"]) (T : PT K mg C) (D_joined : Def P w K mg base 1 "joined" ["one", "other"] spJoined) : DefM P w K mg base C 2 "link" ["self", "lasts", "firsts"] (spLink C) := by
  refine R.ok sc_P_link (fun vs H Q E h => ?_) (fun f cdv A outer s H vs Q E hr h => ?_)
  · obtain ⟨_, _, _, _, _, _, _, _, _, rfl, _⟩ := h; rfl
  obtain ⟨p, lp, lf, W, a, b, la, fi, n, rfl, hp, ha, hb, ⟨n1, n2, n3, n4⟩, hn, hfo, hfi, hla, q⟩ := h
  refine ⟨_, (pss_one (ps_for PassesOwn.never rfl (pi_list (pv 1)) (pg_name (i := 3) sc_P_link.nd rfl (.inl rfl))
      (pss_one (ps_asg (pe_d D_joined hr (by rfl) (pa_cons (pe_ix (ix_sq (K := K) rfl) (pe_fld (pv 0) rfl) (pv 3) (fun _ _ => rfl)) (pa_cons (pv 2) pa_nil))) (pg_sub (pe_fld (pv 0) rfl) (pv 3) set_list))))), ?_⟩
  walk_at "go"
  have sa : ¬ S2 lp lf a := fun z => z.elim n1 n2
  have sb : ¬ S2 lp lf b := fun z => z.elim n3 n4
  refine forL (SqL.of ha) (fun i σ H' => ∃ d, σ = [some (.ref p), some (.ref a), some (.ref b), d] ∧ Gr (S2 lp lf) H H' ∧ PlAt C H' p lp lf ⟨W.pl, linkL W.fo (la.take i) fi⟩) ⟨none, rfl, Gr.refl _ _, hp⟩ (fun i σ H' hp' => ?_) (fun i x σ H' hi hp' => ?_) (fun σ H' hp' => ?_)
  · obtain ⟨d, _, g, _⟩ := hp'
    exact SqL.of (g.lst sa ha)
  · obtain ⟨d, rfl, g, pl⟩ := hp'
    have hiL := (List.getElem?_eq_some_iff.mp hi).1
    have hiL' : i < la.length := by rw [ni, List.length_map] at hiL; exact hiL
    have ex : x = .int (la[i] : Nat) := by
      rw [ni, List.getElem?_map, List.getElem?_eq_getElem hiL'] at hi
      cases hi; rfl
    subst ex
    obtain ⟨as, h4, h5, h6⟩ := pl.fos
    have hlt : la[i] < as.length := by
      have := hla la[i] (List.getElem_mem hiL')
      rw [h5]
      show _ < (linkL W.fo (la.take i) fi).length
      rw [linkL_len]; exact this
    have hx : (as.map V.ref)[la[i]]? = some (.ref as[la[i]]) := by rw [List.getElem?_map, List.getElem?_eq_getElem hlt]; rfl
    obtain ⟨j1, j2, j3⟩ := h6 la[i] as[la[i]] (List.getElem?_eq_getElem hlt)
    walk_at "go"
    refine pl.fldF T ?_
    walk_at "go"
    refine w_ixL h4 (by omega) (by rw [Int.toNat_natCast]; exact hx) ?_
    walk_at "go"
    have nu : Nu n ((linkL W.fo (la.take i) fi).getD la[i] []) := by
      rcases mem_getDL (fo := linkL W.fo (la.take i) fi) (l := la[i]) with q | q
      · exact linkL_nu hfi _ _ hfo _ q
      · rw [q]; exact Nu.nil n
    refine ⟨as[la[i]], b, _, fi, rfl, j1, hb.gr g sb, Nat.le_trans nu.len (by omega), Nat.le_trans hfi.len (by omega), fun r H2 g2 rn hr2 => ?_⟩
    have pl2 := pl.gr0 g2
    walk_at "go"
    refine pl2.fldF T ?_
    walk_at "go"
    have h42 := g2.lst id h4
    have nr1 : r ≠ lp := fun z => by obtain ⟨vs, e, _⟩ := pl.pls; rw [← z, rn] at e; cases e
    have nr2 : r ≠ lf := fun z => by rw [z, h4] at rn; cases rn
    refine w_setL h42 (by omega) (by rw [Int.toNat_natCast, List.length_map]; exact hlt) ?_
    rw [Int.toNat_natCast]
    obtain ⟨k1, k2⟩ := pl2.setF (l := lf) h42 hlt hr2 nr1 nr2
    refine ⟨_, rfl, (g.trans g2.any).trans k2, ?_⟩
    rw [linkL_take hiL']
    exact k1
  · obtain ⟨d, rfl, g, pl⟩ := hp'
    have el : (ni la).length = la.length := by rw [ni, List.length_map]
    rw [el, List.take_length] at pl
    exact q H' g pl
end
end Sr
/-! SrO: the walks over an expression. -/
namespace Sr
open PySem PySem.Spec PyProof.Rows L2
local macro_rules | `(tactic| walk_at "tp") => `(tactic| first
  | exact Tp.refl _
  | assumption
  | exact Gr.tp (by assumption)
  | (refine Tp.trans ?_ (by first | assumption | exact Gr.tp (by assumption)); walk_at "tp"))
local macro_rules | `(tactic| walk_at "gr") => `(tactic| first
  | exact Gr.refl _ _
  | assumption
  | exact Gr.any (by assumption)
  | (refine Gr.trans ?_ (by first | assumption | exact Gr.any (by assumption)); walk_at "gr"))
local macro_rules | `(tactic| walk_at "rep") => `(tactic| first
  | exact Rep.int _ | exact Rep.str _ | exact Rep.bl _ | exact Rep.non
  | assumption
  | (refine Rep.mono ?_ (by assumption); walk_at "tp"))
local macro_rules | `(tactic| walk_at "repl") => `(tactic| repeat first
  | exact RepL.nil
  | (apply RepL.cons; (· walk_at "rep")))
local macro_rules | `(tactic| walk_at "step") => `(tactic| first
  | ((with_reducible apply w_var); rfl)
  | (with_reducible apply w_c)
  | (with_reducible apply w_op)
  | (with_reducible apply w_I0)
  | ((with_reducible apply w_ix); (· assumption); (· walk_at "tp"); (· decide); (· rfl); (intro x hx; first | (have e := Rep.intI hx; subst e; clear hx) | (have e := Rep.strI hx; subst e; clear hx) | (have e := Rep.blI hx; subst e; clear hx) | skip))
  | ((with_reducible apply w_ixU); (· assumption); (· walk_at "tp"); (· decide); (· rfl))
  | (with_reducible apply w_eqS)
  | (with_reducible apply w_eqI)
  | (with_reducible apply w_eqB)
  | (with_reducible apply w_neB)
  | (with_reducible apply w_test)
  | (with_reducible apply w_tB)
  | (with_reducible apply w_and)
  | (with_reducible apply w_or)
  | (with_reducible apply w_not)
  | (with_reducible apply w_nil)
  | (with_reducible apply w_cons)
  | (with_reducible apply w_CB)
  | (with_reducible apply w_call)
  | (with_reducible apply w_seq)
  | (with_reducible apply w_asg)
  | (with_reducible apply w_gname)
  | (with_reducible apply w_drop)
  | (with_reducible apply w_ret)
  | (with_reducible apply w_ifS)
  | (with_reducible apply w_next)
  | (with_reducible apply w_ifE)
  | (with_reducible apply w_andV)
  | (with_reducible apply w_orV)
  | (with_reducible apply w_notV)
  | (with_reducible apply w_tupE)
  | (with_reducible apply w_lstE)
  | (with_reducible apply w_bl)
  | ((with_reducible apply w_aug); rfl)
  | (with_reducible apply w_ip)
  | (with_reducible apply w_for1)
  | (with_reducible apply w_for2)
  | (with_reducible apply w_forT)
  | (with_reducible apply w_forL)
  | ((with_reducible apply w_lenD); (· assumption); (· walk_at "tp"))
  | (with_reducible apply w_min)
  | (with_reducible apply w_intI)
  | (with_reducible apply w_intB)
  | ((with_reducible apply w_I); (· first | decide | exact (by decide : (1000 : Int) ≠ 0) | exact ⟨by decide, by decide⟩ | exact ⟨by decide, by decide, by decide⟩ | exact .inr ⟨by decide, by decide⟩ | exact .inl ⟨by decide, by decide⟩))
  | (with_reducible apply w_bm)
  | (with_reducible apply w_bm0)
  | ((with_reducible apply w_tyL); (· assumption))
  | (with_reducible apply w_gsub)
  | (with_reducible apply w_fld)
  | (with_reducible apply w_gcons)
  | (with_reducible apply w_gnil)
  | ((with_reducible apply w_gtup); (· assumption); (· walk_at "tp"); (· rfl))
  | (with_reducible apply w_meth)
  | (with_reducible apply w_lc1)
  | (with_reducible apply w_lcL)
  | (with_reducible apply w_lcT)
  | (with_reducible apply w_yes)
  | (with_reducible apply w_m1)
  | (with_reducible apply w_dnotin)
  | (with_reducible apply w_din)
  | (with_reducible apply w_dget)
  | (with_reducible apply w_dput)
  | ((with_reducible apply w_ixL); (· assumption); (· decide); (· rfl)))
local macro_rules | `(tactic| walk_at "go") => `(tactic| repeat walk_at "step")
local macro_rules | `(tactic| walk_at "set") => `(tactic| dsimp only [List.set_cons_succ, List.set_cons_zero])

/-- one more item behind, one more to choose -/
def stepS (s : Fd × Wk) (e : Ex) : Fd × Wk :=
  let r := walkE e s.2
  (⟨s.1.em && r.1.em, if s.1.em then joinedL s.1.fi r.1.fi else s.1.fi, if r.1.em then joinedL s.1.la r.1.la else r.1.la⟩, ⟨r.2.pl, linkL r.2.fo s.1.la r.1.fi⟩)
def stepC (s : Fd × Wk) (e : Ex) : Fd × Wk :=
  let r := walkE e s.2
  (⟨s.1.em || r.1.em, joinedL s.1.fi r.1.fi, joinedL s.1.la r.1.la⟩, r.2)
theorem seq_two (a b : Ex) (W : Wk) : stepS (stepS (⟨true, [], []⟩, W) a) b = walkE (.two true a b) W := by
  have e1 : stepS (⟨true, [], []⟩, W) a = walkE a W := by
    unfold stepS
    simp only [Bool.true_and, if_true, joinedL_nil, ite_self]
    rfl
  rw [e1]
  rfl
theorem cho_two (a b : Ex) (W : Wk) : stepC (stepC (⟨false, [], []⟩, W) a) b = walkE (.two false a b) W := by
  have e1 : stepC (⟨false, [], []⟩, W) a = walkE a W := by
    unfold stepC
    simp only [Bool.false_or, joinedL_nil]
  rw [e1]
  rfl
/-- a state on the way -/
structure Way (s : Fd × Wk) : Prop where
  wk : WkOk s.2
  fi : Nu s.2.pl.length s.1.fi
  la : Nu s.2.pl.length s.1.la
theorem stepS_ok {s : Fd × Wk} (h : Way s) (e : Ex) : Way (stepS s e) ∧ (stepS s e).2.pl.length = s.2.pl.length + exN e := by
  obtain ⟨a1, a2, a3, a4⟩ := walkE_ok e s.2 h.wk
  have le : s.2.pl.length ≤ (walkE e s.2).2.pl.length := by omega
  refine ⟨⟨⟨?_, ?_⟩, ?_, ?_⟩, a4⟩
  · show (linkL _ _ _).length = _
    rw [linkL_len]; exact a1.len
  · exact linkL_nu a2 _ _ a1.fo
  · show Nu (walkE e s.2).2.pl.length (if _ then _ else _)
    split
    · exact (h.fi.mono le).joined a2
    · exact h.fi.mono le
  · show Nu (walkE e s.2).2.pl.length (if _ then _ else _)
    split
    · exact (h.la.mono le).joined a3
    · exact a3
theorem stepC_ok {s : Fd × Wk} (h : Way s) (e : Ex) : Way (stepC s e) ∧ (stepC s e).2.pl.length = s.2.pl.length + exN e := by
  obtain ⟨a1, a2, a3, a4⟩ := walkE_ok e s.2 h.wk
  have le : s.2.pl.length ≤ (walkE e s.2).2.pl.length := by omega
  exact ⟨⟨a1, (h.fi.mono le).joined a2, (h.la.mono le).joined a3⟩, a4⟩
section
variable {P : Program} {w : World} {K : PySem.W.Frag} {mg : Str → Option Value} {base : Heap} {H H' : Hp} {C b p lp lf : Addr} {W : Wk} {Q : VK}
def ExK : Ex → Prop
  | .place _ _ _ _ => True
  | .two _ a b => ExK a ∧ ExK b
  | .rep k a => k < 3 ∧ ExK a
def spWalk (C : Addr) (d : Nat) (kd : Ex → Bool) : Sp := fun vs H Q _ => ∃ (p lp lf : Addr) (W : Wk) (v : V) (e : Ex), vs = [.ref p, v] ∧ PlAt C H p lp lf W ∧ WkOk W ∧ W.pl.length + exN e ≤ 100 ∧ Rep H (encEx e) v ∧ exD e < d ∧ kd e = true ∧ ExK e ∧
  ∀ (t a b : Addr) (H' : Hp), Gr (S2 lp lf) H H' → PlAt C H' p lp lf (walkE e W).2 → H' t = some (.tup [.bl (walkE e W).1.em, .ref a, .ref b]) → LI H' a (walkE e W).1.fi → LI H' b (walkE e W).1.la → H a = none → H b = none → Q (.ref t) H'
theorem PlAt.not2 (x : PlAt C H p lp lf W) {a : Addr} (h : H a = none) : ¬ S2 lp lf a := fun z => by
  obtain ⟨vs, e1, _⟩ := x.pls
  obtain ⟨as, e2, _⟩ := x.fos
  rcases z with z | z
  · rw [← z, h] at e1; cases e1
  · rw [← z, h] at e2; cases e2
theorem PlAt.nes (x : PlAt C H p lp lf W) {a : Addr} (h : H a = none) : a ≠ lp ∧ a ≠ lf := ⟨fun z => x.not2 h (.inl z), fun z => x.not2 h (.inr z)⟩
/-! ### a place -/
def kPlace : Ex → Bool
  | .place _ _ _ _ => true
  | _ => false
theorem sc_walk_place : FnScope ["places", "choice", "number"] ["places", "choice"] (defScope (top 4)) := ⟨rfl, rfl, rfl, by decide +kernel, rfl, by decide +kernel, by decide +kernel⟩
theorem ok_walk_place {d : Nat} (R : Raw K mg "walk_place" (top 4) ["places", "choice"]) (T : PT K mg C) (D_add : DefM P w K mg base C 1 "add" ["self", "place"] (spAdd C)) : Def P w K mg base 2 "walk_place" ["places", "choice"] (spWalk C d kPlace) := by
  refine R.ok sc_walk_place (fun vs H Q E h => ?_) (fun f cdv A outer s H vs Q E hr h => ?_)
  · obtain ⟨_, _, _, _, _, _, rfl, _⟩ := h; rfl
  obtain ⟨p, lp, lf, W, v, e, rfl, hp, hW, hn, hv, hd, hk, hxk, q⟩ := h
  refine ⟨_, (pss_cons (ps_set (i := 2) sc_walk_place.nd rfl (.inl rfl) (pe_dm D_add (pv 0) T.cl hr (pa_cons (pv 1) pa_nil)))
    (pss_one (ps_ret (pe_tup (pa_cons pe_bl (pa_cons (pe_lst (pa_cons (pv 2) pa_nil)) (pa_cons (pe_lst (pa_cons (pv 2) pa_nil)) pa_nil))))))), ?_⟩
  cases e with
  | two => cases hk
  | rep => cases hk
  | place pp l m c =>
  have hn1 : W.pl.length ≤ 99 := by unfold exN at hn; omega
  walk_at "go"
  refine hp.meth (by decide +kernel) (by decide +kernel) ?_
  walk_at "go"
  refine ⟨p, lp, lf, W, v, _, rfl, hp, by omega, by have := hW.len; omega, hv, fun H1 g1 hp1 => ?_⟩
  walk_at "go"
  refine lst_new (by show 1 ≤ sizeLine; decide) fun a H2 an ha g2 => ?_
  walk_at "go"
  refine lst_new (by show 1 ≤ sizeLine; decide) fun b H3 bn hb g3 => ?_
  walk_at "go"
  refine ⟨by show 3 ≤ sizeLine; decide, fun t tn => ?_⟩
  refine q t a b _ ((g1.trans g2.any).trans ((g3.any).trans (Gr.new tn))) (((hp1.gr0 g2).gr0 g3).gr0 (Gr.new tn)) upd_same ?_ ?_ (g1.nn a an) (g1.nn b (g2.nn b bn))
  · exact (show LI _ a [W.pl.length + 1] from (Gr.new (S := S0) tn).lst id (g3.lst id ha))
  · exact (show LI _ b [W.pl.length + 1] from (Gr.new (S := S0) tn).lst id hb)
/-! ### items behind one another -/
def kSeq : Ex → Bool
  | .two true _ _ => true
  | _ => false
def kCho : Ex → Bool
  | .two false _ _ => true
  | _ => false
/-- what stands on the way through two items -/
structure WayAt (C : Addr) (H : Hp) (p lp lf : Addr) (v : V) (st : Fd × Wk) (n : Nat) (σ : L2.St) (H' : Hp) : Prop where
  ex : ∃ (f l : Addr) (d5 d6 : Option V), σ = [some (.ref p), some v, some (.bl st.1.em), some (.ref f), some (.ref l), d5, d6] ∧ LI H' f st.1.fi ∧ LI H' l st.1.la ∧ H f = none ∧ H l = none
  gr : Gr (S2 lp lf) H H'
  pl : PlAt C H' p lp lf st.2
  ok : Way st
  len : st.2.pl.length ≤ n
theorem sc_walk_sequence : FnScope ["places", "choice", "empty", "firsts", "lasts", "item", "found"] ["places", "choice"] (defScope (top 5)) := ⟨rfl, rfl, rfl, by decide +kernel, rfl, by decide +kernel, by decide +kernel⟩
theorem ok_walk_sequence {d k : Nat} (R : Raw K mg "walk_sequence" (top 5) ["places", "choice"]) (T : PT K mg C) (D_link : DefM P w K mg base C (k + 2) "link" ["self", "lasts", "firsts"] (spLink C)) (D_joined : Def P w K mg base (k + 2) "joined" ["one", "other"] spJoined) (D_walk : Def P w K mg base (k + 2) "walk" ["places", "choice"] (spWalk C d fun _ => true)) : Def P w K mg base (k + 3) "walk_sequence" ["places", "choice"] (spWalk C (d + 1) kSeq) := by
  refine R.ok sc_walk_sequence (fun vs H Q E h => ?_) (fun f cdv A outer s H vs Q E hr h => ?_)
  · obtain ⟨_, _, _, _, _, _, rfl, _⟩ := h; rfl
  obtain ⟨p, lp, lf, W, v, e, rfl, hp, hW, hn, hv, hd, hk, hxk, q⟩ := h
  refine ⟨_, (pss_cons (ps_set (i := 2) sc_walk_sequence.nd rfl (.inl rfl) pe_bl)
    (pss_cons (ps_set (i := 3) sc_walk_sequence.nd rfl (.inl rfl) (pe_lst pa_nil))
    (pss_cons (ps_set (i := 4) sc_walk_sequence.nd rfl (.inl rfl) (pe_lst pa_nil))
    (pss_cons (ps_for PassesOwn.never rfl (pi_tup (pe_ix (ix_sq (K := K) rfl) (pv 1) pe_int (fun _ _ => rfl))) (pg_name (i := 5) sc_walk_sequence.nd rfl (.inl rfl))
      (pss_cons (ps_set (i := 6) sc_walk_sequence.nd rfl (.inl rfl) (pe_d D_walk hr (by rfl) (pa_cons (pv 0) (pa_cons (pv 5) pa_nil))))
      (pss_cons (ps_expr (pe_dm D_link (pv 0) T.cl hr (pa_cons (pv 4) (pa_cons (pe_ix (ix_sq (K := K) rfl) (pv 6) pe_int (fun _ _ => rfl)) pa_nil))))
      (pss_cons (ps_if (pt_val (pv 2))
        (pss_one (ps_set (i := 3) sc_walk_sequence.nd rfl (.inl rfl) (pe_d D_joined hr (by rfl) (pa_cons (pv 3) (pa_cons (pe_ix (ix_sq (K := K) rfl) (pv 6) pe_int (fun _ _ => rfl)) pa_nil)))))
        pss_nil)
      (pss_cons (ps_set (i := 4) sc_walk_sequence.nd rfl (.inl rfl) (pe_ifExp (pt_val (pe_ix (ix_sq (K := K) rfl) (pv 6) pe_int (fun _ _ => rfl))) (pe_d D_joined hr (by rfl) (pa_cons (pv 4) (pa_cons (pe_ix (ix_sq (K := K) rfl) (pv 6) pe_int (fun _ _ => rfl)) pa_nil))) (pe_ix (ix_sq (K := K) rfl) (pv 6) pe_int (fun _ _ => rfl))))
      (pss_one (ps_set (i := 2) sc_walk_sequence.nd rfl (.inl rfl) (pe_and (pv 2) (pe_one (pe_ix (ix_sq (K := K) rfl) (pv 6) pe_int (fun _ _ => rfl)))))))))))
    (pss_one (ps_ret (pe_tup (pa_cons (pv 2) (pa_cons (pv 3) (pa_cons (pv 4) pa_nil)))))))))), ?_⟩
  cases e with
  | place => cases hk
  | rep => cases hk
  | two sq a b =>
  cases sq with
  | false => cases hk
  | true =>
  obtain ⟨hxa, hxb⟩ := hxk
  have hda : exD a < d := by unfold exD at hd; omega
  have hdb : exD b < d := by unfold exD at hd; omega
  have hnn : W.pl.length + exN a + exN b ≤ 100 := by unfold exN at hn; omega
  walk_at "go"
  refine lst_new (Nat.zero_le _) fun f0 H1 f0n hf0 g1 => ?_
  walk_at "go"
  refine lst_new (Nat.zero_le _) fun l0 H2 l0n hl0 g2 => ?_
  walk_at "go"
  rename_i vi hvi
  have G2 := g1.trans g2
  have w0 : Way (⟨true, [], []⟩, W) := ⟨hW, Nu.nil _, Nu.nil _⟩
  obtain ⟨w1, n1⟩ := stepS_ok w0 a
  obtain ⟨w2, n2⟩ := stepS_ok w1 b
  have hvi' : Rep H2 (.tuple ([a, b].map encEx)) vi := hvi
  refine forT hvi' (Tp.refl _) (fun i σ H' => WayAt C H p lp lf v (([a, b].take i).foldl stepS (⟨true, [], []⟩, W)) (W.pl.length + (([a, b].take i).map exN).sum) σ H' ∧ Tp H2 H') ?_ (fun i σ H' hp' => hp'.2) (fun i dd x σ H3 hi hx hp' => ?_) (fun σ H3 hp' => ?_)
  · exact ⟨⟨⟨f0, l0, none, none, rfl, g2.lst id hf0, hl0, f0n, g1.nn l0 l0n⟩, G2.any, hp.gr0 G2, w0, Nat.le_refl _⟩, Tp.refl _⟩
  · obtain ⟨⟨⟨fa, la, d5, d6, rfl, hf, hl, fn, ln⟩, g3, pl, ok, len⟩, tp⟩ := hp'
    obtain ⟨e, ed, e1, e2, e3, e4⟩ : ∃ e, dd = encEx e ∧ (exD e < d ∧ ExK e) ∧ W.pl.length + (([a, b].take i).map exN).sum + exN e ≤ 100 ∧ ([a, b].take (i + 1)).foldl stepS (⟨true, [], []⟩, W) = stepS (([a, b].take i).foldl stepS (⟨true, [], []⟩, W)) e ∧ (([a, b].take (i + 1)).map exN).sum = (([a, b].take i).map exN).sum + exN e := by
      match i, hi with
      | 0, hi =>
        cases hi
        exact ⟨a, rfl, ⟨hda, hxa⟩, by show W.pl.length + 0 + exN a ≤ 100; omega, rfl, by show exN a + 0 = 0 + exN a; omega⟩
      | 1, hi =>
        cases hi
        exact ⟨b, rfl, ⟨hdb, hxb⟩, by show W.pl.length + (exN a + 0) + exN b ≤ 100; omega, rfl, by show exN a + (exN b + 0) = exN a + 0 + exN b; omega⟩
    subst ed
    rw [e3, e4, ← Nat.add_assoc]
    generalize ([a, b].take i).foldl stepS (⟨true, [], []⟩, W) = st at *
    generalize W.pl.length + (([a, b].take i).map exN).sum = n at *
    have hx3 := hx.mono tp
    obtain ⟨ok', len'⟩ := stepS_ok ok e
    obtain ⟨a1, a2, a3, a4⟩ := walkE_ok e st.2 ok.wk
    have le : st.2.pl.length ≤ (walkE e st.2).2.pl.length := by omega
    walk_at "go"
    refine ⟨p, lp, lf, st.2, x, e, rfl, pl, ok.wk, by omega, hx3, e1.1, rfl, e1.2, fun t ra rb H4 g4 pl4 ht ha hb an bn => ?_⟩
    walk_at "go"
    refine pl4.meth (by decide +kernel) (by decide +kernel) ?_
    walk_at "go"
    have nf := hp.nes fn
    have nl := hp.nes ln
    have na := pl.nes an
    have nb := pl.nes bn
    have sf := hp.not2 fn
    have sl := hp.not2 ln
    refine ⟨p, lp, lf, (walkE e st.2).2, la, ra, st.1.la, (walkE e st.2).1.fi, (walkE e st.2).2.pl.length, rfl, pl4, hl.gr g4 sl, ha, ⟨nl.1, nl.2, na.1, na.2⟩, by omega, a1.fo, a2, fun y hy => ?_, fun H5 g5 pl5 => ?_⟩
    · have := (ok.la.2 y hy).2
      have := a1.len
      omega
    have ht5 := g5.tp _ _ ht
    have ha5 := ha.gr g5 (pl.not2 an)
    have hb5 := hb.gr g5 (pl.not2 bn)
    have hf5 := (hf.gr g4 sf).gr g5 sf
    have hl5 := (hl.gr g4 sl).gr g5 sl
    have G5 := (g3.trans g4).trans g5
    have T5 := tp.trans (g4.tp.trans g5.tp)
    walk_at "go"
    have eE : (stepS st e).1.em = (st.1.em && (walkE e st.2).1.em) := rfl
    have eF : (stepS st e).1.fi = if st.1.em then joinedL st.1.fi (walkE e st.2).1.fi else st.1.fi := rfl
    have eL : (stepS st e).1.la = if (walkE e st.2).1.em then joinedL st.1.la (walkE e st.2).1.la else (walkE e st.2).1.la := rfl
    have b1 : st.1.fi.length ≤ 1000 := Nat.le_trans ok.fi.len (by omega)
    have b2 : (walkE e st.2).1.fi.length ≤ 1000 := Nat.le_trans a2.len (by omega)
    have b3 : st.1.la.length ≤ 1000 := Nat.le_trans ok.la.len (by omega)
    have b4 : (walkE e st.2).1.la.length ≤ 1000 := Nat.le_trans a3.len (by omega)
    cases hem : st.1.em with
    | true =>
      rw [hem] at eE eF
      refine if_of (fun _ => ?_) (fun h => absurd h (by decide))
      walk_at "go"
      refine ⟨fa, ra, st.1.fi, (walkE e st.2).1.fi, rfl, hf5, ha5, b1, b2, fun r6 H6 g6 r6n hr6 => ?_⟩
      have fr : H r6 = none := G5.nn _ r6n
      have hF : LI H6 r6 (stepS st e).1.fi := by rw [eF]; exact hr6
      have hl6 := hl5.gr g6 id
      have hb6 := hb5.gr g6 id
      walk_at "go"
      cases hre : (walkE e st.2).1.em with
      | true =>
        rw [hre] at eE eL
        refine if_of (fun _ => ?_) (fun h => absurd h (by decide))
        walk_at "go"
        refine ⟨la, rb, st.1.la, (walkE e st.2).1.la, rfl, hl6, hb6, b3, b4, fun r7 H7 g7 r7n hr7 => ?_⟩
        walk_at "go"
        refine if_of (fun _ => ?_) (fun h => absurd h (by decide))
        walk_at "go"
        rw [hre]
        exact ⟨⟨⟨r6, r7, _, _, by rw [eE]; rfl, hF.gr g7 id, by rw [eL]; exact hr7, fr, (G5.trans g6.any).nn _ r7n⟩, (G5.trans g6.any).trans g7.any, (pl5.gr0 g6).gr0 g7, ok', by omega⟩, (T5.trans g6.tp).trans g7.tp⟩
      | false =>
        rw [hre] at eE eL
        refine if_of (fun h => absurd h (by decide)) (fun _ => ?_)
        walk_at "go"
        refine if_of (fun _ => ?_) (fun h => absurd h (by decide))
        walk_at "go"
        rw [hre]
        exact ⟨⟨⟨r6, rb, _, _, by rw [eE]; rfl, hF, by rw [eL]; exact hb6, fr, g3.nn _ bn ⟩, G5.trans g6.any, pl5.gr0 g6, ok', by omega⟩, T5.trans g6.tp⟩
    | false =>
      rw [hem] at eE eF
      refine if_of (fun h => absurd h (by decide)) (fun _ => ?_)
      have g6 : Gr S0 H5 H5 := Gr.refl _ _
      have fr := fn
      have hF : LI H5 fa (stepS st e).1.fi := by rw [eF]; exact hf5
      have hl6 := hl5.gr g6 id
      have hb6 := hb5.gr g6 id
      walk_at "go"
      cases hre : (walkE e st.2).1.em with
      | true =>
        rw [hre] at eE eL
        refine if_of (fun _ => ?_) (fun h => absurd h (by decide))
        walk_at "go"
        refine ⟨la, rb, st.1.la, (walkE e st.2).1.la, rfl, hl6, hb6, b3, b4, fun r7 H7 g7 r7n hr7 => ?_⟩
        walk_at "go"
        refine if_of (fun h => absurd h (by decide)) (fun _ => ?_)
        exact ⟨⟨⟨fa, r7, _, _, by rw [eE]; rfl, hF.gr g7 id, by rw [eL]; exact hr7, fr, (G5.trans g6.any).nn _ r7n⟩, (G5.trans g6.any).trans g7.any, (pl5.gr0 g6).gr0 g7, ok', by omega⟩, (T5.trans g6.tp).trans g7.tp⟩
      | false =>
        rw [hre] at eE eL
        refine if_of (fun h => absurd h (by decide)) (fun _ => ?_)
        walk_at "go"
        refine if_of (fun h => absurd h (by decide)) (fun _ => ?_)
        exact ⟨⟨⟨fa, rb, _, _, by rw [eE]; rfl, hF, by rw [eL]; exact hb6, fr, g3.nn _ bn ⟩, G5.trans g6.any, pl5.gr0 g6, ok', by omega⟩, T5.trans g6.tp⟩
  · obtain ⟨⟨⟨fa, la, d5, d6, rfl, hf, hl, fn, ln⟩, g3, pl, ok, len⟩, tp⟩ := hp'
    change LI H3 fa (stepS (stepS (⟨true, [], []⟩, W) a) b).1.fi at hf
    change LI H3 la (stepS (stepS (⟨true, [], []⟩, W) a) b).1.la at hl
    change PlAt C H3 p lp lf (stepS (stepS (⟨true, [], []⟩, W) a) b).2 at pl
    rw [seq_two] at hf hl pl
    have hem2 : (([a, b].take ([a, b].map encEx).length).foldl stepS (⟨true, [], []⟩, W)).1.em = (walkE (.two true a b) W).1.em := by rw [← seq_two]; rfl
    rw [hem2]
    walk_at "go"
    refine ⟨by show 3 ≤ sizeLine; decide, fun t tn => ?_⟩
    exact q t fa la _ (g3.trans (Gr.new tn)) (pl.gr0 (Gr.new tn)) upd_same (hf.gr (Gr.new (S := S0) tn) id) (hl.gr (Gr.new (S := S0) tn) id) fn ln
theorem sc_walk_choice : FnScope ["places", "choice", "empty", "firsts", "lasts", "item", "found"] ["places", "choice"] (defScope (top 6)) := ⟨rfl, rfl, rfl, by decide +kernel, rfl, by decide +kernel, by decide +kernel⟩
theorem ok_walk_choice {d k : Nat} (R : Raw K mg "walk_choice" (top 6) ["places", "choice"]) (T : PT K mg C) (D_joined : Def P w K mg base (k + 2) "joined" ["one", "other"] spJoined) (D_walk : Def P w K mg base (k + 2) "walk" ["places", "choice"] (spWalk C d fun _ => true)) : Def P w K mg base (k + 3) "walk_choice" ["places", "choice"] (spWalk C (d + 1) kCho) := by
  refine R.ok sc_walk_choice (fun vs H Q E h => ?_) (fun f cdv A outer s H vs Q E hr h => ?_)
  · obtain ⟨_, _, _, _, _, _, rfl, _⟩ := h; rfl
  obtain ⟨p, lp, lf, W, v, e, rfl, hp, hW, hn, hv, hd, hk, hxk, q⟩ := h
  refine ⟨_, (pss_cons (ps_set (i := 2) sc_walk_choice.nd rfl (.inl rfl) pe_bl)
    (pss_cons (ps_set (i := 3) sc_walk_choice.nd rfl (.inl rfl) (pe_lst pa_nil))
    (pss_cons (ps_set (i := 4) sc_walk_choice.nd rfl (.inl rfl) (pe_lst pa_nil))
    (pss_cons (ps_for PassesOwn.never rfl (pi_tup (pe_ix (ix_sq (K := K) rfl) (pv 1) pe_int (fun _ _ => rfl))) (pg_name (i := 5) sc_walk_choice.nd rfl (.inl rfl))
      (pss_cons (ps_set (i := 6) sc_walk_choice.nd rfl (.inl rfl) (pe_d D_walk hr (by rfl) (pa_cons (pv 0) (pa_cons (pv 5) pa_nil))))
      (pss_cons (ps_set (i := 2) sc_walk_choice.nd rfl (.inl rfl) (pe_or (pv 2) (pe_one (pe_ix (ix_sq (K := K) rfl) (pv 6) pe_int (fun _ _ => rfl)))))
      (pss_cons (ps_set (i := 3) sc_walk_choice.nd rfl (.inl rfl) (pe_d D_joined hr (by rfl) (pa_cons (pv 3) (pa_cons (pe_ix (ix_sq (K := K) rfl) (pv 6) pe_int (fun _ _ => rfl)) pa_nil))))
      (pss_one (ps_set (i := 4) sc_walk_choice.nd rfl (.inl rfl) (pe_d D_joined hr (by rfl) (pa_cons (pv 4) (pa_cons (pe_ix (ix_sq (K := K) rfl) (pv 6) pe_int (fun _ _ => rfl)) pa_nil)))))))))
    (pss_one (ps_ret (pe_tup (pa_cons (pv 2) (pa_cons (pv 3) (pa_cons (pv 4) pa_nil)))))))))), ?_⟩
  cases e with
  | place => cases hk
  | rep => cases hk
  | two sq a b =>
  cases sq with
  | true => cases hk
  | false =>
  obtain ⟨hxa, hxb⟩ := hxk
  have hda : exD a < d := by unfold exD at hd; omega
  have hdb : exD b < d := by unfold exD at hd; omega
  have hnn : W.pl.length + exN a + exN b ≤ 100 := by unfold exN at hn; omega
  walk_at "go"
  refine lst_new (Nat.zero_le _) fun f0 H1 f0n hf0 g1 => ?_
  walk_at "go"
  refine lst_new (Nat.zero_le _) fun l0 H2 l0n hl0 g2 => ?_
  walk_at "go"
  rename_i vi hvi
  have G2 := g1.trans g2
  have w0 : Way (⟨false, [], []⟩, W) := ⟨hW, Nu.nil _, Nu.nil _⟩
  obtain ⟨w1, n1⟩ := stepC_ok w0 a
  obtain ⟨w2, n2⟩ := stepC_ok w1 b
  have hvi' : Rep H2 (.tuple ([a, b].map encEx)) vi := hvi
  refine forT hvi' (Tp.refl _) (fun i σ H' => WayAt C H p lp lf v (([a, b].take i).foldl stepC (⟨false, [], []⟩, W)) (W.pl.length + (([a, b].take i).map exN).sum) σ H' ∧ Tp H2 H') ?_ (fun i σ H' hp' => hp'.2) (fun i dd x σ H3 hi hx hp' => ?_) (fun σ H3 hp' => ?_)
  · exact ⟨⟨⟨f0, l0, none, none, rfl, g2.lst id hf0, hl0, f0n, g1.nn l0 l0n⟩, G2.any, hp.gr0 G2, w0, Nat.le_refl _⟩, Tp.refl _⟩
  · obtain ⟨⟨⟨fa, la, d5, d6, rfl, hf, hl, fn, ln⟩, g3, pl, ok, len⟩, tp⟩ := hp'
    obtain ⟨e, ed, e1, e2, e3, e4⟩ : ∃ e, dd = encEx e ∧ (exD e < d ∧ ExK e) ∧ W.pl.length + (([a, b].take i).map exN).sum + exN e ≤ 100 ∧ ([a, b].take (i + 1)).foldl stepC (⟨false, [], []⟩, W) = stepC (([a, b].take i).foldl stepC (⟨false, [], []⟩, W)) e ∧ (([a, b].take (i + 1)).map exN).sum = (([a, b].take i).map exN).sum + exN e := by
      match i, hi with
      | 0, hi =>
        cases hi
        exact ⟨a, rfl, ⟨hda, hxa⟩, by show W.pl.length + 0 + exN a ≤ 100; omega, rfl, by show exN a + 0 = 0 + exN a; omega⟩
      | 1, hi =>
        cases hi
        exact ⟨b, rfl, ⟨hdb, hxb⟩, by show W.pl.length + (exN a + 0) + exN b ≤ 100; omega, rfl, by show exN a + (exN b + 0) = exN a + 0 + exN b; omega⟩
    subst ed
    rw [e3, e4, ← Nat.add_assoc]
    generalize ([a, b].take i).foldl stepC (⟨false, [], []⟩, W) = st at *
    generalize W.pl.length + (([a, b].take i).map exN).sum = n at *
    have hx3 := hx.mono tp
    obtain ⟨ok', len'⟩ := stepC_ok ok e
    obtain ⟨a1, a2, a3, a4⟩ := walkE_ok e st.2 ok.wk
    have le : st.2.pl.length ≤ (walkE e st.2).2.pl.length := by omega
    walk_at "go"
    refine ⟨p, lp, lf, st.2, x, e, rfl, pl, ok.wk, by omega, hx3, e1.1, rfl, e1.2, fun t ra rb H5 g5 pl5 ht5 ha5 hb5 an bn => ?_⟩
    have sf := hp.not2 fn
    have sl := hp.not2 ln
    have hf5 := hf.gr g5 sf
    have hl5 := hl.gr g5 sl
    have G5 := g3.trans g5
    have T5 := tp.trans g5.tp
    have b1 : st.1.fi.length ≤ 1000 := Nat.le_trans ok.fi.len (by omega)
    have b2 : (walkE e st.2).1.fi.length ≤ 1000 := Nat.le_trans a2.len (by omega)
    have b3 : st.1.la.length ≤ 1000 := Nat.le_trans ok.la.len (by omega)
    have b4 : (walkE e st.2).1.la.length ≤ 1000 := Nat.le_trans a3.len (by omega)
    have eE : (stepC st e).1.em = (st.1.em || (walkE e st.2).1.em) := rfl
    walk_at "go"
    cases hem : st.1.em with
    | true =>
      rw [hem, Bool.true_or] at eE
      refine if_of (fun _ => ?_) (fun h => absurd h (by decide))
      walk_at "go"
      refine ⟨fa, ra, st.1.fi, (walkE e st.2).1.fi, rfl, hf5, ha5, b1, b2, fun r6 H6 g6 r6n hr6 => ?_⟩
      walk_at "go"
      refine ⟨la, rb, st.1.la, (walkE e st.2).1.la, rfl, hl5.gr g6 id, hb5.gr g6 id, b3, b4, fun r7 H7 g7 r7n hr7 => ?_⟩
      exact ⟨⟨⟨r6, r7, _, _, by rw [eE]; rfl, hr6.gr g7 id, hr7, G5.nn _ r6n, (G5.trans g6.any).nn _ r7n⟩, (G5.trans g6.any).trans g7.any, (pl5.gr0 g6).gr0 g7, ok', by omega⟩, (T5.trans g6.tp).trans g7.tp⟩
    | false =>
      rw [hem, Bool.false_or] at eE
      refine if_of (fun h => absurd h (by decide)) (fun _ => ?_)
      walk_at "go"
      refine ⟨fa, ra, st.1.fi, (walkE e st.2).1.fi, rfl, hf5, ha5, b1, b2, fun r6 H6 g6 r6n hr6 => ?_⟩
      walk_at "go"
      refine ⟨la, rb, st.1.la, (walkE e st.2).1.la, rfl, hl5.gr g6 id, hb5.gr g6 id, b3, b4, fun r7 H7 g7 r7n hr7 => ?_⟩
      exact ⟨⟨⟨r6, r7, _, _, by rw [eE]; rfl, hr6.gr g7 id, hr7, G5.nn _ r6n, (G5.trans g6.any).nn _ r7n⟩, (G5.trans g6.any).trans g7.any, (pl5.gr0 g6).gr0 g7, ok', by omega⟩, (T5.trans g6.tp).trans g7.tp⟩
  · obtain ⟨⟨⟨fa, la, d5, d6, rfl, hf, hl, fn, ln⟩, g3, pl, ok, len⟩, tp⟩ := hp'
    change LI H3 fa (stepC (stepC (⟨false, [], []⟩, W) a) b).1.fi at hf
    change LI H3 la (stepC (stepC (⟨false, [], []⟩, W) a) b).1.la at hl
    change PlAt C H3 p lp lf (stepC (stepC (⟨false, [], []⟩, W) a) b).2 at pl
    rw [cho_two] at hf hl pl
    have hem2 : (([a, b].take ([a, b].map encEx).length).foldl stepC (⟨false, [], []⟩, W)).1.em = (walkE (.two false a b) W).1.em := by rw [← cho_two]; rfl
    rw [hem2]
    walk_at "go"
    refine ⟨by show 3 ≤ sizeLine; decide, fun t tn => ?_⟩
    exact q t fa la _ (g3.trans (Gr.new tn)) (pl.gr0 (Gr.new tn)) upd_same (hf.gr (Gr.new (S := S0) tn) id) (hl.gr (Gr.new (S := S0) tn) id) fn ln
/-! ### repeated, maybe -/
def kRep : Ex → Bool
  | .rep k _ => decide (k < 2)
  | _ => false
def kMay : Ex → Bool
  | .rep k _ => decide (k = 2)
  | _ => false
theorem sc_walk_repeated : FnScope ["places", "choice", "found"] ["places", "choice"] (defScope (top 7)) := ⟨rfl, rfl, rfl, by decide +kernel, rfl, by decide +kernel, by decide +kernel⟩
theorem ok_walk_repeated {d k : Nat} (R : Raw K mg "walk_repeated" (top 7) ["places", "choice"]) (T : PT K mg C) (D_link : DefM P w K mg base C (k + 2) "link" ["self", "lasts", "firsts"] (spLink C)) (D_walk : Def P w K mg base (k + 2) "walk" ["places", "choice"] (spWalk C d fun _ => true)) : Def P w K mg base (k + 3) "walk_repeated" ["places", "choice"] (spWalk C (d + 1) kRep) := by
  refine R.ok sc_walk_repeated (fun vs H Q E h => ?_) (fun f cdv A outer s H vs Q E hr h => ?_)
  · obtain ⟨_, _, _, _, _, _, rfl, _⟩ := h; rfl
  obtain ⟨p, lp, lf, W, v, e, rfl, hp, hW, hn, hv, hd, hk, hxk, q⟩ := h
  refine ⟨_, (pss_cons (ps_set (i := 2) sc_walk_repeated.nd rfl (.inl rfl) (pe_d D_walk hr (by rfl) (pa_cons (pv 0) (pa_cons (pe_ix (ix_sq (K := K) rfl) (pv 1) pe_int (fun _ _ => rfl)) pa_nil))))
    (pss_cons (ps_expr (pe_dm D_link (pv 0) T.cl hr (pa_cons (pe_ix (ix_sq (K := K) rfl) (pv 2) pe_int (fun _ _ => rfl)) (pa_cons (pe_ix (ix_sq (K := K) rfl) (pv 2) pe_int (fun _ _ => rfl)) pa_nil))))
    (pss_one (ps_ret (pe_tup (pa_cons (pe_or (pe_ix (ix_sq (K := K) rfl) (pv 2) pe_int (fun _ _ => rfl)) (pe_one (pe_cmpR op_eq (pe_ix (ix_sq (K := K) rfl) (pv 1) pe_int (fun _ _ => rfl)) pe_str (nomark _)))) (pa_cons (pe_ix (ix_sq (K := K) rfl) (pv 2) pe_int (fun _ _ => rfl)) (pa_cons (pe_ix (ix_sq (K := K) rfl) (pv 2) pe_int (fun _ _ => rfl)) pa_nil)))))))), ?_⟩
  cases e with
  | place => cases hk
  | two => cases hk
  | rep kk a =>
  have hk2 : kk < 2 := of_decide_eq_true hk
  obtain ⟨_, hxa⟩ := hxk
  have hda : exD a < d := by unfold exD at hd; omega
  have hnn : W.pl.length + exN a ≤ 100 := by unfold exN at hn; omega
  obtain ⟨a1, a2, a3, a4⟩ := walkE_ok a W hW
  have ew : walkE (.rep kk a) W = (⟨(walkE a W).1.em || decide (kk = 0), (walkE a W).1.fi, (walkE a W).1.la⟩, ⟨(walkE a W).2.pl, linkL (walkE a W).2.fo (walkE a W).1.la (walkE a W).1.fi⟩) := by
    show (if kk < 2 then _ else _) = _
    rw [if_pos hk2]
  rw [ew] at q
  walk_at "go"
  rename_i vi hvi
  refine ⟨p, lp, lf, W, vi, a, rfl, hp, hW, hnn, hvi, hda, rfl, hxa, fun t ra rb H4 g4 pl4 ht ha hb an bn => ?_⟩
  have na := hp.nes an
  have nb := hp.nes bn
  walk_at "go"
  refine pl4.meth (by decide +kernel) (by decide +kernel) ?_
  walk_at "go"
  refine ⟨p, lp, lf, (walkE a W).2, rb, ra, (walkE a W).1.la, (walkE a W).1.fi, (walkE a W).2.pl.length, rfl, pl4, hb, ha, ⟨nb.1, nb.2, na.1, na.2⟩, by omega, a1.fo, a2, fun y hy => ?_, fun H5 g5 pl5 => ?_⟩
  · have := (a3.2 y hy).2
    have := a1.len
    omega
  have ht5 := g5.tp _ _ ht
  have ha5 := ha.gr g5 (hp.not2 an)
  have hb5 := hb.gr g5 (hp.not2 bn)
  have fin : ∀ em : Bool, em = ((walkE a W).1.em || decide (kk = 0)) → ∀ t', H5 t' = none → Q (.ref t') (upd H5 t' (.tup [.bl em, .ref ra, .ref rb])) := fun em he t' tn => by
    refine q t' ra rb _ ((g4.trans g5).trans (Gr.new tn)) (pl5.gr0 (Gr.new tn)) (by rw [upd_same, he]) (ha5.gr (Gr.new (S := S0) tn) id) (hb5.gr (Gr.new (S := S0) tn) id) an bn
  walk_at "go"
  cases hem : (walkE a W).1.em with
  | true =>
    refine if_of (fun _ => ?_) (fun h => absurd h (by decide))
    walk_at "go"
    exact ⟨by show 3 ≤ sizeLine; decide, fun t' tn => fin true (by rw [hem, Bool.true_or]) t' tn⟩
  | false =>
    refine if_of (fun h => absurd h (by decide)) (fun _ => ?_)
    walk_at "go"
    refine ⟨by show 3 ≤ sizeLine; decide, fun t' tn => fin _ ?_ t' tn⟩
    rw [hem, Bool.false_or]
    match kk, hk2 with
    | 0, _ => decide +kernel
    | 1, _ => decide +kernel
theorem sc_walk_maybe : FnScope ["places", "choice", "found"] ["places", "choice"] (defScope (top 8)) := ⟨rfl, rfl, rfl, by decide +kernel, rfl, by decide +kernel, by decide +kernel⟩
theorem ok_walk_maybe {d k : Nat} (R : Raw K mg "walk_maybe" (top 8) ["places", "choice"]) (T : PT K mg C) (D_walk : Def P w K mg base (k + 2) "walk" ["places", "choice"] (spWalk C d fun _ => true)) : Def P w K mg base (k + 3) "walk_maybe" ["places", "choice"] (spWalk C (d + 1) kMay) := by
  refine R.ok sc_walk_maybe (fun vs H Q E h => ?_) (fun f cdv A outer s H vs Q E hr h => ?_)
  · obtain ⟨_, _, _, _, _, _, rfl, _⟩ := h; rfl
  obtain ⟨p, lp, lf, W, v, e, rfl, hp, hW, hn, hv, hd, hk, hxk, q⟩ := h
  refine ⟨_, (pss_cons (ps_set (i := 2) sc_walk_maybe.nd rfl (.inl rfl) (pe_d D_walk hr (by rfl) (pa_cons (pv 0) (pa_cons (pe_ix (ix_sq (K := K) rfl) (pv 1) pe_int (fun _ _ => rfl)) pa_nil))))
    (pss_one (ps_ret (pe_tup (pa_cons pe_bl (pa_cons (pe_ix (ix_sq (K := K) rfl) (pv 2) pe_int (fun _ _ => rfl)) (pa_cons (pe_ix (ix_sq (K := K) rfl) (pv 2) pe_int (fun _ _ => rfl)) pa_nil))))))), ?_⟩
  cases e with
  | place => cases hk
  | two => cases hk
  | rep kk a =>
  have hk2 : kk = 2 := of_decide_eq_true hk
  subst hk2
  obtain ⟨_, hxa⟩ := hxk
  have hda : exD a < d := by unfold exD at hd; omega
  have hnn : W.pl.length + exN a ≤ 100 := by unfold exN at hn; omega
  have ew : walkE (.rep 2 a) W = (⟨true, (walkE a W).1.fi, (walkE a W).1.la⟩, (walkE a W).2) := rfl
  rw [ew] at q
  walk_at "go"
  rename_i vi hvi
  refine ⟨p, lp, lf, W, vi, a, rfl, hp, hW, hnn, hvi, hda, rfl, hxa, fun t ra rb H4 g4 pl4 ht ha hb an bn => ?_⟩
  walk_at "go"
  refine ⟨by show 3 ≤ sizeLine; decide, fun t' tn => ?_⟩
  exact q t' ra rb _ (g4.trans (Gr.new tn)) (pl4.gr0 (Gr.new tn)) upd_same (ha.gr (Gr.new (S := S0) tn) id) (hb.gr (Gr.new (S := S0) tn) id) an bn
/-! ### walk itself -/
/-- the table of the walks stands behind the top -/
structure WT (K : PySem.W.Frag) (w : World) (mg : Str → Option Value) (wd : Addr) : Prop where
  g : mg "WALKS" = some (.ref wd)
  a1 : ∃ f, mg "walk_place" = some (.ref f) ∧ KDct K w wd "place" (.ref f)
  a2 : ∃ f, mg "walk_sequence" = some (.ref f) ∧ KDct K w wd "sequence" (.ref f)
  a3 : ∃ f, mg "walk_choice" = some (.ref f) ∧ KDct K w wd "choice" (.ref f)
  a4 : ∃ f, mg "walk_repeated" = some (.ref f) ∧ KDct K w wd "any" (.ref f)
  a5 : ∃ f, mg "walk_repeated" = some (.ref f) ∧ KDct K w wd "some" (.ref f)
  a6 : ∃ f, mg "walk_maybe" = some (.ref f) ∧ KDct K w wd "maybe" (.ref f)
def exKey : Ex → Str
  | .place _ _ _ _ => "place"
  | .two sq _ _ => if sq then "sequence" else "choice"
  | .rep k _ => kName k
theorem sc_walk : FnScope ["places", "choice"] ["places", "choice"] (defScope (top 10)) := ⟨rfl, rfl, rfl, by decide +kernel, rfl, by decide +kernel, by decide +kernel⟩
theorem ok_walk {d k : Nat} {wd : Addr} (R : Raw K mg "walk" (top 10) ["places", "choice"]) (T : WT K w mg wd) (D1 : Def P w K mg base (k + 3) "walk_place" ["places", "choice"] (spWalk C (d + 1) kPlace)) (D2 : Def P w K mg base (k + 3) "walk_sequence" ["places", "choice"] (spWalk C (d + 1) kSeq)) (D3 : Def P w K mg base (k + 3) "walk_choice" ["places", "choice"] (spWalk C (d + 1) kCho)) (D4 : Def P w K mg base (k + 3) "walk_repeated" ["places", "choice"] (spWalk C (d + 1) kRep)) (D5 : Def P w K mg base (k + 3) "walk_maybe" ["places", "choice"] (spWalk C (d + 1) kMay)) : Def P w K mg base (k + 4) "walk" ["places", "choice"] (spWalk C (d + 1) fun _ => true) := by
  refine R.ok sc_walk (fun vs H Q E h => ?_) (fun f cdv A outer s H vs Q E hr h => ?_)
  · obtain ⟨_, _, _, _, _, _, rfl, _⟩ := h; rfl
  obtain ⟨p, lp, lf, W, v, e, rfl, hp, hW, hn, hv, hd, hk, hxk, q⟩ := h
  have hW' := T.g
  refine ⟨_, (pss_one (ps_ret (pe_callF (pe_ix ix_kdict (pe_glob (v := .ref wd) (by rfl) T.g rfl) (pe_ix (ix_sq (K := K) rfl) (pv 1) pe_int (fun _ _ => rfl)) (fun _ _ => rfl)) (pa_cons (pv 0) (pa_cons (pv 1) pa_nil))))), ?_⟩
  walk_at "go"
  have run : ∀ {nm : Str} {ps : List Str} {kd : Ex → Bool} {f' : Addr}, Def P w K mg base (k + 3) nm ps (spWalk C (d + 1) kd) → mg nm = some (.ref f') → kd e = true → PySem.W.keepIn K (.ref f') = true ∧ ∃ (fd : FuncData), FnOk P w K mg base CX0 (k + 3) f' fd ps (spWalk C (d + 1) kd) ∧ Binds K fd ps [] ∧ spWalk C (d + 1) kd [.ref p, v] H Q E0 := by
    intro nm ps kd f' D hm hkd
    obtain ⟨f2, fd, F, m, kp, b⟩ := D
    rw [hm] at m
    cases m
    exact ⟨kp, fd, F, b, p, lp, lf, W, v, e, rfl, hp, hW, hn, hv, hd, hkd, hxk, q⟩
  obtain ⟨ds, he, h0⟩ : ∃ ds, encEx e = .tuple ds ∧ ds[0]? = some (.str (exKey e)) := by
    clear run q hxk hk hd hv hn
    cases e with
    | place => exact ⟨_, rfl, rfl⟩
    | two => exact ⟨_, rfl, rfl⟩
    | rep => exact ⟨_, rfl, rfl⟩
  rw [he] at hv
  unfold tCallF
  walk_at "go"
  refine w_ix (i := 0) hv (Tp.refl _) (by decide) h0 (fun x hx => ?_)
  have ex := Rep.strI hx; subst ex
  cases e with
  | place =>
    obtain ⟨f1, m1, kd1⟩ := T.a1
    rw [← he] at hv
    obtain ⟨kp, fd, F, b, hs⟩ := run D1 m1 rfl
    exact ⟨wd, _, _, rfl, rfl, kd1, f1, rfl, kp, _, rfl, v, rfl, _, fd, _, _, F, hr, b, hs⟩
  | two sq a b =>
    rw [← he] at hv
    cases sq with
    | true =>
      obtain ⟨f1, m1, kd1⟩ := T.a2
      obtain ⟨kp, fd, F, b, hs⟩ := run D2 m1 rfl
      exact ⟨wd, _, _, rfl, rfl, kd1, f1, rfl, kp, _, rfl, v, rfl, _, fd, _, _, F, hr, b, hs⟩
    | false =>
      obtain ⟨f1, m1, kd1⟩ := T.a3
      obtain ⟨kp, fd, F, b, hs⟩ := run D3 m1 rfl
      exact ⟨wd, _, _, rfl, rfl, kd1, f1, rfl, kp, _, rfl, v, rfl, _, fd, _, _, F, hr, b, hs⟩
  | rep kk a =>
    rw [← he] at hv
    have h3 : kk < 3 := hxk.1
    rcases (show kk = 0 ∨ kk = 1 ∨ kk = 2 by omega) with rfl | rfl | rfl
    ·
      obtain ⟨f1, m1, kd1⟩ := T.a4
      obtain ⟨kp, fd, F, b, hs⟩ := run D4 m1 rfl
      exact ⟨wd, _, _, rfl, rfl, kd1, f1, rfl, kp, _, rfl, v, rfl, _, fd, _, _, F, hr, b, hs⟩
    ·
      obtain ⟨f1, m1, kd1⟩ := T.a5
      obtain ⟨kp, fd, F, b, hs⟩ := run D4 m1 rfl
      exact ⟨wd, _, _, rfl, rfl, kd1, f1, rfl, kp, _, rfl, v, rfl, _, fd, _, _, F, hr, b, hs⟩
    ·
      obtain ⟨f1, m1, kd1⟩ := T.a6
      obtain ⟨kp, fd, F, b, hs⟩ := run D5 m1 rfl
      exact ⟨wd, _, _, rfl, rfl, kd1, f1, rfl, kp, _, rfl, v, rfl, _, fd, _, _, F, hr, b, hs⟩
/-- walk at every depth below d -/
theorem walk_all {wd : Addr} (RW : Raw K mg "walk" (top 10) ["places", "choice"]) (R1 : Raw K mg "walk_place" (top 4) ["places", "choice"]) (R2 : Raw K mg "walk_sequence" (top 5) ["places", "choice"]) (R3 : Raw K mg "walk_choice" (top 6) ["places", "choice"]) (R4 : Raw K mg "walk_repeated" (top 7) ["places", "choice"]) (R5 : Raw K mg "walk_maybe" (top 8) ["places", "choice"]) (T : PT K mg C) (TW : WT K w mg wd)
    (D_add : DefM P w K mg base C 1 "add" ["self", "place"] (spAdd C)) (D_link : DefM P w K mg base C 2 "link" ["self", "lasts", "firsts"] (spLink C)) (D_joined : Def P w K mg base 1 "joined" ["one", "other"] spJoined) :
    ∀ d : Nat, Def P w K mg base (2 * d + 2) "walk" ["places", "choice"] (spWalk C d fun _ => true)
  | 0 => (Raw.zero RW fun vs H Q E h => by
      obtain ⟨_, _, _, _, _, _, _, _, _, _, _, h, _⟩ := h
      omega).mono (Nat.zero_le _)
  | d + 1 => by
    have ih := walk_all RW R1 R2 R3 R4 R5 T TW D_add D_link D_joined d
    exact ok_walk (k := 2 * d) RW TW ((ok_walk_place R1 T D_add).mono (by omega)) (ok_walk_sequence (k := 2 * d) R2 T (D_link.mono (by omega)) (D_joined.mono (by omega)) ih) (ok_walk_choice (k := 2 * d) R3 T (D_joined.mono (by omega)) ih) (ok_walk_repeated (k := 2 * d) R4 T (D_link.mono (by omega)) ih) (ok_walk_maybe (k := 2 * d) R5 T ih)
end
end Sr
/-! SrP: machines. -/
namespace Sr
open PySem PySem.Spec PyProof.Rows L2
local macro_rules | `(tactic| walk_at "tp") => `(tactic| first
  | exact Tp.refl _
  | assumption
  | exact Gr.tp (by assumption)
  | (refine Tp.trans ?_ (by first | assumption | exact Gr.tp (by assumption)); walk_at "tp"))
local macro_rules | `(tactic| walk_at "gr") => `(tactic| first
  | exact Gr.refl _ _
  | assumption
  | exact Gr.any (by assumption)
  | (refine Gr.trans ?_ (by first | assumption | exact Gr.any (by assumption)); walk_at "gr"))
local macro_rules | `(tactic| walk_at "rep") => `(tactic| first
  | exact Rep.int _ | exact Rep.str _ | exact Rep.bl _ | exact Rep.non
  | assumption
  | (refine Rep.mono ?_ (by assumption); walk_at "tp"))
local macro_rules | `(tactic| walk_at "repl") => `(tactic| repeat first
  | exact RepL.nil
  | (apply RepL.cons; (· walk_at "rep")))
local macro_rules | `(tactic| walk_at "step") => `(tactic| first
  | ((with_reducible apply w_var); rfl)
  | (with_reducible apply w_c)
  | (with_reducible apply w_op)
  | (with_reducible apply w_I0)
  | ((with_reducible apply w_ix); (· assumption); (· walk_at "tp"); (· decide); (· rfl); (intro x hx; first | (have e := Rep.intI hx; subst e; clear hx) | (have e := Rep.strI hx; subst e; clear hx) | (have e := Rep.blI hx; subst e; clear hx) | skip))
  | ((with_reducible apply w_ixU); (· assumption); (· walk_at "tp"); (· decide); (· rfl))
  | (with_reducible apply w_eqS)
  | (with_reducible apply w_eqI)
  | (with_reducible apply w_eqB)
  | (with_reducible apply w_neB)
  | (with_reducible apply w_test)
  | (with_reducible apply w_tB)
  | (with_reducible apply w_and)
  | (with_reducible apply w_or)
  | (with_reducible apply w_not)
  | (with_reducible apply w_nil)
  | (with_reducible apply w_cons)
  | (with_reducible apply w_CB)
  | (with_reducible apply w_call)
  | (with_reducible apply w_seq)
  | (with_reducible apply w_asg)
  | (with_reducible apply w_gname)
  | (with_reducible apply w_drop)
  | (with_reducible apply w_ret)
  | (with_reducible apply w_ifS)
  | (with_reducible apply w_next)
  | (with_reducible apply w_ifE)
  | (with_reducible apply w_andV)
  | (with_reducible apply w_orV)
  | (with_reducible apply w_notV)
  | (with_reducible apply w_tupE)
  | (with_reducible apply w_lstE)
  | (with_reducible apply w_bl)
  | ((with_reducible apply w_aug); rfl)
  | (with_reducible apply w_ip)
  | (with_reducible apply w_for1)
  | (with_reducible apply w_for2)
  | (with_reducible apply w_forT)
  | (with_reducible apply w_forL)
  | ((with_reducible apply w_lenD); (· assumption); (· walk_at "tp"))
  | (with_reducible apply w_min)
  | (with_reducible apply w_intI)
  | (with_reducible apply w_intB)
  | ((with_reducible apply w_I); (· first | decide | exact (by decide : (1000 : Int) ≠ 0) | exact ⟨by decide, by decide⟩ | exact ⟨by decide, by decide, by decide⟩ | exact .inr ⟨by decide, by decide⟩ | exact .inl ⟨by decide, by decide⟩))
  | (with_reducible apply w_bm)
  | (with_reducible apply w_bm0)
  | ((with_reducible apply w_tyL); (· assumption))
  | (with_reducible apply w_gsub)
  | (with_reducible apply w_fld)
  | (with_reducible apply w_gcons)
  | (with_reducible apply w_gnil)
  | ((with_reducible apply w_gtup); (· assumption); (· walk_at "tp"); (· rfl))
  | (with_reducible apply w_meth)
  | (with_reducible apply w_lc1)
  | (with_reducible apply w_lcL)
  | (with_reducible apply w_lcT)
  | (with_reducible apply w_yes)
  | (with_reducible apply w_m1)
  | (with_reducible apply w_dnotin)
  | (with_reducible apply w_din)
  | (with_reducible apply w_dget)
  | (with_reducible apply w_dput)
  | ((with_reducible apply w_ixL); (· assumption); (· decide); (· rfl)))
local macro_rules | `(tactic| walk_at "go") => `(tactic| repeat walk_at "step")
local macro_rules | `(tactic| walk_at "set") => `(tactic| dsimp only [List.set_cons_succ, List.set_cons_zero])

def isort (ns : List Nat) : List Nat := ns.mergeSort fun a b => decide (a ≤ b)
theorem isort_perm (ns : List Nat) : (isort ns).Perm ns := List.mergeSort_perm ns _
theorem isort_sorted (ns : List Nat) : (isort ns).Pairwise fun a b => a ≤ b := by
  have h := List.pairwise_mergeSort (le := fun a b : Nat => decide (a ≤ b)) (fun a b c h1 h2 => by have := of_decide_eq_true h1; have := of_decide_eq_true h2; exact decide_eq_true (by omega)) (fun a b => by
    by_cases h : a ≤ b
    · simp [h]
    · simp [h]; omega) ns
  exact h.imp fun x => of_decide_eq_true x
theorem isort_int {ns : List Nat} {zs : List Int} (hp : zs.Perm (ns.map fun n : Nat => (n : Int))) (hs : zs.Pairwise (· ≤ ·)) : zs = (isort ns).map fun n : Nat => (n : Int) := by
  refine List.Perm.eq_of_pairwise (fun x y _ _ h1 h2 => Int.le_antisymm h1 h2) hs ?_ (hp.trans ((isort_perm ns).map _).symm)
  rw [List.pairwise_map]
  exact (isort_sorted ns).imp fun h => by omega
abbrev MKey := Bool × List Nat
def encKey (k : MKey) : PD := .tuple [.bool k.1, .tuple (k.2.map fun n => PyData.int (n : Nat))]
def dedup (ks : List MKey) : List MKey := ks.foldl (fun s k => if k ∈ s then s else s ++ [k]) []
def keysOf (r : Fd) (fo : List (List Nat)) : List MKey := (r.em, isort (fo.getD 0 [])) :: (List.range (fo.length - 1)).map fun i => (decide (i + 1 ∈ r.la), isort (fo.getD (i + 1) []))
def plM (o t : Nat) : Ex → Mv
  | .place p l m c => ⟨o, t, p, l, m, c⟩
  | _ => ⟨o, t, 0, 0, 0, 0⟩
def movesAt (pl : List Ex) (keys states : List MKey) (o : Nat) (ns : List Nat) : List Mv := ns.map fun n => plM o (states.idxOf (keys.getD n (false, []))) (pl.getD (n - 1) (.place 0 0 0 0))
def machineOf (e : Ex) : Mach :=
  let r := walkE e ⟨[], [[]]⟩
  let fo := linkL r.2.fo [0] r.1.fi
  let keys := keysOf r.1 fo
  let states := dedup keys
  ⟨states.map (·.1), (List.range states.length).flatMap fun o => movesAt r.2.pl keys states o (states.getD o (false, [])).2⟩
def encWay : Part → PD
  | .strip _ _ _ e => encMach (machineOf e)
  | _ => .tuple []
def waysD (ps : List Part) : PD := .tuple (ps.map encWay)
/-! ### equality of keys -/
theorem eqvAll_ints : ∀ xs ys : List Nat, PyData.eqvAll (xs.map fun n => PyData.int (n : Nat)) (ys.map fun n => PyData.int (n : Nat)) = decide (xs = ys)
  | [], [] => rfl
  | [], _ :: _ => rfl
  | _ :: _, [] => rfl
  | x :: xs, y :: ys => by
    show (((x : Int) == (y : Int)) && PyData.eqvAll _ _) = _
    rw [eqvAll_ints xs ys]
    by_cases h : x = y
    · subst h
      by_cases h2 : xs = ys
      · subst h2; simp
      · simp [h2]
    · have : ((x : Int) == (y : Int)) = false := beq_eq_false_iff_ne.mpr (by omega)
      rw [this]
      simp [h]
theorem eqv_key (k j : MKey) : PyData.eqv (encKey k) (encKey j) = decide (k = j) := by
  obtain ⟨a, xs⟩ := k
  obtain ⟨b, ys⟩ := j
  show ((a == b) && (PyData.eqvAll _ _ && true)) = _
  rw [eqvAll_ints, Bool.and_true]
  by_cases h : a = b
  · subst h
    by_cases h2 : xs = ys
    · subst h2; simp
    · simp [h2]
  · have : (a == b) = false := beq_eq_false_iff_ne.mpr h
    rw [this]
    simp [h]
theorem lay_ints : ∀ xs : List Nat, PyData.canLayAll0 (xs.map fun n => PyData.int (n : Nat)) = true
  | [] => rfl
  | x :: xs => by
    show (true && _) = true
    rw [lay_ints xs]; rfl
theorem depth_ints : ∀ xs : List Nat, PyData.depthAll (xs.map fun n => PyData.int (n : Nat)) = 0
  | [] => rfl
  | x :: xs => by
    simp only [List.map_cons, PyData.depthAll, PyData.depth, depth_ints xs]
    rfl
theorem lay_key (k : MKey) : (encKey k).canLay0 = true := by
  simp only [encKey, PyData.canLay0, PyData.canLayAll0, lay_ints, Bool.and_true]
theorem depth_key (k : MKey) : (encKey k).depth = 2 := by
  simp [encKey, PyData.depth, PyData.depthAll, depth_ints]
theorem shaped_key (k : MKey) : SeqAt.shaped (encKey k) = true := by
  show (_ && decide _) = true
  rw [lay_key, depth_key]; rfl
theorem lay_keys : ∀ ks : List MKey, PyData.canLayAll0 (ks.map encKey) = true
  | [] => rfl
  | k :: ks => by
    show (_ && _) = true
    rw [lay_key, lay_keys ks]; rfl
theorem depth_keys : ∀ ks : List MKey, PyData.depthAll (ks.map encKey) ≤ 2
  | [] => by simp [PyData.depthAll]
  | k :: ks => by
    have h1 := depth_keys ks
    have h2 := depth_key k
    simp only [List.map_cons, PyData.depthAll]
    omega
theorem shaped_keys (ks : List MKey) : SeqAt.shaped (.list (ks.map encKey)) = true := by
  have h1 := depth_keys ks
  have h2 : PyData.depth (.list (ks.map encKey)) ≤ 64 := by
    simp only [PyData.depth]
    omega
  show (PyData.canLay0 (.list (ks.map encKey)) && decide (PyData.depth (.list (ks.map encKey)) ≤ 64)) = true
  rw [Bool.and_eq_true]
  exact ⟨by simp only [PyData.canLay0]; exact lay_keys ks, decide_eq_true h2⟩
theorem any_key (k : MKey) (ks : List MKey) : ((ks.map encKey).any fun z => PyData.eqv z (encKey k)) = decide (k ∈ ks) := by
  induction ks with
  | nil => rfl
  | cons j r ih =>
    rw [List.map_cons, List.any_cons, ih, eqv_key]
    by_cases h : j = k
    · subst h; simp
    · by_cases h2 : k ∈ r
      · simp [h2]
      · simp [h, h2, Ne.symm h]
theorem hu65 {A : Around} {k : Nat} (hr : Room k A) : A.units + 65 < cLine := by
  have := hr.un
  omega
section
variable {P : Program} {w : World} {K : PySem.W.Frag} {mg : Str → Option Value} {base : Heap} {H H' : Hp} {C b p lp lf : Addr} {W : Wk} {Q : VK}
/-! ### one machine -/
def isPlace : Ex → Bool
  | .place _ _ _ _ => true
  | _ => false
theorem walkE_pl : ∀ (e : Ex) (W : Wk), (∀ x ∈ W.pl, isPlace x = true) → ∀ x ∈ (walkE e W).2.pl, isPlace x = true
  | .place p l m c, W, h, x, hx => by
    rcases List.mem_append.mp hx with q | q
    · exact h x q
    · rw [List.mem_singleton.mp q]; rfl
  | .two sq a b, W, h, x, hx => by
    have h1 := walkE_pl b _ (walkE_pl a W h)
    unfold walkE at hx
    cases sq
    · exact h1 x hx
    · exact h1 x hx
  | .rep k a, W, h, x, hx => by
    have h1 := walkE_pl a W h
    unfold walkE at hx
    by_cases hk : k < 2
    · rw [if_pos hk] at hx; exact h1 x hx
    · rw [if_neg hk] at hx; exact h1 x hx
def w0 : Wk := ⟨[], [[]]⟩
theorem w0_ok : WkOk w0 := ⟨rfl, fun f hf => by rw [List.mem_singleton.mp hf]; exact Nu.nil _⟩
/-- sorted(list of numbers) -/
def rSrt (K : PySem.W.Frag) : List V → Hp → VK → Prop := rSortedI K
theorem cx_srt {X : Cx} (h : X.K = K) : CallR X (.builtin "sorted") (rSrt K) := h ▸ cr_sortedI
theorem w_srt {a : Addr} {ns : List Nat} (h : LI H a ns) (q : ∀ p H', H p = none → LI H' p (isort ns) → Gr S0 H H' → Q (.ref p) H') : rSrt K [.ref a] H Q := by
  refine ⟨a, ns.map fun n : Nat => (n : Int), rfl, SqL.of (by rw [List.map_map]; exact h), fun zs p hp hs pn => ?_⟩
  rw [isort_int hp hs, List.map_map]
  exact q p _ pn upd_same (Gr.new pn)
theorem rep_ni (ns : List Nat) : RepL H (ns.map fun n => PyData.int (n : Nat)) (ni ns) := by
  induction ns with
  | nil => exact .nil
  | cons n r ih => exact .cons (.int _) ih
theorem keysOf_len (r : Fd) {fo : List (List Nat)} (h : 1 ≤ fo.length) : (keysOf r fo).length = fo.length := by
  unfold keysOf
  rw [List.length_cons, List.length_map, List.length_range]
  omega
theorem keysOf_take (r : Fd) {fo : List (List Nat)} {i : Nat} (h1 : 1 ≤ i) (h : i < fo.length) : (keysOf r fo).take (i + 1) = (keysOf r fo).take i ++ [(decide (i ∈ r.la), isort (fo.getD i []))] := by
  rw [List.take_succ]
  have e : (keysOf r fo)[i]? = some (decide (i ∈ r.la), isort (fo.getD i [])) := by
    obtain ⟨j, rfl⟩ : ∃ j, i = j + 1 := ⟨i - 1, by omega⟩
    unfold keysOf
    rw [List.getElem?_cons_succ, List.getElem?_map, List.getElem?_range (by omega)]
    rfl
  rw [e]; rfl
theorem keysOf_nums {r : Fd} {fo : List (List Nat)} {n : Nat} (h : ∀ f ∈ fo, Nu n f) : ∀ k ∈ keysOf r fo, ∀ x ∈ k.2, 1 ≤ x ∧ x ≤ n := by
  have key : ∀ i, ∀ x ∈ isort (fo.getD i []), 1 ≤ x ∧ x ≤ n := fun i x hx => by
    have hx' := (isort_perm _).mem_iff.mp hx
    rcases mem_getDL (fo := fo) (l := i) with q | q
    · exact (h _ q).2 x hx'
    · rw [q] at hx'; exact absurd hx' (by simp)
  intro k hk x hx
  unfold keysOf at hk
  rcases List.mem_cons.mp hk with rfl | hk
  · exact key 0 x hx
  · obtain ⟨i, _, rfl⟩ := List.mem_map.mp hk
    exact key (i + 1) x hx
theorem keysOf_lens {r : Fd} {fo : List (List Nat)} {n : Nat} (h : ∀ f ∈ fo, Nu n f) : ∀ k ∈ keysOf r fo, k.2.length ≤ n := by
  have key : ∀ i, (isort (fo.getD i [])).length ≤ n := fun i => by
    rw [(isort_perm _).length_eq]
    rcases mem_getDL (fo := fo) (l := i) with q | q
    · exact (h _ q).len
    · rw [q]; exact Nat.zero_le _
  intro k hk
  unfold keysOf at hk
  rcases List.mem_cons.mp hk with rfl | hk
  · exact key 0
  · obtain ⟨i, _, rfl⟩ := List.mem_map.mp hk
    exact key (i + 1)
theorem dedup_snoc (ks : List MKey) (k : MKey) : dedup (ks ++ [k]) = if k ∈ dedup ks then dedup ks else dedup ks ++ [k] := by
  unfold dedup
  rw [List.foldl_append]
  rfl
theorem dedup_mem : ∀ (ks acc : List MKey) (k : MKey), k ∈ ks.foldl (fun s k => if k ∈ s then s else s ++ [k]) acc ↔ k ∈ acc ∨ k ∈ ks
  | [], acc, k => by simp
  | j :: r, acc, k => by
    rw [List.foldl_cons, dedup_mem r]
    by_cases h : j ∈ acc
    · rw [if_pos h]
      constructor
      · rintro (q | q)
        · exact .inl q
        · exact .inr (List.mem_cons_of_mem _ q)
      · rintro (q | q)
        · exact .inl q
        · rcases List.mem_cons.mp q with rfl | q
          · exact .inl h
          · exact .inr q
    · rw [if_neg h]
      constructor
      · rintro (q | q)
        · rcases List.mem_append.mp q with q | q
          · exact .inl q
          · rw [List.mem_singleton.mp q]; exact .inr (by simp)
        · exact .inr (List.mem_cons_of_mem _ q)
      · rintro (q | q)
        · exact .inl (List.mem_append_left _ q)
        · rcases List.mem_cons.mp q with rfl | q
          · exact .inl (by simp)
          · exact .inr q
theorem mem_dedup {ks : List MKey} {k : MKey} : k ∈ dedup ks ↔ k ∈ ks := by
  unfold dedup
  rw [dedup_mem]
  simp
theorem dedup_le (ks : List MKey) : (dedup ks).length ≤ ks.length := by
  have key : ∀ (ks acc : List MKey), (ks.foldl (fun s k => if k ∈ s then s else s ++ [k]) acc).length ≤ acc.length + ks.length := by
    intro ks
    induction ks with
    | nil => intro acc; simp
    | cons j r ih =>
      intro acc
      rw [List.foldl_cons, List.length_cons]
      by_cases h : j ∈ acc
      · rw [if_pos h]; have := ih acc; omega
      · rw [if_neg h]
        have := ih (acc ++ [j])
        rw [List.length_append, List.length_singleton] at this
        omega
  have := key ks []
  simp only [List.length_nil, Nat.zero_add] at this
  exact this
/-- a list of data -/
def LD (H : Hp) (a : Addr) (ds : List PD) : Prop := ∃ vs, H a = some (.lst vs) ∧ RepL H ds vs
theorem LD.gr {S : Addr → Prop} {a : Addr} {ds : List PD} (h : LD H a ds) (g : Gr S H H') (hs : ¬ S a) : LD H' a ds :=
  let ⟨vs, h1, h2⟩ := h; ⟨vs, g.lst hs h1, h2.mono g.tp⟩
theorem LD.push {a : Addr} {ds : List PD} {vs : List V} {v : V} {d : PD} (h : H a = some (.lst vs)) (hl : RepL H ds vs) (hv : Rep H d v) : LD (upd H a (.lst (vs ++ [v]))) a (ds ++ [d]) :=
  ⟨_, upd_same, (hl.append (.cons hv .nil)).mono (Tp.setL h)⟩
def exK3 (e : Ex) : Prop := ExK e ∧ exN e ≤ 8 ∧ exD e < 4
def spMachine : Sp := fun vs H Q _ => ∃ (v : V) (e : Ex), vs = [v] ∧ Rep H (encEx e) v ∧ exK3 e ∧ ∀ (x : V) (H' : Hp), Gr S0 H H' → Rep H' (encMach (machineOf e)) x → Q x H'
theorem sc_machine : FnScope ["choice", "places", "empty", "firsts", "lasts", "keys", "number", "states", "key", "moves", "state", "_", "part", "least", "most", "cost"] ["choice"] (defScope (top 11)) := ⟨rfl, rfl, rfl, by decide +kernel, rfl, by decide +kernel, by decide +kernel⟩
theorem ok_machine (R : Raw K mg "machine" (top 11) ["choice"]) (B : Bi mg) (T : PT K mg C) (D_init : DefI P w K mg base C 9 ["self"] (spInit C)) (D_link : DefM P w K mg base C 10 "link" ["self", "lasts", "firsts"] (spLink C)) (D_walk : Def P w K mg base 10 "walk" ["places", "choice"] (spWalk C 4 fun _ => true)) : Def P w K mg base 11 "machine" ["choice"] spMachine := by
  refine R.ok sc_machine (fun vs H Q E h => ?_) (fun f cdv A outer s H vs Q E hr h => ?_)
  · obtain ⟨_, _, rfl, _⟩ := h; rfl
  obtain ⟨v, e, rfl, hv, ⟨hk, hn, hd⟩, q⟩ := h
  refine ⟨_, (pss_cons (ps_set (i := 1) sc_machine.nd rfl (.inl rfl) (pe_di D_init hr (by rfl) T.mgC))
    (pss_cons (ps_asg (pe_d D_walk hr (by rfl) (pa_cons (pv 1) (pa_cons (pv 0) pa_nil))) (pg_tup rfl (pgs_cons (pg_name (i := 2) sc_machine.nd rfl (.inl rfl)) (pgs_cons (pg_name (i := 3) sc_machine.nd rfl (.inl rfl)) (pgs_cons (pg_name (i := 4) sc_machine.nd rfl (.inl rfl)) pgs_nil)))))
    (pss_cons (ps_expr (pe_dm D_link (pv 1) T.cl hr (pa_cons (pe_lst (pa_cons pe_int pa_nil)) (pa_cons (pv 3) pa_nil))))
    (pss_cons (ps_set (i := 5) sc_machine.nd rfl (.inl rfl) (pe_lst (pa_cons (pe_tup (pa_cons (pv 2) (pa_cons (pe_callTy (ck_tup (K := K) rfl) (by rfl) B.tuple bo_tuple (pa_cons (pe_callB (cx_srt (K := K) rfl) (by rfl) B.sorted bo_sorted (pa_cons (pe_ix (ix_sq (K := K) rfl) (pe_fld (pv 1) rfl) pe_int (fun _ _ => rfl)) pa_nil)) pa_nil)) pa_nil))) pa_nil)))
    (pss_cons (ps_for PassesOwn.never rfl (pi_range2 (by rfl) B.range (pa_cons pe_int (pa_cons (pe_callB (ck_len (K := K) rfl) (by rfl) B.len bo_len (pa_cons (pe_fld (pv 1) rfl) pa_nil)) pa_nil))) (pg_name (i := 6) sc_machine.nd rfl (.inl rfl))
      (pss_one (ps_expr (pe_bm PySem.F.plainAttrs_list PySem.F.slot_list_append PySem.F.type_list_append mt_append (pv 5) (pa_cons (pe_tup (pa_cons (pe_cmpR (os_in (K := K) rfl) (pv 6) (pv 4) (by rfl)) (pa_cons (pe_callTy (ck_tup (K := K) rfl) (by rfl) B.tuple bo_tuple (pa_cons (pe_callB (cx_srt (K := K) rfl) (by rfl) B.sorted bo_sorted (pa_cons (pe_ix (ix_sq (K := K) rfl) (pe_fld (pv 1) rfl) (pv 6) (fun _ _ => rfl)) pa_nil)) pa_nil)) pa_nil))) pa_nil)))))
    (pss_cons (ps_set (i := 7) sc_machine.nd rfl (.inl rfl) (pe_lst pa_nil))
    (pss_cons (ps_for PassesOwn.never rfl (pi_list (pv 5)) (pg_name (i := 8) sc_machine.nd rfl (.inl rfl))
      (pss_one (ps_if (pt_cmpR (op_notInD (hu65 hr)) (pv 8) (pv 7) (by rfl))
        (pss_one (ps_expr (pe_bm PySem.F.plainAttrs_list PySem.F.slot_list_append PySem.F.type_list_append mt_append (pv 7) (pa_cons (pv 8) pa_nil))))
        pss_nil)))
    (pss_cons (ps_set (i := 9) sc_machine.nd rfl (.inl rfl) (pe_lst pa_nil))
    (pss_cons (ps_for PassesOwn.never rfl (pi_range1 (by rfl) B.range (pa_cons (pe_callB (ck_len (K := K) rfl) (by rfl) B.len bo_len (pa_cons (pv 7) pa_nil)) pa_nil)) (pg_name (i := 10) sc_machine.nd rfl (.inl rfl))
      (pss_one (ps_for PassesOwn.never rfl (pi_tup (pe_ix (ix_sq (K := K) rfl) (pe_ix (ix_sq (K := K) rfl) (pv 7) (pv 10) (fun _ _ => rfl)) pe_int (fun _ _ => rfl))) (pg_name (i := 6) sc_machine.nd rfl (.inl rfl))
        (pss_cons (ps_asg (pe_ix (ix_sq (K := K) rfl) (pe_fld (pv 1) rfl) (pe_op op_sub (pv 6) pe_int) (fun _ _ => rfl)) (pg_tup rfl (pgs_cons (pg_name (i := 11) sc_machine.nd rfl (.inl rfl)) (pgs_cons (pg_name (i := 12) sc_machine.nd rfl (.inl rfl)) (pgs_cons (pg_name (i := 13) sc_machine.nd rfl (.inl rfl)) (pgs_cons (pg_name (i := 14) sc_machine.nd rfl (.inl rfl)) (pgs_cons (pg_name (i := 15) sc_machine.nd rfl (.inl rfl)) pgs_nil)))))))
        (pss_one (ps_expr (pe_bm PySem.F.plainAttrs_list PySem.F.slot_list_append PySem.F.type_list_append mt_append (pv 9) (pa_cons (pe_tup (pa_cons (pv 10) (pa_cons (pe_bm PySem.F.plainAttrs_list PySem.F.slot_list_index PySem.F.type_list_index (mt_indexD (hu65 hr)) (pv 7) (pa_cons (pe_ix (ix_sq (K := K) rfl) (pv 5) (pv 6) (fun _ _ => rfl)) pa_nil)) (pa_cons (pv 12) (pa_cons (pv 13) (pa_cons (pv 14) (pa_cons (pv 15) pa_nil))))))) pa_nil))))))))
    (pss_one (ps_ret (pe_tup (pa_cons (pe_callTy (ck_tup (K := K) rfl) (by rfl) B.tuple bo_tuple (pa_cons (pe_lc (own := [("key", 8)]) (g := gName 8) rfl sc_machine.nd (pi_list (pv 7)) (blkOk_by (N := ["choice", "places", "empty", "firsts", "lasts", "keys", "number", "states", "key", "moves", "state", "_", "part", "least", "most", "cost"]) (sc := defScope (top 11)) (by decide +kernel)) (fun _ _ _ _ _ => pg_name (i := 8) sc_machine.nd rfl (.inl rfl)) (fun _ _ _ _ _ => pts_nil) (fun _ _ _ _ _ => (pe_ix (ix_sq (K := K) rfl) (pv 8) pe_int (fun _ _ => rfl)))) pa_nil)) (pa_cons (pe_callTy (ck_tup (K := K) rfl) (by rfl) B.tuple bo_tuple (pa_cons (pv 9) pa_nil)) pa_nil)))))))))))))), ?_⟩
  walk_at "go"
  intro x dx nx ndx nex
  refine ⟨x, dx, rfl, upd_same, fun lp lf H1 hlp hlf g1 pl1 => ⟨rfl, ?_⟩⟩
  have Gm : Gr S0 H (upd (upd H dx (.own x)) x (.ins C dx [])) := (Gr.new ndx).trans (Gr.new (by rw [upd_ne nex.symm]; exact nx))
  have G1 : Gr S0 H H1 := Gm.local g1 fun a z => by rw [show a = x from z]; exact nx
  have nlp := Gm.nn lp hlp
  have nlf := Gm.nn lf hlf
  have s2n : ∀ a, S2 lp lf a → H a = none := fun a z => z.elim (fun z => by rw [z]; exact nlp) fun z => by rw [z]; exact nlf
  walk_at "go"
  refine ⟨x, lp, lf, w0, v, e, rfl, pl1, w0_ok, by show 0 + exN e ≤ 100; omega, hv.mono G1.tp, hd, rfl, hk, fun t ra rb H2 g2 pl2 ht ha hb an bn => ?_⟩
  have G2 := G1.local g2 s2n
  obtain ⟨a1, a2, a3, a4⟩ := walkE_ok e w0 w0_ok
  have hpl : (walkE e w0).2.pl.length ≤ 8 := by rw [a4]; show 0 + exN e ≤ 8; omega
  have hpk := walkE_pl e w0 (fun x hx => absurd hx (by simp [w0]))
  have na := pl1.nes an
  have nb := pl1.not2 bn
  have em : machineOf e = ⟨(dedup (keysOf (walkE e w0).1 (linkL (walkE e w0).2.fo [0] (walkE e w0).1.fi))).map (·.1), (List.range (dedup (keysOf (walkE e w0).1 (linkL (walkE e w0).2.fo [0] (walkE e w0).1.fi))).length).flatMap fun o => movesAt (walkE e w0).2.pl (keysOf (walkE e w0).1 (linkL (walkE e w0).2.fo [0] (walkE e w0).1.fi)) (dedup (keysOf (walkE e w0).1 (linkL (walkE e w0).2.fo [0] (walkE e w0).1.fi))) o ((dedup (keysOf (walkE e w0).1 (linkL (walkE e w0).2.fo [0] (walkE e w0).1.fi))).getD o (false, [])).2⟩ := rfl
  rw [em] at q
  clear em
  generalize walkE e w0 = r at *
  walk_at "go"
  refine pl2.meth (by decide +kernel) (by decide +kernel) ?_
  walk_at "go"
  refine lst_new (by show 1 ≤ sizeLine; decide) fun l0 H3 l0n hl0 g3 => ?_
  have hl0' : LI H3 l0 [0] := hl0
  have pl3 := pl2.gr0 g3
  walk_at "go"
  have nl0 := pl2.nes l0n
  refine ⟨x, lp, lf, r.2, l0, ra, [0], r.1.fi, r.2.pl.length, rfl, pl3, hl0', ha.gr g3 id, ⟨nl0.1, nl0.2, na.1, na.2⟩, by omega, a1.fo, a2, fun y hy => by rw [List.mem_singleton.mp hy, a1.len]; omega, fun H4 g4 pl4 => ?_⟩
  have hfo := linkL_nu a2 [0] _ a1.fo
  have hlen : (linkL r.2.fo [0] r.1.fi).length = r.2.pl.length + 1 := by rw [linkL_len, a1.len]
  have G4 : Gr S0 H H4 := (G2.trans g3).local g4 s2n
  have hb4 : LI H4 rb r.1.la := (hb.gr g3 id).gr g4 nb
  have rbn : H rb = none := G1.nn rb bn
  generalize linkL r.2.fo [0] r.1.fi = fo at *
  have hks := keysOf_len r.1 (fo := fo) (by omega)
  have hnum := keysOf_nums (r := r.1) hfo
  obtain ⟨as, f1, f2, f3⟩ := id pl4.fos
  -- keys = [..]
  walk_at "go"
  refine pl4.fldF T ?_
  walk_at "go"
  have hx0 : (as.map V.ref)[0]? = some (.ref (as[0]'(by rw [f2]; show 0 < fo.length; omega))) := by rw [List.getElem?_map, List.getElem?_eq_getElem]; rfl
  obtain ⟨j1, j2, j3⟩ := f3 0 _ (List.getElem?_eq_getElem (by rw [f2]; show 0 < fo.length; omega))
  refine w_ixL f1 (by decide) hx0 ?_
  walk_at "go"
  refine w_srt j1 fun p5 H5 p5n hp5 g5 => ?_
  walk_at "go"
  refine w_tupOf (ds := (isort (fo.getD 0 [])).map fun n => PyData.int (n : Nat)) hp5 (rep_ni _) fun v6 H6 g6 hv6 => ?_
  walk_at "go"
  refine tup_new (ds := [.bool r.1.em, .tuple ((isort (fo.getD 0 [])).map fun n => PyData.int (n : Nat))]) (by walk_at "repl") (by simp) fun p7 H7 _ _ g7 hp7 => ?_
  walk_at "go"
  refine lst_new (by show 1 ≤ sizeLine; decide) fun kl H8 kln hkl g8 => ?_
  walk_at "go"
  have G7' : Gr S0 H4 H7 := ((g5.trans g6).trans g7)
  have G7 : Gr S0 H H7 := G4.trans G7'
  have pl7 := pl4.gr0 G7'
  have hb7 := hb4.gr G7' id
  have hk8 : LD H8 kl [encKey (r.1.em, isort (fo.getD 0 []))] := ⟨_, hkl, .cons (hp7.mono g8.tp) .nil⟩
  have pl8 := pl7.gr0 g8
  refine pl8.fldF T ?_
  walk_at "go"
  obtain ⟨as8, e8, e9, _⟩ := id pl8.fos
  refine w_lenL e8 ?_
  rw [List.length_map, e9]
  walk_at "go"
  refine rng2 (lo := 1) (hi := fo.length) rfl (by omega) (by omega) (fun i σ H' => 1 ≤ i ∧ ∃ d6, σ = [some v, some (.ref x), some (.bl r.1.em), some (.ref ra), some (.ref rb), some (.ref kl), d6, none, none, none, none, none, none, none, none, none] ∧ Gr S0 H7 H' ∧ LD H' kl (((keysOf r.1 fo).take i).map encKey))
    ⟨by omega, none, rfl, g8, hk8⟩ (fun i σ H9 hi1 hi2 hp9 => ?_) (fun σ H9 hp9 => ?_)
  · obtain ⟨_, d6, rfl, g9, ⟨kvs, hk9, hkr⟩⟩ := hp9
    have pl9 := pl7.gr0 g9
    have hb9 := hb7.gr g9 id
    have hkl9 : kvs.length ≤ 9 := by rw [← hkr.length, List.length_map, List.length_take]; omega
    walk_at "go"
    refine w_in hb9 ?_
    walk_at "go"
    refine pl9.fldF T ?_
    walk_at "go"
    obtain ⟨as9, k1, k2, k3⟩ := id pl9.fos
    have k2' : as9.length = fo.length := k2
    have hxi : (as9.map V.ref)[i]? = some (.ref (as9[i]'(by omega))) := by rw [List.getElem?_map, List.getElem?_eq_getElem (by omega)]; rfl
    obtain ⟨m1, m2, m3⟩ := k3 i _ (List.getElem?_eq_getElem (by omega))
    refine w_ixL k1 (by omega) (by rw [Int.toNat_natCast]; exact hxi) ?_
    walk_at "go"
    refine w_srt m1 fun q5 J5 q5n hq5 h5 => ?_
    walk_at "go"
    refine w_tupOf (ds := (isort (fo.getD i [])).map fun n => PyData.int (n : Nat)) hq5 (rep_ni _) fun v6 J6 h6 hv6 => ?_
    walk_at "go"
    refine tup_new (ds := [.bool (decide (i ∈ r.1.la)), .tuple ((isort (fo.getD i [])).map fun n => PyData.int (n : Nat))]) (by walk_at "repl") (by simp) fun q7 J7 _ _ h7 hq7 => ?_
    walk_at "go"
    have G97 := (h5.trans h6).trans h7
    have hk97 := G97.lst id hk9
    refine w_append hk97 (small6 (by omega)) ?_
    refine ⟨by omega, _, rfl, (g9.trans G97).setL (.inl kln) hk97, ?_⟩
    rw [keysOf_take r.1 hi1 hi2, List.map_append]
    exact LD.push hk97 (hkr.mono G97.tp) hq7
  · obtain ⟨_, d6, rfl, g9, hk9⟩ := hp9
    rw [show max 1 fo.length = fo.length by omega, ← hks, List.take_length] at hk9
    have hkm : ∀ k ∈ keysOf r.1 fo, ∀ y ∈ k.2, 1 ≤ y ∧ y ≤ r.2.pl.length := hnum
    have hkn : (keysOf r.1 fo).length = r.2.pl.length + 1 := by omega
    have hkb := keysOf_lens (r := r.1) hfo
    clear hx0 j1 j2 j3 hks hnum
    generalize keysOf r.1 fo = ks at q hk9 hkm hkn hkb ⊢
    obtain ⟨kvs, hk9, hkr⟩ := hk9
    have hkvl : kvs.length = ks.length := by rw [← hkr.length, List.length_map]
    -- states
    walk_at "go"
    refine lst_new (Nat.zero_le _) fun sl J1 sln hsl h1 => ?_
    walk_at "go"
    refine forL (SqL.of (h1.lst id hk9)) (fun i σ H' => ∃ d8, σ = [some v, some (.ref x), some (.bl r.1.em), some (.ref ra), some (.ref rb), some (.ref kl), d6, some (.ref sl), d8, none, none, none, none, none, none, none] ∧ Gr S0 H9 H' ∧ LD H' sl ((dedup (ks.take i)).map encKey)) ⟨none, rfl, h1, ⟨[], hsl, .nil⟩⟩ (fun i σ H' hp' => ?_) (fun i y σ J2 hi hp' => ?_) (fun σ J2 hp' => ?_)
    · obtain ⟨d8, _, g, _⟩ := hp'
      exact SqL.of (g.lst id hk9)
    · obtain ⟨d8, rfl, h2, ⟨svs, hs2, hsr⟩⟩ := hp'
      have hil := (List.getElem?_eq_some_iff.mp hi).1
      have hil' : i < ks.length := by omega
      have et : ks.take (i + 1) = ks.take i ++ [ks[i]] := by rw [List.take_succ, List.getElem?_eq_getElem hil']; rfl
      obtain ⟨y', hy', ry⟩ := hkr.get (n := i) (d := encKey ks[i]) (by rw [List.getElem?_map, List.getElem?_eq_getElem hil']; rfl)
      rw [hi] at hy'
      cases hy'
      have ry2 := ry.mono h2.tp
      have hsl2 : svs.length ≤ ks.length := by
        rw [← hsr.length, List.length_map]
        refine Nat.le_trans (dedup_le _) ?_
        rw [List.length_take]; omega
      walk_at "go"
      refine ⟨encKey ks[i], (dedup (ks.take i)).map encKey, ry2.dp, .lst (SqL.of hs2) hsr.dp, shaped_key _, shaped_keys _, ?_⟩
      rw [any_key]
      refine ⟨_, rfl, if_of (fun h => ?_) (fun h => ?_)⟩
      · walk_at "go"
        refine w_append hs2 (small6 (by omega)) ?_
        refine ⟨_, rfl, h2.setL (.inl sln) hs2, ?_⟩
        rw [et, dedup_snoc, if_neg (by simpa using h), List.map_append]
        exact LD.push hs2 hsr ry2
      · refine ⟨_, rfl, h2, svs, hs2, ?_⟩
        rw [et, dedup_snoc, if_pos (by simpa using h)]
        exact hsr
    · obtain ⟨d8, rfl, h2, hs2⟩ := hp'
      rw [hkvl, List.take_length] at hs2
      have hdm : ∀ k, k ∈ dedup ks ↔ k ∈ ks := fun k => mem_dedup
      have hdl := dedup_le ks
      generalize dedup ks = sts at q hs2 hdm hdl ⊢
      obtain ⟨svs, hs2, hsr⟩ := hs2
      have hsvl : svs.length = sts.length := by rw [← hsr.length, List.length_map]
      have hk2 := h2.lst id hk9
      have hkr2 := hkr.mono h2.tp
      have pl2' := (pl7.gr0 g9).gr0 h2
      walk_at "go"
      refine lst_new (Nat.zero_le _) fun ml J3 mln hml h3 => ?_
      walk_at "go"
      refine w_lenL (h3.lst id hs2) ?_
      rw [hsvl]
      refine rng1 (by omega) (fun i σ H' => ∃ d6 d10 d11 d12 d13 d14 d15, σ = [some v, some (.ref x), some (.bl r.1.em), some (.ref ra), some (.ref rb), some (.ref kl), d6, some (.ref sl), d8, some (.ref ml), d10, d11, d12, d13, d14, d15] ∧ Gr S0 J2 H' ∧ LD H' ml (((List.range i).flatMap fun o => movesAt r.2.pl ks sts o (sts.getD o (false, [])).2).map encMv) ∧ ((List.range i).flatMap fun o => movesAt r.2.pl ks sts o (sts.getD o (false, [])).2).length ≤ 100 * i) ⟨_, _, _, _, _, _, _, rfl, h3, ⟨[], hml, .nil⟩, Nat.zero_le _⟩ (fun i σ J4 hi hp4 => ?_) (fun σ J4 hp4 => ?_)
      · obtain ⟨d6, d10, d11, d12, d13, d14, d15, rfl, h4, hm4, hml4⟩ := hp4
        have eg : sts.getD i (false, []) = sts[i] := by rw [List.getD_eq_getElem?_getD, List.getElem?_eq_getElem hi]; rfl
        obtain ⟨y, hy, ry⟩ := hsr.get (n := i) (d := encKey sts[i]) (by rw [List.getElem?_map, List.getElem?_eq_getElem hi]; rfl)
        have hnm : ∀ z ∈ sts[i].2, 1 ≤ z ∧ z ≤ r.2.pl.length := hkm _ ((hdm _).mp (List.getElem_mem hi))
        have er : (List.range (i + 1)).flatMap (fun o => movesAt r.2.pl ks sts o (sts.getD o (false, [])).2) = (List.range i).flatMap (fun o => movesAt r.2.pl ks sts o (sts.getD o (false, [])).2) ++ movesAt r.2.pl ks sts i sts[i].2 := by
          rw [List.range_succ, List.flatMap_append, List.flatMap_singleton, eg]
        rw [er]
        generalize (List.range i).flatMap (fun o => movesAt r.2.pl ks sts o (sts.getD o (false, [])).2) = pre at *
        have hnl : sts[i].2.length ≤ 100 := Nat.le_trans (hkb _ ((hdm _).mp (List.getElem_mem hi))) (by omega)
        have hs4 := h4.lst id hs2
        have ry4 := ry.mono h4.tp
        change Rep J4 (.tuple [.bool sts[i].1, .tuple (sts[i].2.map fun n => PyData.int (n : Nat))]) y at ry4
        walk_at "go"
        refine w_ixL hs4 (by omega) (by rw [Int.toNat_natCast]; exact hy) ?_
        walk_at "go"
        rename_i z hz
        generalize sts[i].2 = nn at *
        refine forT hz (Tp.refl _) (fun j σ H' => ∃ d6 d11 d12 d13 d14 d15, σ = [some v, some (.ref x), some (.bl r.1.em), some (.ref ra), some (.ref rb), some (.ref kl), d6, some (.ref sl), d8, some (.ref ml), some (.int (i : Nat)), d11, d12, d13, d14, d15] ∧ Gr S0 J2 H' ∧ LD H' ml ((pre ++ movesAt r.2.pl ks sts i (nn.take j)).map encMv) ∧ Tp J4 H') ⟨_, _, _, _, _, _, rfl, h4, by rw [show movesAt r.2.pl ks sts i (nn.take 0) = [] from rfl, List.append_nil]; exact hm4, Tp.refl _⟩ (fun j σ H' hp' => by obtain ⟨_, _, _, _, _, _, _, _, _, tp⟩ := hp'; exact tp) (fun j dd u σ J5 hj hu hp5 => ?_) (fun σ J5 hp5 => ?_)
        · obtain ⟨d6, d11, d12, d13, d14, d15, rfl, h5, ⟨mvs, hm5, hmr⟩, tp5⟩ := hp5
          have hjl : j < nn.length := by
            have := (List.getElem?_eq_some_iff.mp hj).1
            rwa [List.length_map] at this
          have ed : dd = .int (nn[j] : Nat) := by
            rw [List.getElem?_map, List.getElem?_eq_getElem hjl] at hj
            cases hj; rfl
          subst ed
          have eu := Rep.intI hu
          subst eu
          obtain ⟨b1, b2⟩ := hnm nn[j] (List.getElem_mem hjl)
          have et : nn.take (j + 1) = nn.take j ++ [nn[j]] := by rw [List.take_succ, List.getElem?_eq_getElem hjl]; rfl
          have hs5 := h5.lst id hs2
          have hk5 := h5.lst id hk2
          have pl5 := pl2'.gr0 h5
          obtain ⟨pvs, hp5a, hp5b⟩ := id pl5.pls
          obtain ⟨kc, hkc, rkc⟩ := hkr2.get (n := nn[j]) (d := encKey (ks[nn[j]]'(by omega))) (by rw [List.getElem?_map, List.getElem?_eq_getElem (by omega)]; rfl)
          have hkin : ks[nn[j]]'(by omega) ∈ sts := (hdm _).mpr (List.getElem_mem _)
          have hpi : r.2.pl[nn[j] - 1]'(by omega) ∈ r.2.pl := List.getElem_mem _
          obtain ⟨pc, hpc, rpc⟩ := hp5b.get (n := nn[j] - 1) (d := encEx (r.2.pl[nn[j] - 1]'(by omega))) (by rw [List.getElem?_map, List.getElem?_eq_getElem (show nn[j] - 1 < r.2.pl.length by omega)]; rfl)
          have epl : r.2.pl.getD (nn[j] - 1) (.place 0 0 0 0) = r.2.pl[nn[j] - 1]'(by omega) := by rw [List.getD_eq_getElem?_getD, List.getElem?_eq_getElem (by omega)]; rfl
          have eks : ks.getD nn[j] (false, []) = ks[nn[j]]'(by omega) := by rw [List.getD_eq_getElem?_getD, List.getElem?_eq_getElem (by omega)]; rfl
          have emv : movesAt r.2.pl ks sts i (nn.take (j + 1)) = movesAt r.2.pl ks sts i (nn.take j) ++ [plM i (sts.idxOf (ks[nn[j]]'(by omega))) (r.2.pl[nn[j] - 1]'(by omega))] := by
            unfold movesAt
            rw [et, List.map_append, List.map_singleton, epl, eks]
          rw [emv]
          have hml5 : mvs.length ≤ 1000 := by
            rw [← hmr.length, List.length_map, List.length_append]
            unfold movesAt
            rw [List.length_map, List.length_take]
            omega
          have hisp := hpk _ hpi
          generalize r.2.pl[nn[j] - 1]'(by omega) = ep at *
          generalize ks[nn[j]]'(by omega) = kk at *
          cases ep with
          | two => cases hisp
          | rep => cases hisp
          | place ppl pl0 pm pc0 =>
          walk_at "go"
          refine pl5.fldP T ?_
          walk_at "go"
          have e1 : ((nn[j] : Nat) : Int) - 1 = ((nn[j] - 1 : Nat) : Int) := by omega
          rw [e1]
          refine w_ixL hp5a (by omega) (by rw [Int.toNat_natCast]; exact hpc) ?_
          walk_at "go"
          refine w_gtupD (ds := [.str "place", .int ppl, .int pl0, .int pm, .int pc0]) rpc (Tp.refl _) rfl (fun us hus => ?_)
          cases hus with
          | cons q0 hus => cases hus with
          | cons q1 hus => cases hus with
          | cons q2 hus => cases hus with
          | cons q3 hus => cases hus with
          | cons q4 hus => cases hus with
          | nil =>
          have := Rep.strI q0; subst this
          have := Rep.intI q1; subst this
          have := Rep.intI q2; subst this
          have := Rep.intI q3; subst this
          have := Rep.intI q4; subst this
          walk_at "go"
          refine w_ixL hk5 (by omega) (by rw [Int.toNat_natCast]; exact hkc) ?_
          walk_at "go"
          have ix := List.idxOf_lt_length_of_mem hkin
          refine ⟨sl, kc, encKey kk, sts.map encKey, sts.idxOf kk, encKey kk, rfl, rfl, .lst (SqL.of hs5) (hsr.mono h5.tp).dp, (rkc.mono h5.tp).dp, shaped_keys _, shaped_key _, by rw [List.getElem?_map, List.getElem?_eq_getElem ix, List.getElem_idxOf]; rfl, by rw [eqv_key]; simp, fun m z' hm hz' => ?_, ?_⟩
          · rw [List.getElem?_map] at hz'
            have hml : m < sts.length := by omega
            rw [List.getElem?_eq_getElem hml] at hz'
            cases hz'
            rw [eqv_key]
            refine decide_eq_false fun he => ?_
            have := List.not_of_lt_findIdx (p := (· == kk)) hm
            simp [he] at this
          · walk_at "go"
            refine tup_new (by walk_at "repl") (by simp) fun p' J6 _ _ g6' hp6 => ?_
            walk_at "go"
            have hm6 := g6'.lst id hm5
            refine w_append hm6 (small6 (by omega)) ?_
            refine ⟨_, _, _, _, _, _, rfl, (h5.trans g6').setL (.inl mln) hm6, ?_, (tp5.trans g6'.tp).trans (Tp.setL hm6)⟩
            rw [← List.append_assoc, List.map_append]
            exact LD.push hm6 (hmr.mono g6'.tp) hp6
        · obtain ⟨d6, d11, d12, d13, d14, d15, rfl, h5, hm5, tp5⟩ := hp5
          rw [List.length_map, List.take_length] at hm5
          refine ⟨_, _, _, _, _, _, _, rfl, h5, hm5, ?_⟩
          rw [List.length_append]
          unfold movesAt
          rw [List.length_map]
          omega
      · obtain ⟨d6, d10, d11, d12, d13, d14, d15, rfl, h4, ⟨mvs, hm4, hmr⟩, hml4⟩ := hp4
        have hs4 := h4.lst id hs2
        walk_at "go"
        refine lcRL rfl (SqL.of hs4) (fun D i H' => Gr S0 J4 H' ∧ LD H' D (((sts.take i).map (·.1)).map PyData.bool)) (fun D hD => ⟨Gr.new hD, [], upd_same, .nil⟩) (fun D i H' hD hp => SqL.of (hp.1.lst id hs4)) (fun D i y H' hD hi hp => ?_) (fun D H' hD hp => ?_)
        · obtain ⟨g, vs, hl, hlr⟩ := hp
          have hil := (List.getElem?_eq_some_iff.mp hi).1
          have hil' : i < sts.length := by omega
          have et : sts.take (i + 1) = sts.take i ++ [sts[i]] := by rw [List.take_succ, List.getElem?_eq_getElem hil']; rfl
          obtain ⟨y', hy', ry⟩ := hsr.get (n := i) (d := encKey sts[i]) (by rw [List.getElem?_map, List.getElem?_eq_getElem hil']; rfl)
          rw [hi] at hy'
          cases hy'
          have ry2 := ry.mono (h4.tp.trans g.tp)
          walk_at "go"
          refine if_of (fun _ => ?_) (fun h => absurd h (by decide))
          walk_at "go"
          refine w_put hl (small6 (by rw [← hlr.length, List.length_map, List.length_map, List.length_take]; omega)) ⟨g.setL (.inl hD) hl, ?_⟩
          rw [et, List.map_append, List.map_append]
          exact LD.push hl hlr (.bl _)
        · obtain ⟨g, vs, hl, hlr⟩ := hp
          rw [hsvl, List.take_length] at hlr
          walk_at "go"
          refine w_tupOf hl hlr fun v5 H5' g5' hv5 => ?_
          walk_at "go"
          refine w_tupOf (g5'.lst id (g.lst id hm4)) (hmr.mono (g.tp.trans g5'.tp)) fun v6 H6' g6' hv6' => ?_
          walk_at "go"
          refine tup_new (by walk_at "repl") (by simp) fun p' H' _ _ g' hp' => ?_
          exact q _ H' (G7.trans (g9.trans (h2.trans (h4.trans (g.trans (g5'.trans (g6'.trans g'))))))) hp'
/-! ### all machines -/
theorem exOk_k {np : Nat} : ∀ {d : Nat} {e : Ex}, ExOk np d e → ExK e ∧ exN e ≤ 2 ^ d ∧ exD e ≤ d
  | d, .place _ _ _ _, _ => ⟨trivial, Nat.one_le_two_pow, Nat.zero_le _⟩
  | d + 1, .two _ a b, h => by
    obtain ⟨a1, a2, a3⟩ := exOk_k h.1
    obtain ⟨b1, b2, b3⟩ := exOk_k h.2
    refine ⟨⟨a1, b1⟩, ?_, ?_⟩
    · show exN a + exN b ≤ 2 ^ (d + 1)
      rw [Nat.pow_succ]; omega
    · show max (exD a) (exD b) + 1 ≤ d + 1
      omega
  | d + 1, .rep k a, h => by
    obtain ⟨a1, a2, a3⟩ := exOk_k h.2
    refine ⟨⟨h.1, a1⟩, ?_, ?_⟩
    · show exN a ≤ 2 ^ (d + 1)
      rw [Nat.pow_succ]; omega
    · show exD a + 1 ≤ d + 1
      omega
theorem topOk_k {np : Nat} {e : Ex} (h : TopOk np e) : exK3 e := by
  rcases h with h | ⟨k, a, rfl, hk, h⟩
  · obtain ⟨a1, a2, a3⟩ := exOk_k h
    exact ⟨a1, by omega, by omega⟩
  · obtain ⟨a1, a2, a3⟩ := exOk_k h
    exact ⟨⟨hk, a1⟩, by show exN a ≤ 8; omega, by show exD a + 1 < 4; omega⟩
def StK (ps : List Part) : Prop := ∀ p ∈ ps, match p with | .strip _ _ _ e => exK3 e | _ => True
def spMachines : Sp := fun vs H Q _ => ∃ (v : V) (ps : List Part), vs = [v] ∧ Rep H (partsD ps) v ∧ ps.length ≤ 100 ∧ StK ps ∧ ∀ (x : V) (H' : Hp), Gr S0 H H' → Rep H' (waysD ps) x → Q x H'
theorem sc_machines : FnScope ["parts", "part"] ["parts"] (defScope (top 12)) := ⟨rfl, rfl, rfl, by decide +kernel, rfl, by decide +kernel, by decide +kernel⟩
theorem ok_machines (R : Raw K mg "machines" (top 12) ["parts"]) (B : Bi mg) (D_is_strip : Def P w K mg base 11 "is_strip" ["part"] spIsStrip) (D_machine : Def P w K mg base 11 "machine" ["choice"] spMachine) : Def P w K mg base 12 "machines" ["parts"] spMachines := by
  refine R.ok sc_machines (fun vs H Q E h => ?_) (fun f cdv A outer s H vs Q E hr h => ?_)
  · obtain ⟨_, _, rfl, _⟩ := h; rfl
  obtain ⟨v, ps, rfl, hv, hn, hk, q⟩ := h
  refine ⟨_, (pss_one (ps_ret (pe_callTy (ck_tup (K := K) rfl) (by rfl) B.tuple bo_tuple (pa_cons (pe_lc (own := [("part", 1)]) (g := gName 1) rfl sc_machines.nd (pi_tup (pv 0)) (blkOk_by (N := ["parts", "part"]) (sc := defScope (top 12)) (by decide +kernel)) (fun _ _ _ _ _ => pg_name (i := 1) sc_machines.nd rfl (.inl rfl)) (fun _ _ _ _ _ => pts_nil) (fun _ _ _ _ _ => (pe_ifExp (pt_val (pe_d D_is_strip hr (by rfl) (pa_cons (pv 1) pa_nil))) (pe_d D_machine hr (by rfl) (pa_cons (pe_ix (ix_sq (K := K) rfl) (pv 1) pe_int (fun _ _ => rfl)) pa_nil)) (pe_tup pa_nil)))) pa_nil)))), ?_⟩
  walk_at "go"
  have hv' : Rep H (.tuple (ps.map encPart)) v := hv
  refine lcRT rfl hv' (Tp.refl _) (fun D i H' => Gr S0 H H' ∧ LD H' D ((ps.take i).map encWay)) (fun D hD => ⟨Gr.new hD, [], upd_same, .nil⟩) (fun D i H' hD hp => hp.1.tp) (fun D i dd x H' hD hi hx hp => ?_) (fun D H' hD hp => ?_)
  · obtain ⟨g, vs, hl, hlr⟩ := hp
    have hil : i < ps.length := by
      have := (List.getElem?_eq_some_iff.mp hi).1
      rwa [List.length_map] at this
    have ed : dd = encPart ps[i] := by
      rw [List.getElem?_map, List.getElem?_eq_getElem hil] at hi
      cases hi; rfl
    subst ed
    have et : ps.take (i + 1) = ps.take i ++ [ps[i]] := by rw [List.take_succ, List.getElem?_eq_getElem hil]; rfl
    have hkp := hk ps[i] (List.getElem_mem hil)
    have hx' := hx.mono g.tp
    have fin : ∀ {y : V} {H2 : Hp}, Gr S0 H' H2 → Rep H2 (encWay ps[i]) y → Put D (fun H' => Gr S0 H H' ∧ LD H' D ((ps.take (i + 1)).map encWay)) y H2 := fun {y H2} g2 hy => by
      refine w_put (g2.lst id hl) (small6 (by rw [← hlr.length, List.length_map, List.length_take]; omega)) ⟨(g.trans g2).setL (.inl hD) (g2.lst id hl), ?_⟩
      rw [et, List.map_append]
      exact LD.push (g2.lst id hl) (hlr.mono g2.tp) hy
    walk_at "go"
    refine if_of (fun _ => ?_) (fun h => absurd h (by decide))
    walk_at "go"
    refine ⟨x, ps[i], rfl, hx', fun H2 g2 => ?_⟩
    generalize ps[i] = pp at *
    cases pp with
    | plain nm lb c b =>
      refine ⟨_, rfl, if_of (fun h => by cases h) (fun _ => ?_)⟩
      walk_at "go"
      exact ⟨Nat.zero_le _, fun p pn => fin (g2.trans (Gr.new pn)) (.tup upd_same .nil)⟩
    | shape nm lb c rows =>
      refine ⟨_, rfl, if_of (fun h => by cases h) (fun _ => ?_)⟩
      walk_at "go"
      exact ⟨Nat.zero_le _, fun p pn => fin (g2.trans (Gr.new pn)) (.tup upd_same .nil)⟩
    | strip ac nm jt e =>
      refine ⟨_, rfl, if_of (fun _ => ?_) (fun h => by cases h)⟩
      have hx2 := hx'.mono g2.tp
      walk_at "go"
      refine ⟨_, e, rfl, by assumption, hkp, fun y H3 g3 hy => fin (g2.trans g3) hy⟩
  · obtain ⟨g, vs, hl, hlr⟩ := hp
    rw [List.length_map, List.take_length] at hlr
    walk_at "go"
    refine w_tupOf hl hlr fun v5 H5 g5 hv5 => ?_
    exact q v5 H5 (g.trans g5) hv5
end
end Sr
/-! SrE: enumerate over a tuple. -/
namespace Sr
open PySem PySem.Spec PyProof.Rows L2
set_option maxHeartbeats 1000000 in
theorem meets_enumT {v : Value} {o : Obj} {H : Heap → Prop} (B : Begins v o H) :
    Meets (Builtin.«enumerate.__new__» ⟨[.type "enumerate", v], []⟩) (fun _ R s => H s.heap ∧
      R (.ok (.ret (.ref (s.heap.push o).objs.size))) { s with heap := (s.heap.push o).push { cls := .type "enumerate", data := .fields #[.none, .bool false, .ref s.heap.objs.size, rawInt 0, .none, .none] } }) :=
  .of_wp fun prog w A R s h => by
    obtain ⟨hp, g, d, tk, os⟩ := s; obtain ⟨h1, h⟩ := h
    have hsub := sub_enumerate
    have q1 : ∀ {A' : Around} {E : Value → Shared → Prop} {Q : Value → Shared → Prop}, Q (.ref hp.objs.size) ⟨hp.push o, g, d, tk, os⟩ → wpAny (model prog w) A' (pyIter v) Q E ⟨hp, g, d, tk, os⟩ :=
      fun q => B.iter prog w _ _ ⟨hp, g, d, tk, os⟩ _ h1 q
    wp_walk using q1
    refine wpAny_stack_any fun st => wpAny_pure ?_
    split
    · rename_i c _ _ _ _ _
      cases (c == Value.type "enumerate")
      · wp_walk using q1
        exact ⟨_, rfl, h⟩
      · wp_walk using q1
        exact ⟨_, rfl, h⟩
    · wp_walk using q1
      exact ⟨_, rfl, h⟩
section
variable {prog : Program} {w : World} {A : Around} {E : Value → Shared → Prop} {s : Shared}
theorem enum_begins1 {v : Value} {o : Obj} {H : Heap → Prop} {Q : Value → Shared → Prop} (B : Begins v o H) (h1 : H s.heap)
    (h : ∀ h', IsEnum h' (s.heap.objs.size + 1) s.heap.objs.size 0 .none → h'.get? s.heap.objs.size = some o → h'.objs.size = s.heap.objs.size + 2 →
      (∀ b o, s.heap.get? b = some o → h'.get? b = some o) → Q (.ref (s.heap.objs.size + 1)) { s with heap := h' }) :
    wpAny (model prog w) A (call (.type "enumerate") [v]) Q E s := by
  refine callType_new F.called_enumerate (by decide) (F.typeCall_enumerate_1 _) (F.newCall_enumerate_1 _) (fun obj => F.args_object_init_2 obj _) F.entry_enumerate_new
    (meets_enumT B) ⟨h1, ?_⟩
  have hz : (s.heap.push o).objs.size = s.heap.objs.size + 1 := Heap.size_push ..
  show _ ∧ _
  rw [hz]
  have he : IsEnum ((s.heap.push o).push { cls := .type "enumerate", data := .fields #[.none, .bool false, .ref s.heap.objs.size, rawInt 0, .none, .none] }) (s.heap.objs.size + 1) s.heap.objs.size 0 .none := by
    have := Heap.get?_push_size (s.heap.push o) (o := { cls := .type "enumerate", data := .fields #[.none, .bool false, .ref s.heap.objs.size, rawInt 0, .none, .none] }) rfl
    rw [hz] at this; exact this
  refine ⟨⟨_, he, rfl⟩, h _ he (Heap.get?_push_of_some _ (Heap.get?_push_size _ B.free)) (by rw [Heap.size_push, hz]) fun b o x => Heap.get?_push_of_some _ (Heap.get?_push_of_some _ x)⟩
end
/-- the tuple at a, each item in a new pair with its number -/
def IteT (K : PySem.W.Frag) (a : Addr) : It :=
  ⟨fun i H => ∃ (xs : List V) (x : V), SqT K H a xs ∧ xs[i]? = some x, fun i H v H' => ∃ T x, v = .ref T ∧ H T = none ∧ H' = upd H T (.tup [.int (i : Nat), x]) ∧ ∀ xs, SqT K H a xs → xs[i]? = some x, fun i H => ∃ xs : List V, SqT K H a xs ∧ xs.length ≤ i⟩
theorem turn_enumT {P : Program} {w : World} {K : PySem.W.Frag} {elts : List Expr} {kk : Nat} {tpos : Pos} (a e it : Addr) (hai : a ≠ it) :
    Turn P w K (.Tuple elts kk tpos) (IteT K a) [e, it] e (fun i h => (∃ old, IsEnum h e it ((i : Nat) : Int) old) ∧ h.IsTupleIter it a i ∧ e ≠ it ∧ e ≠ a ∧ a ≠ it) where
  mem := by simp
  obj := fun i h st b hb => by
    obtain ⟨⟨old, he⟩, ⟨o, ho, hc, hd⟩, _⟩ := st
    have e' : b = e ∨ b = it := by simpa using hb
    rcases e' with z | z
    · rw [z]; exact ⟨_, he, fun v q => nomatch q⟩
    · rw [z]; exact ⟨o, ho, fun v q => by rw [hd] at q; cases q⟩
  keep := fun i h h' st k => let ⟨⟨old, he⟩, hi, hne⟩ := st; ⟨⟨old, k e (by simp) _ he⟩, hi.at fun o q => k it (by simp) o q, hne⟩
  item := by
    intro X hP hw hK hc i pins s σ H E I hf st hg
    subst hP hw hK
    obtain ⟨⟨old, he⟩, hit, hne, hea, hai⟩ := st
    obtain ⟨xs, x, hq, hx⟩ := hg
    obtain ⟨its, rv, p, hz⟩ := I.tuple hq
    obtain ⟨u, hu, ru⟩ := rv.get hx
    have hel : e < s.heap.objs.size := Heap.lt_size he
    have hil : it < s.heap.objs.size := by obtain ⟨_, q, _⟩ := hit; exact Heap.lt_size q
    have hT0 : s.heap.IsTuple a its.toArray := p
    have hilt : i < its.length := (List.getElem?_eq_some_iff.mp hu).1
    refine wpAny_pyNext_enum_itemD (Draws.tuple (A := X.A.in1) (show X.A.in1.handled = none from I.ok.hd hc) it a hai its.toArray) he ⟨hit, hT0⟩ (by simpa using hilt) hne (by simp [hne, hea]) fun v h' tk hP' ho hit' hT hsz hk => ?_
    obtain rfl : v = u := by
      have : its[i]? = some v := by simpa using hP'
      rw [hu] at this
      exact (Option.some.inj this).symm
    refine ⟨_, rfl, wpAny_letOwnedTupleGo_enum (s := { s with heap := h', toks := tk + 1 }) ho fun h'' he' sb => ?_⟩
    have hT2 : h''.get? s.heap.objs.size = some { cls := .type "tuple", data := .seq #[.int i tk, v] } := (sb.2 _ (Nat.ne_of_gt hel)).trans hT
    have new : ObjOk X.prog X.w (upd H s.heap.objs.size (.tup [.int (i : Nat), x])) h'' s.heap.objs.size (.tup [.int (i : Nat), x]) :=
      ⟨by show 2 ≤ sizeLine; decide, [.int i tk, v], .cons ⟨_, rfl⟩ (.cons ru .nil), ⟨_, hT2, rfl, _, rfl⟩⟩
    have I1 : Inv X pins σ (upd H s.heap.objs.size (.tup [.int (i : Nat), x])) { s with heap := h'', toks := tk + 1 } :=
      I.turnedNew (ch := [e, it]) (fun b ob hb q => (sb.2 b (fun z => hb (by simp [z]))).trans (hk b ob (fun z => hb (by simp [z])) (fun z => hb (by simp [z])) q)) hf (Nat.le_refl _) new
    refine ⟨.ref s.heap.objs.size, _, I1, rfl, ⟨_, x, rfl, I.hok.fresh (Nat.le_refl _), rfl, fun ys hy => by rw [I.tuple_inj hy hq]; exact hx⟩, ⟨⟨v, ?_⟩, hit'.1.at fun o q => (sb.2 it (Ne.symm hne)).trans q, hne, hea, hai⟩, fun b hb => ?_⟩
    · have e1 : ((i + 1 : Nat) : Int) = (i : Int) + 1 := by omega
      rw [e1]; exact he'
    · have hb' : b < s.heap.objs.size := by
        have e' : b = e ∨ b = it := by simpa using hb
        rcases e' with z | z
        · rw [z]; exact hel
        · rw [z]; exact hil
      rw [upd_ne (Nat.ne_of_lt hb')]
      exact (hf b hb).1
  done := by
    intro X hP hw hK hc i pins s σ H E I hf st hg
    subst hP hw hK
    obtain ⟨⟨old, he⟩, hit, hne, hea, hai⟩ := st
    obtain ⟨xs, hq, hx⟩ := hg
    obtain ⟨its, rv, p, hz⟩ := I.tuple hq
    obtain ⟨f0, f1, f2, f3, f4, f5⟩ := hf it (by simp)
    have hl := rv.length
    have hT0 : s.heap.IsTuple a (its.take i).toArray ∨ s.heap.IsTuple a its.toArray := .inr p
    by_cases hi : i = its.length
    · subst hi
      have hsz : its.toArray.size = its.length := by simp
      refine wpAny_pyNext_enum_endD (Draws.tuple (A := X.A.in1) (show X.A.in1.handled = none from I.ok.hd hc) it a hai its.toArray) he ⟨by rw [hsz]; exact hit, p⟩ fun h' eb => ⟨rfl, I.turned (t' := s.toks) (fun b o hb q => eb b o hb q) f0 f1 f3 f4 f5⟩
    · -- behind the end: the same answer
      have hD : Draws X.prog X.w X.A.in1 it [it, a] i (fun _ _ => True) (fun j h => j = i ∧ h.IsTupleIter it a i ∧ h.IsTuple a its.toArray) := {
        live := fun _ _ st => let ⟨o, ho, _⟩ := st.2.1; ⟨o, ho⟩
        frame := fun _ _ _ st hk => ⟨st.1, st.2.1.at fun o e => hk it (by simp) o e, st.2.2.at fun o e => hk a (by simp) o e⟩
        item := fun j s Q E hj st hQ => absurd st.1 (Nat.ne_of_lt hj)
        done := fun s Q E st hE => wpAny_nextOf_tuple_end (A := X.A.in1) (show X.A.in1.handled = none from I.ok.hd hc) st.2.1 st.2.2 (by simp; omega) hE }
      exact wpAny_pyNext_enum_endD hD he ⟨rfl, hit, p⟩ fun h' eb => ⟨rfl, I.turned (t' := s.toks) (fun b o hb q => eb b o hb q) f0 f1 f3 f4 f5⟩
  self := fun A i s Q E st h => let ⟨⟨_, he⟩, _⟩ := st; wpAny_pyIter_enum he h
def iEnumT (K : PySem.W.Frag) (ta : TA) : TI := fun σ H R => ta σ H fun vs H1 => ∃ a xs, vs = [.ref a] ∧ SqT K H1 a xs ∧ R (IteT K a) H1
theorem pi_enumT {X : Cx} {e : Expr} {ta : TA} {p pos tpos : Pos} {elts : List Expr} {kk : Nat} (hg : Gl X "enumerate") (hm : X.mg "enumerate" = none) (ha : PA X [e] ta) (hs : starEach [e] X.env = [(false, eval e X.env)] := by rfl) :
    PI X (.Tuple elts kk tpos) (.Call (.Name "enumerate" p) [e] [] pos) (iEnumT X.K ta) := by
  refine ⟨fun pins s σ H R I h => ?_⟩
  refine Call_ (ld_blt I hg hm boot_enumerate (PyProof.Rows.callWith_type1 (thn (ha.run pos pins s σ H _ I h) fun us s1 ⟨vs, H1, I1, r1, q1⟩ => ?_) hs rfl))
  obtain ⟨a, xs, ex, hq, q⟩ := q1
  subst ex
  cases r1 with
  | cons r rr =>
    cases rr
    cases r
    obtain ⟨its, rv, p', hz⟩ := I1.tuple hq
    have hT0 : s1.heap.IsTuple a its.toArray := p'
    have hal : a < s1.heap.objs.size := by obtain ⟨_, q, _⟩ := hT0; exact Heap.lt_size q
    refine enum_begins1 (begins_tuple a its.toArray) hT0 fun h' he hit hsz hk => wpAny_pyIter_enum he ?_
    have I2 : Inv X pins σ H1 { s1 with heap := h' } := I1.kept (t' := s1.toks) hk
    refine ⟨s1.heap.objs.size + 1, [s1.heap.objs.size + 1, s1.heap.objs.size], _, _, H1, rfl, I2, turn_enumT a (s1.heap.objs.size + 1) s1.heap.objs.size (Nat.ne_of_lt hal), ⟨⟨.none, he⟩, ⟨_, hit, rfl, rfl⟩, Nat.succ_ne_self _, Nat.ne_of_gt (Nat.lt_succ_of_lt hal), Nat.ne_of_lt hal⟩, fun b hb => ?_, q⟩
    have e' : b = s1.heap.objs.size + 1 ∨ b = s1.heap.objs.size := by simpa using hb
    have hle : s1.heap.objs.size ≤ b := by
      rcases e' with z | z
      · rw [z]; exact Nat.le_add_right _ _
      · rw [z]; exact Nat.le_refl _
    exact I1.fpOk hle (I1.hok.fresh hle)
section
variable {K : PySem.W.Frag} {σ : L2.St} {H H0 : Hp} {v : V} {ds : List PD}
theorem w_forE {ta : TA} {g : TG} {tb : TS} {D : Ends} (q : ta σ H fun vs H1 => ∃ a xs, vs = [.ref a] ∧ SqT K H1 a xs ∧ ∃ W : Nat → Nat → L2.St → Hp → Prop, (∃ m, W 0 m σ H1) ∧ ∀ i m σ H, W i m σ H →
      ((IteT K a).stop i H ∧ D.nx σ H) ∨ ((IteT K a).go i H ∧ ∃ N : L2.St → Hp → Prop, (∀ σ' H', N σ' H' → ∃ m', m' < m ∧ W (i + 1) m' σ' H') ∧ ∀ x H', (IteT K a).yld i H x H' → g x σ H' fun σ2 H2 => tb { D with nx := N, ct := N, bk := D.nx } σ2 H2)) : tFor (iEnumT K ta) g tb D σ H := q
theorem forE {g : TG} {tb : TS} {D : Ends} (hv : Rep H0 (.tuple ds) v) (g0 : Tp H0 H) (Pv : Nat → L2.St → Hp → Prop) (h0 : Pv 0 σ H) (hl : ∀ i σ H, Pv i σ H → Tp H0 H)
    (hs : ∀ i d x T σ H H', ds[i]? = some d → Rep H0 d x → Pv i σ H → H T = none → H' T = some (.tup [.int (i : Nat), x]) → Gr S0 H H' → g (.ref T) σ H' fun σ2 H2 => tb { D with nx := Pv (i + 1), ct := Pv (i + 1), bk := D.nx } σ2 H2) (hd : ∀ σ H, Pv ds.length σ H → D.nx σ H) :
    ∃ a xs, [v] = [V.ref a] ∧ SqT K H a xs ∧ ∃ W : Nat → Nat → L2.St → Hp → Prop, (∃ m, W 0 m σ H) ∧ ∀ i m σ H, W i m σ H →
      ((IteT K a).stop i H ∧ D.nx σ H) ∨ ((IteT K a).go i H ∧ ∃ N : L2.St → Hp → Prop, (∀ σ' H', N σ' H' → ∃ m', m' < m ∧ W (i + 1) m' σ' H') ∧ ∀ x H', (IteT K a).yld i H x H' → g x σ H' fun σ2 H2 => tb { D with nx := N, ct := N, bk := D.nx } σ2 H2) := by
  obtain ⟨a, vs, rfl, ha, l⟩ := hv.tupI
  refine ⟨a, vs, rfl, SqT.of (g0 _ _ ha), fun i m σ H => m = vs.length - i ∧ i ≤ vs.length ∧ Pv i σ H, ⟨vs.length, by simp, Nat.zero_le _, h0⟩, ?_⟩
  rintro i m σ H ⟨rfl, hi, p⟩
  have q := SqT.of (K := K) (hl i σ H p _ _ ha)
  by_cases hlt : i < vs.length
  · refine .inr ⟨⟨vs, vs[i], q, List.getElem?_eq_getElem hlt⟩, Pv (i + 1), fun σ' H' p' => ⟨vs.length - (i + 1), by omega, rfl, hlt, p'⟩, fun x H' y => ?_⟩
    obtain ⟨T, x, rfl, hT, rfl, hx⟩ := y
    have hx := hx vs q
    have hdl : i < ds.length := by rw [l.length]; exact hlt
    obtain ⟨x', h1, h2⟩ := l.get (List.getElem?_eq_getElem hdl)
    rw [hx] at h1
    cases h1
    exact hs i _ x T σ H _ (List.getElem?_eq_getElem hdl) h2 p hT upd_same (Gr.new hT)
  · have e : i = vs.length := by omega
    subst e
    exact .inl ⟨⟨vs, q, Nat.le_refl _⟩, hd σ H (by rw [l.length]; exact p)⟩
end
end Sr
/-! SrQ: spots reached, looks. -/
namespace Sr
open PySem PySem.Spec PyProof.Rows L2
local macro_rules | `(tactic| walk_at "tp") => `(tactic| first
  | exact Tp.refl _
  | assumption
  | exact Gr.tp (by assumption)
  | (refine Tp.trans ?_ (by first | assumption | exact Gr.tp (by assumption)); walk_at "tp"))
local macro_rules | `(tactic| walk_at "gr") => `(tactic| first
  | exact Gr.refl _ _
  | assumption
  | exact Gr.any (by assumption)
  | (refine Gr.trans ?_ (by first | assumption | exact Gr.any (by assumption)); walk_at "gr"))
local macro_rules | `(tactic| walk_at "rep") => `(tactic| first
  | exact Rep.int _ | exact Rep.str _ | exact Rep.bl _ | exact Rep.non
  | assumption
  | (refine Rep.mono ?_ (by assumption); walk_at "tp"))
local macro_rules | `(tactic| walk_at "repl") => `(tactic| repeat first
  | exact RepL.nil
  | (apply RepL.cons; (· walk_at "rep")))
local macro_rules | `(tactic| walk_at "step") => `(tactic| first
  | ((with_reducible apply w_var); rfl)
  | (with_reducible apply w_c)
  | (with_reducible apply w_op)
  | (with_reducible apply w_I0)
  | ((with_reducible apply w_ix); (· assumption); (· walk_at "tp"); (· decide); (· rfl); (intro x hx; first | (have e := Rep.intI hx; subst e; clear hx) | (have e := Rep.strI hx; subst e; clear hx) | (have e := Rep.blI hx; subst e; clear hx) | skip))
  | ((with_reducible apply w_ixU); (· assumption); (· walk_at "tp"); (· decide); (· rfl))
  | (with_reducible apply w_eqS)
  | (with_reducible apply w_eqI)
  | (with_reducible apply w_eqB)
  | (with_reducible apply w_neB)
  | (with_reducible apply w_test)
  | (with_reducible apply w_tB)
  | (with_reducible apply w_and)
  | (with_reducible apply w_or)
  | (with_reducible apply w_not)
  | (with_reducible apply w_nil)
  | (with_reducible apply w_cons)
  | (with_reducible apply w_CB)
  | (with_reducible apply w_call)
  | (with_reducible apply w_seq)
  | (with_reducible apply w_asg)
  | (with_reducible apply w_gname)
  | (with_reducible apply w_drop)
  | (with_reducible apply w_ret)
  | (with_reducible apply w_ifS)
  | (with_reducible apply w_next)
  | (with_reducible apply w_ifE)
  | (with_reducible apply w_andV)
  | (with_reducible apply w_orV)
  | (with_reducible apply w_notV)
  | (with_reducible apply w_tupE)
  | (with_reducible apply w_lstE)
  | (with_reducible apply w_bl)
  | ((with_reducible apply w_aug); rfl)
  | (with_reducible apply w_ip)
  | (with_reducible apply w_for1)
  | (with_reducible apply w_for2)
  | (with_reducible apply w_forT)
  | (with_reducible apply w_forL)
  | ((with_reducible apply w_lenD); (· assumption); (· walk_at "tp"))
  | (with_reducible apply w_min)
  | (with_reducible apply w_intI)
  | (with_reducible apply w_intB)
  | ((with_reducible apply w_I); (· first | decide | exact (by decide : (1000 : Int) ≠ 0) | exact ⟨by decide, by decide⟩ | exact ⟨by decide, by decide, by decide⟩ | exact .inr ⟨by decide, by decide⟩ | exact .inl ⟨by decide, by decide⟩))
  | (with_reducible apply w_bm)
  | (with_reducible apply w_bm0)
  | ((with_reducible apply w_tyL); (· assumption))
  | (with_reducible apply w_gsub)
  | (with_reducible apply w_fld)
  | (with_reducible apply w_gcons)
  | (with_reducible apply w_gnil)
  | ((with_reducible apply w_gtup); (· assumption); (· walk_at "tp"); (· rfl))
  | (with_reducible apply w_meth)
  | (with_reducible apply w_lc1)
  | (with_reducible apply w_lcL)
  | (with_reducible apply w_lcT)
  | (with_reducible apply w_yes)
  | (with_reducible apply w_m1)
  | (with_reducible apply w_dnotin)
  | (with_reducible apply w_din)
  | (with_reducible apply w_dget)
  | (with_reducible apply w_dput)
  | ((with_reducible apply w_ixL); (· assumption); (· decide); (· rfl)))
local macro_rules | `(tactic| walk_at "go") => `(tactic| repeat walk_at "step")
local macro_rules | `(tactic| walk_at "set") => `(tactic| dsimp only [List.set_cons_succ, List.set_cons_zero])

inductive Reach (mvs : List Mv) (far : Nat) : Nat → Nat → Prop
  | zero : Reach mvs far 0 0
  | step {s o z : Nat} {m : Mv} : Reach mvs far s o → m ∈ mvs → m.o = s → m.l ≤ z → z ≤ m.m → o + z ≤ far → Reach mvs far m.t (o + z)
def Lk (far i s z : Nat) (m : Mv) : Prop := m.o = s ∧ m.l ≤ z ∧ z ≤ m.m ∧ i + z ≤ far
abbrev RL := List (List Nat)
structure RG (mvs : List Mv) (far : Nat) (R : RL) : Prop where
  len : R.length = far + 1
  nd : ∀ o, (R.getD o []).Nodup
  sd : ∀ o s, s ∈ R.getD o [] → Reach mvs far s o
  z : 0 ∈ R.getD 0 []
def DO (mvs : List Mv) (far : Nat) (R : RL) (n : Nat) : Prop := ∀ o < n, ∀ s ∈ R.getD o [], ∀ m ∈ mvs, ∀ z, Lk far o s z m → m.t ∈ R.getD (o + z) []
structure Sv (mvs : List Mv) (far : Nat) (i : Nat) (cs : List Nat) (R : RL) (A : Nat → Mv → Nat → Prop) : Prop where
  g : RG mvs far R
  d : DO mvs far R i
  c : R.getD i [] = cs
  a : ∀ s m z, A s m z → s ∈ cs → m ∈ mvs → Lk far i s z m → m.t ∈ R.getD (i + z) []
def MvL (mvs : List Mv) : Prop := mvs.length ≤ 100 ∧ ∀ m ∈ mvs, 1 ≤ m.l ∧ m.l ≤ m.m ∧ m.m ≤ 8
theorem getD_setL {R : RL} {k j : Nat} {r : List Nat} (h : k < R.length) : (R.set k r).getD j [] = if j = k then r else R.getD j [] := by
  rw [List.getD_eq_getElem?_getD, List.getElem?_set]
  by_cases hj : k = j
  · subst hj
    rw [if_pos rfl, if_pos h, if_pos rfl]
    rfl
  · rw [if_neg hj, if_neg (fun z => hj z.symm), ← List.getD_eq_getElem?_getD]
section
variable {mvs : List Mv} {far i : Nat} {cs : List Nat} {R : RL} {A B : Nat → Mv → Nat → Prop}
theorem Sv.weak (h : Sv mvs far i cs R A) (w : ∀ s m z, s ∈ cs → m ∈ mvs → Lk far i s z m → B s m z → A s m z) : Sv mvs far i cs R B :=
  ⟨h.g, h.d, h.c, fun s m z b hs hm hl => h.a s m z (w s m z hs hm hl b) hs hm hl⟩
/-- one step: m is taken from s at i with the size z; the row then holds m.t -/
theorem Sv.has (h : Sv mvs far i cs R A) {s z : Nat} {m : Mv} (hm : m.t ∈ R.getD (i + z) []) : Sv mvs far i cs R fun s' m' z' => A s' m' z' ∨ (s' = s ∧ m' = m ∧ z' = z) :=
  ⟨h.g, h.d, h.c, fun s' m' z' b hs' hm' hl => by
    rcases b with b | ⟨_, rfl, rfl⟩
    · exact h.a _ _ _ b hs' hm' hl
    · exact hm⟩
theorem Sv.add (h : Sv mvs far i cs R A) {s z : Nat} {m : Mv} (hs : s ∈ cs) (hm : m ∈ mvs) (hl : Lk far i s z m) (h1 : 1 ≤ m.l) (hn : m.t ∉ R.getD (i + z) []) :
    Sv mvs far i cs (R.set (i + z) (R.getD (i + z) [] ++ [m.t])) fun s' m' z' => A s' m' z' ∨ (s' = s ∧ m' = m ∧ z' = z) := by
  obtain ⟨l1, l2, l3, l4⟩ := hl
  have hk : i + z < R.length := by rw [h.g.len]; omega
  have gs := fun j => getD_setL (R := R) (j := j) (r := R.getD (i + z) [] ++ [m.t]) hk
  have up : ∀ j t, t ∈ R.getD j [] → t ∈ (R.set (i + z) (R.getD (i + z) [] ++ [m.t])).getD j [] := fun j t ht => by
    rw [gs]
    by_cases hj : j = i + z
    · rw [if_pos hj]; subst hj; exact List.mem_append_left _ ht
    · rw [if_neg hj]; exact ht
  have lo : ∀ j, j ≤ i → (R.set (i + z) (R.getD (i + z) [] ++ [m.t])).getD j [] = R.getD j [] := fun j hj => by rw [gs, if_neg (by omega)]
  refine ⟨⟨by rw [List.length_set]; exact h.g.len, fun o => ?_, fun o s' hs' => ?_, up _ _ h.g.z⟩, fun o ho s' hs' m' hm' z' hl' => ?_, ?_, fun s' m' z' b hs' hm' hl' => ?_⟩
  · rw [gs]
    by_cases hj : o = i + z
    · rw [if_pos hj]
      refine List.nodup_append.mpr ⟨h.g.nd _, by simp, fun x hx y hy e => ?_⟩
      rw [List.mem_singleton.mp hy] at e
      subst e
      exact hn hx
    · rw [if_neg hj]; exact h.g.nd o
  · rw [gs] at hs'
    by_cases hj : o = i + z
    · rw [if_pos hj] at hs'
      rcases List.mem_append.mp hs' with q | q
      · rw [hj]; exact h.g.sd _ _ q
      · rw [List.mem_singleton.mp q, hj]
        exact .step (h.g.sd i s (by rw [h.c]; exact hs)) hm l1 l2 l3 l4
    · rw [if_neg hj] at hs'; exact h.g.sd _ _ hs'
  · rw [lo o (by omega)] at hs'
    exact up _ _ (h.d o ho s' hs' m' hm' z' hl')
  · rw [lo i (Nat.le_refl _)]; exact h.c
  · rcases b with b | ⟨_, rfl, rfl⟩
    · exact up _ _ (h.a _ _ _ b hs' hm' hl')
    · rw [gs, if_pos rfl]; exact List.mem_append_right _ (List.mem_singleton.mpr rfl)
theorem Sv.done (h : Sv mvs far i cs R fun _ _ _ => True) : DO mvs far R (i + 1) := fun o ho s hs m hm z hl => by
  by_cases e : o = i
  · subst e
    exact h.a s m z trivial (by rw [← h.c]; exact hs) hm hl
  · exact h.d o (by omega) s hs m hm z hl
theorem Reach.le {s o : Nat} (h : Reach mvs far s o) : o ≤ far := by
  cases h with
  | zero => exact Nat.zero_le _
  | step _ _ _ _ _ h => exact h
theorem Reach.tgt {s o : Nat} (h : Reach mvs far s o) : s ∈ 0 :: mvs.map (·.t) := by
  cases h with
  | zero => exact List.mem_cons_self ..
  | step _ hm _ _ _ _ => exact List.mem_cons_of_mem _ (List.mem_map_of_mem hm)
theorem RG.all (h : RG mvs far R) (d : DO mvs far R far) (hml : ∀ m ∈ mvs, 1 ≤ m.l) {s o : Nat} (hr : Reach mvs far s o) : s ∈ R.getD o [] := by
  induction hr with
  | zero => exact h.z
  | step hr' hm e1 e2 e3 e4 ih =>
    have := hml _ hm
    exact d _ (by omega) _ ih _ hm _ ⟨e1, e2, e3, e4⟩
theorem RG.row (h : RG mvs far R) (o : Nat) : (R.getD o []).length ≤ mvs.length + 1 := by
  have := (h.nd o).length_le_of_subset (l₂ := 0 :: mvs.map (·.t)) fun s hs => (h.sd o s hs).tgt
  simpa using this
end
/-! ### the rows in the heap -/
structure RowsAt (H0 H : Hp) (rl : Addr) (R : RL) (as : List Addr) : Prop where
  top : H rl = some (.lst (as.map V.ref))
  len : as.length = R.length
  nd : as.Nodup
  new : ∀ a ∈ as, H0 a = none
  ne : rl ∉ as
  row : ∀ k a, as[k]? = some a → LI H a (R.getD k [])
section
variable {H0 H H' : Hp} {rl : Addr} {R : RL} {as : List Addr}
theorem RowsAt.gr (h : RowsAt H0 H rl R as) (g : Gr S0 H H') : RowsAt H0 H' rl R as := ⟨g.lst id h.top, h.len, h.nd, h.new, h.ne, fun k a e => (h.row k a e).gr g id⟩
theorem RowsAt.add (h : RowsAt H0 H rl R as) {k t : Nat} {a : Addr} (hk : as[k]? = some a) : RowsAt H0 (upd H a (.lst (ni (R.getD k []) ++ [.int (t : Nat)]))) rl (R.set k (R.getD k [] ++ [t])) as := by
  have hkl : k < R.length := by rw [← h.len]; exact (List.getElem?_eq_some_iff.mp hk).1
  refine ⟨?_, by rw [h.len, List.length_set], h.nd, h.new, h.ne, fun j b e => ?_⟩
  · have : rl ≠ a := fun z => h.ne (by rw [z]; exact List.mem_of_getElem? hk)
    rw [upd_ne this]; exact h.top
  · rw [getD_setL hkl]
    by_cases hj : j = k
    · subst hj
      rw [hk] at e
      cases e
      rw [if_pos rfl]
      show upd H a _ a = _
      rw [upd_same]
      unfold ni
      rw [List.map_append]; rfl
    · rw [if_neg hj]
      have hb : b ≠ a := fun z => by
        subst z
        obtain ⟨h1, e1⟩ := List.getElem?_eq_some_iff.mp e
        obtain ⟨h2, e2⟩ := List.getElem?_eq_some_iff.mp hk
        exact hj ((List.getElem_inj h.nd).mp (e1.trans e2.symm))
      show upd H a _ b = _
      rw [upd_ne hb]; exact h.row j b e
end
/-! ### two fors in a comprehension -/
theorem pi_listK {K : PySem.W.Frag} {X : Cx} {tg l : Expr} {tl : TE} (h : X.K = K) (hl : PE X l tl) : PI X tg l (iList K tl) := by
  subst h; exact pi_list hl
section
variable {K : PySem.W.Frag} {σ : L2.St} {H : Hp} {Q : VK} {te : TE}
theorem wipeA (σ : L2.St) {i j : Nat} (h : i ≠ j) (x : Option V) : wipe ((wipe σ [i, j]).set i x) [i, j] = wipe σ [i, j] := by
  show ((((σ.set j none).set i none).set i x).set j none).set i none = (σ.set j none).set i none
  have e1 : ((σ.set j none).set i none).set i x = (σ.set j none).set i x := List.set_set ..
  have e2 : ((σ.set j none).set i x).set j none = ((σ.set j none).set j none).set i x := List.set_comm _ _ h
  rw [e1, e2, List.set_set, List.set_set]
theorem wipeB (σ : L2.St) {i j : Nat} (h : i ≠ j) (x : Option V) : wipe ((wipe σ [i, j]).set i x) [j] = (σ.set j none).set i x := by
  show (((σ.set j none).set i none).set i x).set j none = (σ.set j none).set i x
  have e1 : ((σ.set j none).set i none).set i x = (σ.set j none).set i x := List.set_set ..
  have e2 : ((σ.set j none).set i x).set j none = ((σ.set j none).set j none).set i x := List.set_comm _ _ h
  rw [e1, e2, List.set_set]
def In2 (K : PySem.W.Frag) (te : TE) (i j : Nat) (σ2 : L2.St) (D : Addr) (Nx : Hp → Prop) (x : V) (H4 : Hp) : Prop := ∃ a, x = .ref a ∧ (∃ xs, SqL K H4 a xs) ∧ ∃ W1 : Nat → Nat → Hp → Prop, (∃ m, W1 0 m H4) ∧ ∀ l k H, W1 l k H →
  ((Itl K a).stop l H ∧ Nx H) ∨ ((Itl K a).go l H ∧ ∃ Nx1 : Hp → Prop, (∀ H', Nx1 H' → ∃ k', k' < k ∧ W1 (l + 1) k' H') ∧ ∀ x H', (Itl K a).yld l H x H' → gName j x (wipe σ2 [j]) H' fun σ3 H5 => wipe σ3 [j] = wipe σ2 [j] ∧ tYes σ3 H5 fun b H6 =>
    if b = true then te σ3 H6 (Put D Nx1) else Nx1 H6)
theorem in2 {i j : Nat} {σ2 : L2.St} {D : Addr} {Nx : Hp → Prop} {a : Addr} {ys : List V} (ha : SqL K H a ys) (Pw : Nat → Hp → Prop) (h0 : Pw 0 H) (hl : ∀ l H5, Pw l H5 → SqL K H5 a ys)
    (hs : ∀ l y H5, ys[l]? = some y → Pw l H5 → te (σ2.set j (some y)) H5 (Put D (Pw (l + 1)))) (hd : ∀ H5, Pw ys.length H5 → Nx H5) : In2 K te i j σ2 D Nx (.ref a) H := by
  refine ⟨a, rfl, ⟨ys, ha⟩, fun l k H => k = ys.length - l ∧ l ≤ ys.length ∧ Pw l H, ⟨ys.length, by simp, Nat.zero_le _, h0⟩, ?_⟩
  rintro l k H ⟨rfl, hi, p⟩
  have q := hl l H p
  by_cases hlt : l < ys.length
  · refine .inr ⟨⟨ys, ys[l], q, List.getElem?_eq_getElem hlt⟩, Pw (l + 1), fun H' p' => ⟨ys.length - (l + 1), by omega, rfl, hlt, p'⟩, fun x H' y => ?_⟩
    obtain ⟨e, y⟩ := y
    subst e
    refine ⟨wipe1 _ _ _, ?_⟩
    show te ((wipe σ2 [j]).set j (some x)) H' (Put D (Pw (l + 1)))
    rw [wipe2]
    exact hs l x _ (y ys q) p
  · have e : l = ys.length := by omega
    subst e
    exact .inl ⟨⟨ys, q, Nat.le_refl _⟩, hd H p⟩
def Lc2R (K : PySem.W.Frag) (tl : TE) (te : TE) (i j : Nat) (σ : L2.St) (xs : List V) (H1 : Hp) (Q : VK) : Prop := ∃ n : Int, xs = [.int n] ∧ -(2 ^ 62) ≤ n ∧ n < 2 ^ 62 ∧ ∀ D, H1 D = none → ∃ W : Nat → Nat → Hp → Prop, (∃ m, W 0 m (upd H1 D (.lst []))) ∧ ∀ k m H, W k m H →
  ((Itr 0 n.toNat).stop k H ∧ Q (.ref D) H) ∨ ((Itr 0 n.toNat).go k H ∧ ∃ Nx : Hp → Prop, (∀ H', Nx H' → ∃ m', m' < m ∧ W (k + 1) m' H') ∧ ∀ x H', (Itr 0 n.toNat).yld k H x H' → gName i x (wipe σ [i, j]) H' fun σ2 H2 => wipe σ2 [i, j] = wipe σ [i, j] ∧ tYes σ2 H2 fun b H3 =>
    if b = true then tl σ2 H3 (In2 K te i j σ2 D Nx) else Nx H3)
theorem w_lc2 {ta : TA} {tl : TE} {i j : Nat} (q : ta σ H fun xs H1 => Lc2R K tl te i j σ xs H1 Q) : tLc2 (iRng1 ta) (gName i) tYes (iList K tl) (gName j) tYes te [i, j] [j] σ H Q := q
theorem lc2R {tl : TE} {i j n : Nat} (hij : i ≠ j) (hn : n ≤ 1000000000) (Pv : Addr → Nat → Hp → Prop) (h0 : ∀ D, H D = none → Pv D 0 (upd H D (.lst [])))
    (hs : ∀ D k H', H D = none → k < n → Pv D k H' → tl ((σ.set j none).set i (some (.int (k : Nat)))) H' (In2 K te i j ((σ.set j none).set i (some (.int (k : Nat)))) D (Pv D (k + 1))))
    (hd : ∀ D H', H D = none → Pv D n H' → Q (.ref D) H') : Lc2R K tl te i j σ [.int (n : Nat)] H Q := by
  refine ⟨n, rfl, by omega, by omega, fun D hD => ⟨fun k m H => m = n - k ∧ k ≤ n ∧ Pv D k H, ⟨n, by simp, Nat.zero_le _, h0 D hD⟩, ?_⟩⟩
  rw [Int.toNat_natCast]
  rintro k m H' ⟨rfl, hi, p⟩
  by_cases hlt : k < n
  · refine .inr ⟨hlt, Pv D (k + 1), fun H' p' => ⟨n - (k + 1), by omega, rfl, hlt, p'⟩, fun x H2 y => ?_⟩
    obtain ⟨e, y⟩ := y
    subst e y
    have e0 : (0 : Int) + (k : Int) = (k : Int) := Int.zero_add _
    rw [e0]
    refine ⟨wipeA σ hij _, ?_⟩
    have e1 : ((wipe σ [i, j]).set i (some (V.int (k : Int)))) = (σ.set j none).set i (some (.int (k : Nat))) := List.set_set ..
    show tl ((wipe σ [i, j]).set i (some (V.int (k : Int)))) _ (In2 K te i j ((wipe σ [i, j]).set i (some (V.int (k : Int)))) D (Pv D (k + 1)))
    rw [e1]
    exact hs D k _ hD hlt p
  · have e : k = n := by omega
    subst e
    exact .inl ⟨Nat.le_refl _, hd D _ hD p⟩
end
section
variable {P : Program} {w : World} {K : PySem.W.Frag} {mg : Str → Option Value} {base : Heap}
def spotD (p : Nat × Nat) : PD := .tuple [.int p.1, .int p.2]
def spReached : Sp := fun vs H Q _ => ∃ (v : V) (mvs : List Mv) (far : Nat), vs = [v, .int far] ∧ Rep H (.tuple (mvs.map encMv)) v ∧ MvL mvs ∧ far ≤ 8 ∧
  ∀ (a : Addr) (H' : Hp) (L : List (Nat × Nat)), Gr S0 H H' → H a = none → LD H' a (L.map spotD) → L.length ≤ 2000 → (∀ s o, (s, o) ∈ L ↔ Reach mvs far s o) → L.Pairwise (fun x y => x.2 ≤ y.2) → Q (.ref a) H'
theorem sc_reached : FnScope ["moves", "far", "rows", "offset", "state", "move", "size", "k"] ["moves", "far"] (defScope (top 16)) := ⟨rfl, rfl, rfl, by decide +kernel, rfl, by decide +kernel, by decide +kernel⟩
theorem ok_reached (R : Raw K mg "reached" (top 16) ["moves", "far"]) (B : Bi mg) : Def P w K mg base 1 "reached" ["moves", "far"] spReached := by
  refine R.ok sc_reached (fun vs H Q E h => ?_) (fun f cdv A outer s H vs Q E hr h => ?_)
  · obtain ⟨_, _, _, rfl, _⟩ := h; rfl
  obtain ⟨v, mvs, far, rfl, hv, hml, hf, q⟩ := h
  refine ⟨_, (pss_cons (ps_set (i := 2) sc_reached.nd rfl (.inr rfl) (pe_lc (own := [("k", 7)]) (g := gName 7) rfl sc_reached.nd (pi_range1 (by rfl) B.range (pa_cons (pe_op op_add (pv 1) pe_int) pa_nil)) (blkOk_by (N := ["moves", "far", "rows", "offset", "state", "move", "size", "k"]) (sc := defScope (top 16)) (by decide +kernel)) (fun _ _ _ _ _ => pg_name (i := 7) sc_reached.nd rfl (.inl rfl)) (fun _ _ _ _ _ => pts_nil) (fun _ _ _ _ _ => (pe_lst pa_nil))))
    (pss_cons (ps_expr (pe_bm PySem.F.plainAttrs_list PySem.F.slot_list_append PySem.F.type_list_append mt_append (pe_ix (ix_sq (K := K) rfl) (pv 2) pe_int (fun _ _ => rfl)) (pa_cons pe_int pa_nil)))
    (pss_cons (ps_for PassesOwn.never rfl (pi_range1 (by rfl) B.range (pa_cons (pv 1) pa_nil)) (pg_name (i := 3) sc_reached.nd rfl (.inl rfl))
      (pss_one (ps_for PassesOwn.never rfl (pi_list (pe_callTy (ck_list (K := K) rfl) (by rfl) B.list bo_list (pa_cons (pe_ix (ix_sq (K := K) rfl) (pv 2) (pv 3) (fun _ _ => rfl)) pa_nil))) (pg_name (i := 4) sc_reached.nd rfl (.inl rfl))
        (pss_one (ps_for PassesOwn.never rfl (pi_tup (pv 0)) (pg_name (i := 5) sc_reached.nd rfl (.inl rfl))
          (pss_one (ps_if (pt_cmpR op_eq (pe_ix (ix_sq (K := K) rfl) (pv 5) pe_int (fun _ _ => rfl)) (pv 4) (nomark _))
            (pss_one (ps_for PassesOwn.never rfl (pi_range2 (by rfl) B.range (pa_cons (pe_ix (ix_sq (K := K) rfl) (pv 5) pe_int (fun _ _ => rfl)) (pa_cons (pe_op op_add (pe_callB (cx_min rfl) (by rfl) B.min bo_min (pa_cons (pe_ix (ix_sq (K := K) rfl) (pv 5) pe_int (fun _ _ => rfl)) (pa_cons (pe_op op_sub (pv 1) (pv 3)) pa_nil))) pe_int) pa_nil))) (pg_name (i := 6) sc_reached.nd rfl (.inl rfl))
              (pss_one (ps_if (pt_cmpR (os_notin (K := K) rfl) (pe_ix (ix_sq (K := K) rfl) (pv 5) pe_int (fun _ _ => rfl)) (pe_ix (ix_sq (K := K) rfl) (pv 2) (pe_op op_add (pv 3) (pv 6)) (fun _ _ => rfl)) (by rfl))
                (pss_one (ps_expr (pe_bm PySem.F.plainAttrs_list PySem.F.slot_list_append PySem.F.type_list_append mt_append (pe_ix (ix_sq (K := K) rfl) (pv 2) (pe_op op_add (pv 3) (pv 6)) (fun _ _ => rfl)) (pa_cons (pe_ix (ix_sq (K := K) rfl) (pv 5) pe_int (fun _ _ => rfl)) pa_nil))))
                pss_nil))))
            pss_nil)))))))
    (pss_one (ps_ret (pe_lc2 (own := [("offset", 3), ("state", 4)]) (vs1 := [4]) (g := gName 3) (g1 := gName 4) rfl sc_reached.nd (pi_range1 (by rfl) B.range (pa_cons (pe_op op_add (pv 1) pe_int) pa_nil)) (blkOk_by (N := ["moves", "far", "rows", "offset", "state", "move", "size", "k"]) (sc := defScope (top 16)) (by decide +kernel)) (by decide) (fun _ _ _ _ _ => pg_name (i := 3) sc_reached.nd rfl (.inl rfl)) (fun _ _ _ _ _ => pts_nil) (fun _ _ _ _ _ => (pi_listK (K := K) rfl (pe_callB (cx_srt (K := K) rfl) (by rfl) B.sorted bo_sorted (pa_cons (pe_ix (ix_sq (K := K) rfl) (pv 2) (pv 3) (fun _ _ => rfl)) pa_nil)))) (fun _ _ _ _ _ => pg_name (i := 4) sc_reached.nd rfl (.inl rfl)) (fun _ _ _ _ _ => pts_nil) (fun _ _ _ _ _ => (pe_tup (pa_cons (pv 4) (pa_cons (pv 3) pa_nil)))))))))), ?_⟩
  walk_at "go"
  refine lcR1 (n := far + 1) rfl (by omega) (fun D i H' => Gr S0 H H' ∧ ∃ as, RowsAt H H' D (List.replicate i []) as) (fun D hD => ⟨Gr.new hD, [], upd_same, rfl, List.nodup_nil, by simp, by simp, by simp⟩) (fun D i H' hD hi hp => ?_) (fun D H1 hD hp => ?_)
  · obtain ⟨g, as, ra⟩ := hp
    walk_at "go"
    refine lst_new (Nat.zero_le _) fun p H2 pn hp2 g2 => ?_
    have ra2 := ra.gr g2
    have hpn : p ∉ as := fun z => by
      obtain ⟨k, hk⟩ := List.mem_iff_getElem?.mp z
      have := ra.row k p hk
      rw [show H' p = _ from this] at pn
      cases pn
    have hpD : D ≠ p := fun z => by subst z; rw [ra.top] at pn; cases pn
    refine w_put ra2.top (small6 (by rw [List.length_map, ra2.len, List.length_replicate]; omega)) ⟨(g.trans g2).setL (.inl hD) ra2.top, as ++ [p], by rw [upd_same, List.map_append]; rfl, by rw [List.length_append, ra2.len, List.length_replicate, List.length_replicate]; rfl, List.nodup_append.mpr ⟨ra.nd, by simp, fun x hx y hy e => by rw [List.mem_singleton.mp hy] at e; subst e; exact hpn hx⟩, fun a ha => ?_, fun z => ?_, fun k a hk => ?_⟩
    · rcases List.mem_append.mp ha with q1 | q1
      · exact ra.new a q1
      · rw [List.mem_singleton.mp q1]; exact g.nn p pn
    · rcases List.mem_append.mp z with q1 | q1
      · exact ra.ne q1
      · exact hpD (List.mem_singleton.mp q1)
    · have hne : a ≠ D := fun z => by
        subst z
        rcases List.mem_append.mp (List.mem_of_getElem? hk) with q1 | q1
        · exact ra.ne q1
        · exact hpD (List.mem_singleton.mp q1)
      have er : (List.replicate (i + 1) ([] : List Nat)).getD k [] = [] := by
        rw [List.getD_eq_getElem?_getD, List.getElem?_replicate]
        by_cases hki : k < i + 1
        · rw [if_pos hki]; rfl
        · rw [if_neg hki]; rfl
      rw [er]
      show upd H2 D _ a = _
      rw [upd_ne hne]
      have er2 : (List.replicate i ([] : List Nat)).getD k [] = [] := by
        rw [List.getD_eq_getElem?_getD, List.getElem?_replicate]
        by_cases hki : k < i
        · rw [if_pos hki]; rfl
        · rw [if_neg hki]; rfl
      by_cases hka : k < as.length
      · rw [List.getElem?_append_left hka] at hk
        have := ra2.row k a hk
        rw [er2] at this
        exact this
      · rw [List.getElem?_append_right (by omega)] at hk
        have : a = p := by
          have h0 : k - as.length = 0 := by
            have := (List.getElem?_eq_some_iff.mp hk).1
            simp at this; omega
          rw [h0] at hk
          simpa using hk.symm
        rw [this]; exact hp2
  obtain ⟨g1, as, ra⟩ := hp
  have hlen := ra.len
  rw [List.length_replicate] at hlen
  walk_at "go"
  have hx0 : (as.map V.ref)[0]? = some (.ref (as[0]'(by omega))) := by rw [List.getElem?_map, List.getElem?_eq_getElem (by omega)]; rfl
  have ha0 : as[0]? = some (as[0]'(by omega)) := List.getElem?_eq_getElem _
  refine w_ixL ra.top (by decide) hx0 ?_
  have r00 : LI H1 (as[0]'(by omega)) [] := by
    have := ra.row 0 _ ha0
    rwa [show (List.replicate (far + 1) ([] : List Nat)).getD 0 [] = [] from rfl] at this
  have n0 : H (as[0]'(by omega)) = none := ra.new _ (List.getElem_mem _)
  walk_at "go"
  refine w_append r00 (small6 (Nat.zero_le _)) ?_
  have ra1 := ra.add (k := 0) (t := 0) ha0
  have g2 := g1.setL (p := as[0]'(by omega)) (o := .lst (ni [] ++ [.int (0 : Nat)])) (.inl n0) r00
  have hR1 : RG mvs far ((List.replicate (far + 1) ([] : List Nat)).set 0 ((List.replicate (far + 1) ([] : List Nat)).getD 0 [] ++ [0])) := by
    have er : ∀ k, (List.replicate (far + 1) ([] : List Nat)).getD k [] = [] := fun k => by
      rw [List.getD_eq_getElem?_getD, List.getElem?_replicate]
      by_cases hki : k < far + 1
      · rw [if_pos hki]; rfl
      · rw [if_neg hki]; rfl
    have gs := fun j => getD_setL (R := List.replicate (far + 1) ([] : List Nat)) (k := 0) (j := j) (r := (List.replicate (far + 1) ([] : List Nat)).getD 0 [] ++ [0]) (by simp)
    refine ⟨by simp, fun o => ?_, fun o s hs => ?_, ?_⟩
    · rw [gs]
      by_cases h0 : o = 0
      · rw [if_pos h0, er]; simp
      · rw [if_neg h0, er]; simp
    · rw [gs] at hs
      by_cases h0 : o = 0
      · rw [if_pos h0, er] at hs
        rw [List.mem_singleton.mp hs, h0]; exact .zero
      · rw [if_neg h0, er] at hs
        exact absurd hs (by simp)
    · rw [gs, if_pos rfl, er]; simp
  generalize (List.replicate (far + 1) ([] : List Nat)).set 0 ((List.replicate (far + 1) ([] : List Nat)).getD 0 [] ++ [0]) = R1 at ra1 hR1
  have hasn : ∀ a, a ∈ as → H a = none := ra.new
  clear ra r00 hx0 ha0
  walk_at "go"
  refine rng1 (by omega) (fun i σ H' => ∃ d3 d4 d5 d6 d7, σ = [some v, some (.int far), some (.ref D), d3, d4, d5, d6, d7] ∧ ∃ R, RowsAt H H' D R as ∧ Gr S0 H H' ∧ RG mvs far R ∧ DO mvs far R i) ⟨_, _, _, _, _, rfl, R1, ra1, g2, hR1, fun o ho => absurd ho (Nat.not_lt_zero _)⟩ (fun i σ H3 hi hp => ?_) (fun σ H3 hp => ?_)
  · obtain ⟨d3, d4, d5, d6, d7, rfl, R, ra, g3, hg, hd⟩ := hp
    have hil : i < as.length := by omega
    have hai : as[i]? = some as[i] := List.getElem?_eq_getElem hil
    have hri := ra.row i _ hai
    walk_at "go"
    refine w_ixL ra.top (by omega) (x := .ref as[i]) (by rw [Int.toNat_natCast, List.getElem?_map, hai]; rfl) ?_
    walk_at "go"
    refine w_listOf hri fun l H4 ln hl g4 => ?_
    have ra4 := ra.gr g4
    have lna : l ∉ as := fun z => by
      obtain ⟨k, hk⟩ := List.mem_iff_getElem?.mp z
      have := ra.row k l hk
      rw [show H3 l = _ from this] at ln
      cases ln
    have sv0 : Sv mvs far i (R.getD i []) R fun s m z => s ∈ (R.getD i []).take 0 := ⟨hg, hd, rfl, fun s m z h => absurd h (by simp)⟩
    generalize hcs : R.getD i [] = cs at hl sv0
    have hl' : SqL K H4 l (ni cs) := SqL.of hl
    have g34 := g3.trans g4
    have lok : ∀ H5, Gr (fun x => x ∈ as) H4 H5 → SqL K H5 l (ni cs) := fun H5 g => SqL.of (g.lst lna hl)
    walk_at "go"
    refine forL hl' (fun j σ H' => ∃ d4 d5 d6 d7, σ = [some v, some (.int far), some (.ref D), some (.int (i : Nat)), d4, d5, d6, d7] ∧ ∃ R, RowsAt H H' D R as ∧ Gr (fun x => x ∈ as) H4 H' ∧ Sv mvs far i cs R fun s m z => s ∈ cs.take j) ⟨_, _, _, _, rfl, R, ra4, Gr.refl _ _, sv0⟩ (fun j σ H' hp => by obtain ⟨_, _, _, _, _, _, _, g, _⟩ := hp; exact lok _ g) (fun j x σ H5 hj hp => ?_) (fun σ H5 hp => ?_)
    · obtain ⟨d4, d5, d6, d7, rfl, R, ra, g5, sv⟩ := hp
      have hjl : j < cs.length := by
        have := (List.getElem?_eq_some_iff.mp hj).1
        unfold ni at this
        rwa [List.length_map] at this
      have ex : x = .int (cs[j] : Nat) := by
        unfold ni at hj
        rw [List.getElem?_map, List.getElem?_eq_getElem hjl] at hj
        cases hj; rfl
      subst ex
      have hsj : cs[j] ∈ cs := List.getElem_mem _
      have hv5 := hv.mono (g34.tp.trans g5.tp)
      have et : cs.take (j + 1) = cs.take j ++ [cs[j]] := by rw [List.take_succ, List.getElem?_eq_getElem hjl]; rfl
      generalize cs[j] = s at *
      walk_at "go"
      refine forT hv5 (Tp.refl _) (fun k σ H' => ∃ d5 d6 d7, σ = [some v, some (.int far), some (.ref D), some (.int (i : Nat)), some (.int (s : Nat)), d5, d6, d7] ∧ ∃ R, RowsAt H H' D R as ∧ Gr (fun x => x ∈ as) H4 H' ∧ Tp H5 H' ∧ Sv mvs far i cs R fun s' m z => s' ∈ cs.take j ∨ (s' = s ∧ m ∈ mvs.take k)) ⟨_, _, _, rfl, R, ra, g5, Tp.refl _, sv.weak fun s' m z _ _ _ h => by rcases h with h | ⟨_, h⟩; exact h; exact absurd h (by simp)⟩ (fun k σ H' hp => by obtain ⟨_, _, _, _, _, _, _, tp, _⟩ := hp; exact tp) (fun k dd u σ H6 hk hu hp => ?_) (fun σ H6 hp => ?_)
      · obtain ⟨d5, d6, d7, rfl, R, ra, g6, tp6, sv⟩ := hp
        have hkl : k < mvs.length := by
          have := (List.getElem?_eq_some_iff.mp hk).1
          rwa [List.length_map] at this
        have ed : dd = encMv mvs[k] := by
          rw [List.getElem?_map, List.getElem?_eq_getElem hkl] at hk
          cases hk; rfl
        subst ed
        have hmm : mvs[k] ∈ mvs := List.getElem_mem _
        have emt : mvs.take (k + 1) = mvs.take k ++ [mvs[k]] := by rw [List.take_succ, List.getElem?_eq_getElem hkl]; rfl
        have hu6 := hu.mono tp6
        rw [emt]
        generalize mvs[k] = m at *
        obtain ⟨m1, m2, m3⟩ := hml.2 m hmm
        change Rep H6 (.tuple [.int m.o, .int m.t, .int m.p, .int m.l, .int m.m, .int m.c]) u at hu6
        walk_at "go"
        refine if_of (fun h => ?_) (fun h => ?_)
        · have hms : m.o = s := by have := of_decide_eq_true h; omega
          have e1 : (far : Int) - (i : Int) = ((far - i : Nat) : Int) := by omega
          walk_at "go"
          rw [e1]
          walk_at "go"
          refine rng2 (hi := min m.m (far - i) + 1) (by omega) (by omega) (by omega) (fun z σ H' => ∃ d6 d7, σ = [some v, some (.int far), some (.ref D), some (.int (i : Nat)), some (.int (s : Nat)), some u, d6, d7] ∧ ∃ R, RowsAt H H' D R as ∧ Gr (fun x => x ∈ as) H4 H' ∧ Tp H5 H' ∧ Tp H6 H' ∧ Sv mvs far i cs R fun s' m' z' => s' ∈ cs.take j ∨ (s' = s ∧ m' ∈ mvs.take k) ∨ (s' = s ∧ m' = m ∧ z' < z)) ⟨_, _, rfl, R, ra, g6, tp6, Tp.refl _, sv.weak fun s' m' z' _ _ hl h => by
            rcases h with h | h | ⟨_, rfl, h⟩
            · exact .inl h
            · exact .inr h
            · exact absurd hl.2.1 (by omega)⟩ (fun z σ H7 hz1 hz2 hp => ?_) (fun σ H7 hp => ?_)
          · obtain ⟨d6, d7, rfl, R, ra, g7, tp7, tp77, sv⟩ := hp
            have hu7 := hu6.mono tp77
            have hzl : i + z < as.length := by omega
            have haz : as[i + z]? = some as[i + z] := List.getElem?_eq_getElem hzl
            have hrz := ra.row _ _ haz
            have e2 : (i : Int) + (z : Int) = ((i + z : Nat) : Int) := by omega
            have lk : Lk far i s z m := ⟨hms, hz1, by omega, by omega⟩
            walk_at "go"
            rw [e2]
            refine w_ixL ra.top (by omega) (x := .ref as[i + z]) (by rw [Int.toNat_natCast, List.getElem?_map, haz]; rfl) ?_
            walk_at "go"
            refine w_notin hrz ?_
            refine ⟨_, rfl, if_of (fun h => ?_) (fun h => ?_)⟩
            · have hni : m.t ∉ R.getD (i + z) [] := by simpa using h
              walk_at "go"
              rw [e2]
              refine w_ixL ra.top (by omega) (x := .ref as[i + z]) (by rw [Int.toNat_natCast, List.getElem?_map, haz]; rfl) ?_
              walk_at "go"
              refine w_append hrz (small6 (by unfold ni; rw [List.length_map]; have := sv.g.row (i + z); have := hml.1; omega)) ?_
              have g8 : Gr (fun x => x ∈ as) H4 (upd H7 as[i + z] (.lst (ni (R.getD (i + z) []) ++ [.int (m.t : Nat)]))) := g7.setL (.inr (List.getElem_mem _)) hrz
              refine ⟨_, _, rfl, _, ra.add haz, g8, tp7.trans (Tp.setL hrz), tp77.trans (Tp.setL hrz), (sv.add (hsj) hmm lk m1 hni).weak fun s' m' z' _ _ hl' h => ?_⟩
              rcases h with h | h | ⟨h1, h2, h⟩
              · exact .inl (.inl h)
              · exact .inl (.inr (.inl h))
              · by_cases hzz : z' = z
                · exact .inr ⟨h1, h2, hzz⟩
                · exact .inl (.inr (.inr ⟨h1, h2, by omega⟩))
            · have hin : m.t ∈ R.getD (i + z) [] := by simpa using h
              refine ⟨_, _, rfl, R, ra, g7, tp7, tp77, (sv.has (s := s) hin).weak fun s' m' z' _ _ hl' h => ?_⟩
              rcases h with h | h | ⟨h1, h2, h⟩
              · exact .inl (.inl h)
              · exact .inl (.inr (.inl h))
              · by_cases hzz : z' = z
                · exact .inr ⟨h1, h2, hzz⟩
                · exact .inl (.inr (.inr ⟨h1, h2, by omega⟩))
          · obtain ⟨d6, d7, rfl, R, ra, g7, tp7, tp77, sv⟩ := hp
            refine ⟨_, _, _, rfl, R, ra, g7, tp7, sv.weak fun s' m' z' _ _ hl' h => ?_⟩
            rcases h with h | ⟨h1, h⟩
            · exact .inl h
            · rcases List.mem_append.mp h with h | h
              · exact .inr (.inl ⟨h1, h⟩)
              · have := List.mem_singleton.mp h
                subst this
                obtain ⟨l1, l2, l3, l4⟩ := hl'
                exact .inr (.inr ⟨h1, rfl, by omega⟩)
        · have hms : ¬ m.o = s := by have := of_decide_eq_false h; omega
          refine ⟨_, _, _, rfl, R, ra, g6, tp6, sv.weak fun s' m' z' _ _ hl' h => ?_⟩
          rcases h with h | ⟨h1, h⟩
          · exact .inl h
          · rcases List.mem_append.mp h with h | h
            · exact .inr ⟨h1, h⟩
            · have := List.mem_singleton.mp h
              subst this
              exact absurd (hl'.1.trans h1) hms
      · obtain ⟨d5, d6, d7, rfl, R, ra, g6, tp6, sv⟩ := hp
        rw [List.length_map, List.take_length] at sv
        refine ⟨_, _, _, _, rfl, R, ra, g6, sv.weak fun s' m' z' _ hm' _ h => ?_⟩
        rw [et] at h
        rcases List.mem_append.mp h with h | h
        · exact .inl h
        · exact .inr ⟨List.mem_singleton.mp h, hm'⟩
    · obtain ⟨d4, d5, d6, d7, rfl, R, ra, g5, sv⟩ := hp
      have hnl : (ni cs).length = cs.length := by unfold ni; rw [List.length_map]
      rw [hnl, List.take_length] at sv
      exact ⟨_, _, _, _, _, rfl, R, ra, g34.local g5 (fun a z => hasn a z), sv.g, (sv.weak fun s' m' z' hs _ _ _ => hs).done⟩
  · obtain ⟨d3, d4, d5, d6, d7, rfl, R, ra, g3, hg, hd⟩ := hp
    have hlr := hg.len
    have hall : ∀ s o, s ∈ R.getD o [] ↔ Reach mvs far s o := fun s o => ⟨hg.sd o s, fun h => hg.all hd (fun m hm => (hml.2 m hm).1) h⟩
    have hrow := hg.row
    have hml1 := hml.1
    clear hg hd ra1 hR1
    walk_at "go"
    refine w_lc2 ?_
    walk_at "go"
    refine lc2R (n := far + 1) (by decide) (by omega) (fun D' k H' => Gr S0 H3 H' ∧ ∃ L : List (Nat × Nat), LD H' D' (L.map spotD) ∧ L.length ≤ 101 * k ∧ (∀ s o, (s, o) ∈ L ↔ o < k ∧ Reach mvs far s o) ∧ L.Pairwise (fun x y => x.2 ≤ y.2)) (fun D' hD => ⟨Gr.new hD, [], ⟨[], upd_same, .nil⟩, Nat.le_refl _, fun s o => by simp, List.Pairwise.nil⟩) (fun D' k H4 hD' hk hp => ?_) (fun D' H4 hD' hp => ?_)
    · obtain ⟨g4, L, hL, hLl, hLm, hLp⟩ := hp
      have ra4 := ra.gr g4
      have hkl : k < as.length := by omega
      have hak : as[k]? = some as[k] := List.getElem?_eq_getElem hkl
      walk_at "go"
      refine w_ixL ra4.top (by omega) (x := .ref as[k]) (by rw [Int.toNat_natCast, List.getElem?_map, hak]; rfl) ?_
      walk_at "go"
      refine w_srt (ra4.row k _ hak) fun p H5 pn hp5 g5 => ?_
      have hrk := hrow k
      have hir : ∀ s, s ∈ isort (R.getD k []) ↔ Reach mvs far s k := fun s => ((isort_perm _).mem_iff).trans (hall s k)
      have hil : (isort (R.getD k [])).length ≤ mvs.length + 1 := by rw [(isort_perm _).length_eq]; exact hrk
      generalize isort (R.getD k []) = r at *
      have pD : p ≠ D' := fun z => by
        subst z
        obtain ⟨vs, h1, _⟩ := hL
        rw [h1] at pn; cases pn
      refine in2 (SqL.of hp5) (fun l H6 => Gr (S1 D') H5 H6 ∧ LD H6 D' ((L ++ (r.take l).map fun s => (s, k)).map spotD)) ⟨Gr.refl _ _, by rw [show (r.take 0).map (fun s => (s, k)) = [] from rfl, List.append_nil]; exact hL.gr g5 id⟩ (fun l H6 hp => SqL.of (hp.1.lst (fun z => pD z) hp5)) (fun l y H6 hl hp => ?_) (fun H6 hp => ?_)
      · obtain ⟨g6, vs, hD6, hr6⟩ := hp
        have hll : l < r.length := by
          have := (List.getElem?_eq_some_iff.mp hl).1
          unfold ni at this
          rwa [List.length_map] at this
        have ey : y = .int (r[l] : Nat) := by
          unfold ni at hl
          rw [List.getElem?_map, List.getElem?_eq_getElem hll] at hl
          cases hl; rfl
        subst ey
        have et : r.take (l + 1) = r.take l ++ [r[l]] := by rw [List.take_succ, List.getElem?_eq_getElem hll]; rfl
        walk_at "go"
        refine tup_new (ds := [.int (r[l] : Nat), .int (k : Nat)]) (by walk_at "repl") (by simp) fun p' H7 _ _ g7 hp7 => ?_
        have hD7 := g7.lst id hD6
        refine w_put hD7 (small6 ?_) ⟨(g6.trans g7.any).setL (.inr rfl) hD7, ?_⟩
        · rw [← hr6.length, List.length_map, List.length_append, List.length_map, List.length_take]
          have := hml1
          omega
        · rw [et, List.map_append (f := fun s => (s, k)), List.map_singleton, ← List.append_assoc, List.map_append]
          exact LD.push hD7 (hr6.mono g7.tp) hp7
      · obtain ⟨g6, hL6⟩ := hp
        have hnl : (ni r).length = r.length := by unfold ni; rw [List.length_map]
        rw [hnl, List.take_length] at hL6
        refine ⟨(g4.trans g5).local g6 (fun a z => by rw [show a = D' from z]; exact hD'), _, hL6, ?_, fun s o => ?_, ?_⟩
        · rw [List.length_append, List.length_map]
          have := hml1
          omega
        · rw [List.mem_append, hLm]
          constructor
          · rintro (⟨h1, h2⟩ | h)
            · exact ⟨by omega, h2⟩
            · obtain ⟨s', hs', e⟩ := List.mem_map.mp h
              cases e
              exact ⟨by omega, (hir s).mp hs'⟩
          · rintro ⟨h1, h2⟩
            by_cases ho : o = k
            · subst ho
              exact .inr (List.mem_map.mpr ⟨s, (hir s).mpr h2, rfl⟩)
            · exact .inl ⟨by omega, h2⟩
        · refine List.pairwise_append.mpr ⟨hLp, ?_, fun x hx y hy => ?_⟩
          · rw [List.pairwise_map]
            exact List.pairwise_of_forall (fun _ _ => Nat.le_refl _)
          · obtain ⟨s', hs', e⟩ := List.mem_map.mp hy
            cases e
            have := (hLm x.1 x.2).mp hx
            show x.2 ≤ k
            omega
    · obtain ⟨g4, L, hL, hLl, hLm, hLp⟩ := hp
      refine q D' H4 L (g3.trans g4) (g3.nn _ hD') hL (by omega) (fun s o => (hLm s o).trans ⟨fun h => h.2, fun h => ⟨by have := h.le; omega, h⟩⟩) hLp
end
/-! ### looks -/
def lookZ (m : Mv) (left : Nat) : List Nat := List.range' m.l (min m.m left + 1 - m.l)
theorem mem_lookZ {m : Mv} {left z : Nat} : z ∈ lookZ m left ↔ m.l ≤ z ∧ z ≤ m.m ∧ z ≤ left := by
  unfold lookZ
  rw [List.mem_range'_1]
  omega
def lookN (mvs : List Mv) (s left k : Nat) : List (Nat × Nat) := (List.range k).flatMap fun n => match mvs[n]? with
  | some m => if m.o = s then (lookZ m left).map fun z => (n, z) else []
  | none => []
theorem mem_lookN {mvs : List Mv} {s left k n z : Nat} : (n, z) ∈ lookN mvs s left k ↔ n < k ∧ ∃ m, mvs[n]? = some m ∧ m.o = s ∧ m.l ≤ z ∧ z ≤ m.m ∧ z ≤ left := by
  unfold lookN
  rw [List.mem_flatMap]
  constructor
  · rintro ⟨n', hn', h⟩
    rw [List.mem_range] at hn'
    cases e : mvs[n']? with
    | none => rw [e] at h; exact absurd h (by simp)
    | some m =>
      rw [e] at h
      change (n, z) ∈ (if m.o = s then (lookZ m left).map (fun z => (n', z)) else []) at h
      by_cases hs : m.o = s
      · rw [if_pos hs] at h
        obtain ⟨z', hz', e'⟩ := List.mem_map.mp h
        cases e'
        exact ⟨hn', m, e, hs, mem_lookZ.mp hz'⟩
      · rw [if_neg hs] at h; exact absurd h (by simp)
  · rintro ⟨hn, m, e, hs, h⟩
    refine ⟨n, List.mem_range.mpr hn, ?_⟩
    rw [e]
    show (n, z) ∈ (if m.o = s then (lookZ m left).map (fun z => (n, z)) else [])
    rw [if_pos hs]
    exact List.mem_map.mpr ⟨z, mem_lookZ.mpr h, rfl⟩
theorem lookN_succ {mvs : List Mv} {s left k : Nat} {m : Mv} (h : mvs[k]? = some m) : lookN mvs s left (k + 1) = lookN mvs s left k ++ if m.o = s then (lookZ m left).map (fun z => (k, z)) else [] := by
  unfold lookN
  rw [List.range_succ, List.flatMap_append, List.flatMap_singleton, h]
section
variable {P : Program} {w : World} {K : PySem.W.Frag} {mg : Str → Option Value} {base : Heap}
def spLooksAt : Sp := fun vs H Q _ => ∃ (v : V) (mvs : List Mv) (s left : Nat), vs = [v, .int s, .int left] ∧ Rep H (.tuple (mvs.map encMv)) v ∧ MvL mvs ∧ left ≤ 8 ∧
  ∀ (a : Addr) (H' : Hp) (L : List (Nat × Nat)), Gr S0 H H' → H a = none → LD H' a (L.map spotD) → L.length ≤ 1000 → (∀ n z, (n, z) ∈ L ↔ ∃ m, mvs[n]? = some m ∧ m.o = s ∧ m.l ≤ z ∧ z ≤ m.m ∧ z ≤ left) → Q (.ref a) H'
theorem sc_looks_at : FnScope ["moves", "state", "left", "pairs", "number", "move", "size"] ["moves", "state", "left"] (defScope (top 17)) := ⟨rfl, rfl, rfl, by decide +kernel, rfl, by decide +kernel, by decide +kernel⟩
theorem ok_looks_at (R : Raw K mg "looks_at" (top 17) ["moves", "state", "left"]) (B : Bi mg) : Def P w K mg base 1 "looks_at" ["moves", "state", "left"] spLooksAt := by
  refine R.ok sc_looks_at (fun vs H Q E h => ?_) (fun f cdv A outer s H vs Q E hr h => ?_)
  · obtain ⟨_, _, _, _, rfl, _⟩ := h; rfl
  obtain ⟨v, mvs, s, left, rfl, hv, hml, hf, q⟩ := h
  refine ⟨_, (pss_cons (ps_set (i := 3) sc_looks_at.nd rfl (.inl rfl) (pe_lst pa_nil))
    (pss_cons (ps_for PassesOwn.never rfl (pi_enumT (by rfl) B.enumerate (pa_cons (pv 0) pa_nil)) (pg_tup rfl (pgs_cons (pg_name (i := 4) sc_looks_at.nd rfl (.inl rfl)) (pgs_cons (pg_name (i := 5) sc_looks_at.nd rfl (.inl rfl)) pgs_nil)))
      (pss_one (ps_if (pt_cmpR op_eq (pe_ix (ix_sq (K := K) rfl) (pv 5) pe_int (fun _ _ => rfl)) (pv 1) (nomark _))
        (pss_one (ps_for PassesOwn.never rfl (pi_range2 (by rfl) B.range (pa_cons (pe_ix (ix_sq (K := K) rfl) (pv 5) pe_int (fun _ _ => rfl)) (pa_cons (pe_op op_add (pe_callB (cx_min rfl) (by rfl) B.min bo_min (pa_cons (pe_ix (ix_sq (K := K) rfl) (pv 5) pe_int (fun _ _ => rfl)) (pa_cons (pv 2) pa_nil))) pe_int) pa_nil))) (pg_name (i := 6) sc_looks_at.nd rfl (.inl rfl))
          (pss_one (ps_expr (pe_bm PySem.F.plainAttrs_list PySem.F.slot_list_append PySem.F.type_list_append mt_append (pv 3) (pa_cons (pe_tup (pa_cons (pv 4) (pa_cons (pv 6) pa_nil))) pa_nil))))))
        pss_nil)))
    (pss_one (ps_ret (pv 3))))), ?_⟩
  walk_at "go"
  refine lst_new (Nat.zero_le _) fun pl H1 pln hpl g1 => ?_
  walk_at "go"
  refine w_forE ?_
  walk_at "go"
  refine forE (hv.mono g1.tp) (Tp.refl _) (fun k σ H' => ∃ d4 d5 d6, σ = [some v, some (.int s), some (.int left), some (.ref pl), d4, d5, d6] ∧ Gr S0 H H' ∧ Tp H1 H' ∧ LD H' pl ((lookN mvs s left k).map spotD) ∧ (lookN mvs s left k).length ≤ 8 * k) ⟨_, _, _, rfl, g1, Tp.refl _, ⟨[], hpl, .nil⟩, Nat.le_refl _⟩ (fun k σ H' hp => by obtain ⟨_, _, _, _, _, tp, _⟩ := hp; exact tp) (fun k dd x T σ H2 H3 hk hx hp hT hT3 g3 => ?_) (fun σ H2 hp => ?_)
  · obtain ⟨d4, d5, d6, rfl, g2, tp2, hL, hLl⟩ := hp
    have hkl : k < mvs.length := by
      have := (List.getElem?_eq_some_iff.mp hk).1
      rwa [List.length_map] at this
    have hmk : mvs[k]? = some mvs[k] := List.getElem?_eq_getElem hkl
    have ed : dd = encMv mvs[k] := by
      rw [List.getElem?_map, hmk] at hk
      cases hk; rfl
    subst ed
    have hmm : mvs[k] ∈ mvs := List.getElem_mem _
    rw [lookN_succ hmk]
    generalize mvs[k] = m at *
    have hkb : k < 100 := Nat.lt_of_lt_of_le hkl hml.1
    generalize lookN mvs s left k = L at *
    obtain ⟨m1, m2, m3⟩ := hml.2 m hmm
    have hx3 := hx.mono (tp2.trans g3.tp)
    have hL3 := hL.gr g3 id
    change Rep H3 (.tuple [.int m.o, .int m.t, .int m.p, .int m.l, .int m.m, .int m.c]) x at hx3
    walk_at "go"
    refine if_of (fun h => ?_) (fun h => ?_)
    · have hms : m.o = s := by have := of_decide_eq_true h; omega
      rw [if_pos hms]
      walk_at "go"
      refine rng2 (hi := min m.m left + 1) (by omega) (by omega) (by omega) (fun z σ H' => ∃ d6, σ = [some v, some (.int s), some (.int left), some (.ref pl), some (.int (k : Nat)), some x, d6] ∧ Gr S0 H H' ∧ Tp H3 H' ∧ LD H' pl ((L ++ (List.range' m.l (z - m.l)).map fun z => (k, z)).map spotD)) ⟨_, rfl, g2.trans g3, Tp.refl _, by rw [Nat.sub_self, show List.range' m.l 0 = [] from rfl, List.map_nil, List.append_nil]; exact hL3⟩ (fun z σ H4 hz1 hz2 hp => ?_) (fun σ H4 hp => ?_)
      · obtain ⟨d6, rfl, g4, tp4, vs, hL4, hr4⟩ := hp
        walk_at "go"
        refine tup_new (ds := [.int (k : Nat), .int (z : Nat)]) (by walk_at "repl") (by simp) fun p' H7 _ _ g7 hp7 => ?_
        have hL7 := g7.lst id hL4
        walk_at "go"
        refine w_append hL7 (small6 ?_) ⟨_, rfl, (g4.trans g7).setL (.inl pln) hL7, (tp4.trans g7.tp).trans (Tp.setL hL7), ?_⟩
        · rw [← hr4.length, List.length_map, List.length_append, List.length_map, List.length_range']
          omega
        · have er : List.range' m.l (z + 1 - m.l) = List.range' m.l (z - m.l) ++ [z] := by
            have : z + 1 - m.l = (z - m.l) + 1 := by omega
            rw [this, List.range'_concat]
            congr 2
            omega
          rw [er, List.map_append (f := fun z => (k, z)), List.map_singleton, ← List.append_assoc, List.map_append]
          exact LD.push hL7 (hr4.mono g7.tp) hp7
      · obtain ⟨d6, rfl, g4, tp4, hL4⟩ := hp
        have e : max m.l (min m.m left + 1) - m.l = min m.m left + 1 - m.l := by omega
        rw [e] at hL4
        refine ⟨_, _, _, rfl, g4, (tp2.trans g3.tp).trans tp4, hL4, ?_⟩
        rw [List.length_append, List.length_map]
        unfold lookZ
        rw [List.length_range']
        omega
    · have hms : ¬ m.o = s := by have := of_decide_eq_false h; omega
      rw [if_neg hms, List.append_nil]
      exact ⟨_, _, _, rfl, g2.trans g3, tp2.trans g3.tp, hL3, by omega⟩
  · obtain ⟨d4, d5, d6, rfl, g2, tp2, hL, hLl⟩ := hp
    rw [List.length_map] at hL hLl
    walk_at "go"
    refine q pl H2 _ g2 pln hL (by have := hml.1; omega) (fun n z => mem_lookN.trans ⟨fun h => h.2, fun h => ⟨?_, h⟩⟩)
    obtain ⟨m, hm, _⟩ := h
    exact (List.getElem?_eq_some_iff.mp hm).1
end
end Sr
/-! SrR: pieces looked at. -/
namespace Sr
open PySem PySem.Spec PyProof.Rows L2
local macro_rules | `(tactic| walk_at "tp") => `(tactic| first
  | exact Tp.refl _
  | assumption
  | exact Gr.tp (by assumption)
  | (refine Tp.trans ?_ (by first | assumption | exact Gr.tp (by assumption)); walk_at "tp"))
local macro_rules | `(tactic| walk_at "gr") => `(tactic| first
  | exact Gr.refl _ _
  | assumption
  | exact Gr.any (by assumption)
  | (refine Gr.trans ?_ (by first | assumption | exact Gr.any (by assumption)); walk_at "gr"))
local macro_rules | `(tactic| walk_at "rep") => `(tactic| first
  | exact Rep.int _ | exact Rep.str _ | exact Rep.bl _ | exact Rep.non
  | assumption
  | (refine Rep.mono ?_ (by assumption); walk_at "tp"))
local macro_rules | `(tactic| walk_at "repl") => `(tactic| repeat first
  | exact RepL.nil
  | (apply RepL.cons; (· walk_at "rep")))
local macro_rules | `(tactic| walk_at "step") => `(tactic| first
  | ((with_reducible apply w_var); rfl)
  | (with_reducible apply w_c)
  | (with_reducible apply w_op)
  | (with_reducible apply w_I0)
  | ((with_reducible apply w_ix); (· assumption); (· walk_at "tp"); (· decide); (· rfl); (intro x hx; first | (have e := Rep.intI hx; subst e; clear hx) | (have e := Rep.strI hx; subst e; clear hx) | (have e := Rep.blI hx; subst e; clear hx) | skip))
  | ((with_reducible apply w_ixU); (· assumption); (· walk_at "tp"); (· decide); (· rfl))
  | (with_reducible apply w_eqS)
  | (with_reducible apply w_eqI)
  | (with_reducible apply w_eqB)
  | (with_reducible apply w_neB)
  | (with_reducible apply w_test)
  | (with_reducible apply w_tB)
  | (with_reducible apply w_and)
  | (with_reducible apply w_or)
  | (with_reducible apply w_not)
  | (with_reducible apply w_nil)
  | (with_reducible apply w_cons)
  | (with_reducible apply w_CB)
  | (with_reducible apply w_call)
  | (with_reducible apply w_seq)
  | (with_reducible apply w_asg)
  | (with_reducible apply w_gname)
  | (with_reducible apply w_drop)
  | (with_reducible apply w_ret)
  | (with_reducible apply w_ifS)
  | (with_reducible apply w_next)
  | (with_reducible apply w_ifE)
  | (with_reducible apply w_andV)
  | (with_reducible apply w_orV)
  | (with_reducible apply w_notV)
  | (with_reducible apply w_tupE)
  | (with_reducible apply w_lstE)
  | (with_reducible apply w_bl)
  | ((with_reducible apply w_aug); rfl)
  | (with_reducible apply w_ip)
  | (with_reducible apply w_for1)
  | (with_reducible apply w_for2)
  | (with_reducible apply w_forT)
  | (with_reducible apply w_forL)
  | ((with_reducible apply w_lenD); (· assumption); (· walk_at "tp"))
  | (with_reducible apply w_min)
  | (with_reducible apply w_intI)
  | (with_reducible apply w_intB)
  | ((with_reducible apply w_I); (· first | decide | exact (by decide : (1000 : Int) ≠ 0) | exact ⟨by decide, by decide⟩ | exact ⟨by decide, by decide, by decide⟩ | exact .inr ⟨by decide, by decide⟩ | exact .inl ⟨by decide, by decide⟩))
  | (with_reducible apply w_bm)
  | (with_reducible apply w_bm0)
  | ((with_reducible apply w_tyL); (· assumption))
  | (with_reducible apply w_gsub)
  | (with_reducible apply w_fld)
  | (with_reducible apply w_gcons)
  | (with_reducible apply w_gnil)
  | ((with_reducible apply w_gtup); (· assumption); (· walk_at "tp"); (· rfl))
  | (with_reducible apply w_meth)
  | (with_reducible apply w_lc1)
  | (with_reducible apply w_lcL)
  | (with_reducible apply w_lcT)
  | (with_reducible apply w_yes)
  | (with_reducible apply w_m1)
  | (with_reducible apply w_dnotin)
  | (with_reducible apply w_din)
  | (with_reducible apply w_dget)
  | (with_reducible apply w_dput)
  | ((with_reducible apply w_ixL); (· assumption); (· decide); (· rfl)))
local macro_rules | `(tactic| walk_at "go") => `(tactic| repeat walk_at "step")
local macro_rules | `(tactic| walk_at "set") => `(tactic| dsimp only [List.set_cons_succ, List.set_cons_zero])

/-- r' is a piece that a look of r puts -/
def Pc (ac : Bool) (mvs : List Mv) (r r' : Rg) : Prop := ∃ s o m z, Reach mvs (ext ac r) s o ∧ m ∈ mvs ∧ m.o = s ∧ m.l ≤ z ∧ z ≤ m.m ∧ o + z ≤ ext ac r ∧ r' = piece ac r m.p o z
def PcOf (ps : List Part) (r r' : Rg) : Prop := match ps[r.n]? with
  | some (.strip ac _ _ e) => Pc ac (machineOf e).mvs r r'
  | _ => False
/-- the machines of all strips are small -/
def WayOk (ps : List Part) : Prop := ∀ p ∈ ps, match p with | .strip _ _ _ e => MvL (machineOf e).mvs | _ => True
section
variable {P : Program} {w : World} {K : PySem.W.Frag} {mg : Str → Option Value} {base : Heap}
theorem LD.getI {H : Hp} {vs : List V} {ds : List PD} {i : Nat} {x : V} (h : RepL H ds vs) (e : vs[i]? = some x) : ∃ d, ds[i]? = some d ∧ Rep H d x := by
  have hi := (List.getElem?_eq_some_iff.mp e).1
  have hd : ds[i]? = some (ds[i]'(by rw [h.length]; exact hi)) := List.getElem?_eq_getElem _
  obtain ⟨x', h1, h2⟩ := h.get hd
  rw [e] at h1
  cases h1
  exact ⟨_, hd, h2⟩
theorem map_getI {α : Type} {f : α → PD} {L : List α} {i : Nat} {d : PD} (h : (L.map f)[i]? = some d) : ∃ x, L[i]? = some x ∧ d = f x := by
  rw [List.getElem?_map] at h
  cases e : L[i]? with
  | none => rw [e] at h; cases h
  | some x => rw [e] at h; cases h; exact ⟨x, rfl, rfl⟩
theorem take_get {α : Type} {L : List α} {i : Nat} {x : α} (h : L[i]? = some x) : L.take (i + 1) = L.take i ++ [x] := by rw [List.take_succ, h]; rfl
def spPiecesLooked : Sp := fun vs H Q _ => ∃ (v0 v1 v2 : V) (ac : Bool) (nm jt : Str) (e : Ex) (mvs : List Mv) (r : Rg), vs = [v0, v1, v2] ∧ Rep H (encPart (.strip ac nm jt e)) v0 ∧ Rep H (.tuple (mvs.map encMv)) v1 ∧ Rep H (encRg r) v2 ∧ MvL mvs ∧ ext ac r ≤ 8 ∧
  ∀ (a : Addr) (H' : Hp) (L : List Rg), Gr S0 H H' → H a = none → LD H' a (L.map encRg) → L.length ≤ 2000000 → (∀ r', r' ∈ L ↔ Pc ac mvs r r') → Q (.ref a) H'
theorem sc_pieces_looked_at : FnScope ["part", "moves", "region", "far", "found", "state", "offset", "number", "size"] ["part", "moves", "region"] (defScope (top 18)) := ⟨rfl, rfl, rfl, by decide +kernel, rfl, by decide +kernel, by decide +kernel⟩
theorem ok_pieces_looked_at (R : Raw K mg "pieces_looked_at" (top 18) ["part", "moves", "region"]) (B : Bi mg) (D_extent : Def P w K mg base 1 "extent" ["part", "region"] spExtent) (D_reached : Def P w K mg base 1 "reached" ["moves", "far"] spReached) (D_looks_at : Def P w K mg base 1 "looks_at" ["moves", "state", "left"] spLooksAt) (D_piece : Def P w K mg base 1 "piece" ["part", "region", "offset", "number", "size"] spPiece) : Def P w K mg base 2 "pieces_looked_at" ["part", "moves", "region"] spPiecesLooked := by
  refine R.ok sc_pieces_looked_at (fun vs H Q E h => ?_) (fun f cdv A outer s H vs Q E hr h => ?_)
  · obtain ⟨_, _, _, _, _, _, _, _, _, rfl, _⟩ := h; rfl
  obtain ⟨v0, v1, v2, ac, nm, jt, e, mvs, r, rfl, h0, h1, h2, hml, hf, q⟩ := h
  refine ⟨_, (pss_cons (ps_set (i := 3) sc_pieces_looked_at.nd rfl (.inl rfl) (pe_d D_extent hr (by rfl) (pa_cons (pv 0) (pa_cons (pv 2) pa_nil))))
    (pss_cons (ps_set (i := 4) sc_pieces_looked_at.nd rfl (.inl rfl) (pe_lst pa_nil))
    (pss_cons (ps_for PassesOwn.never rfl (pi_list (pe_d D_reached hr (by rfl) (pa_cons (pv 1) (pa_cons (pv 3) pa_nil)))) (pg_tup rfl (pgs_cons (pg_name (i := 5) sc_pieces_looked_at.nd rfl (.inl rfl)) (pgs_cons (pg_name (i := 6) sc_pieces_looked_at.nd rfl (.inl rfl)) pgs_nil)))
      (pss_one (ps_for PassesOwn.never rfl (pi_list (pe_d D_looks_at hr (by rfl) (pa_cons (pv 1) (pa_cons (pv 5) (pa_cons (pe_op op_sub (pv 3) (pv 6)) pa_nil))))) (pg_tup rfl (pgs_cons (pg_name (i := 7) sc_pieces_looked_at.nd rfl (.inl rfl)) (pgs_cons (pg_name (i := 8) sc_pieces_looked_at.nd rfl (.inl rfl)) pgs_nil)))
        (pss_one (ps_expr (pe_bm PySem.F.plainAttrs_list PySem.F.slot_list_append PySem.F.type_list_append mt_append (pv 4) (pa_cons (pe_d D_piece hr (by rfl) (pa_cons (pv 0) (pa_cons (pv 2) (pa_cons (pv 6) (pa_cons (pe_ix (ix_sq (K := K) rfl) (pe_ix (ix_sq (K := K) rfl) (pv 1) (pv 7) (fun _ _ => rfl)) pe_int (fun _ _ => rfl)) (pa_cons (pv 8) pa_nil)))))) pa_nil)))))))
    (pss_one (ps_ret (pv 4)))))), ?_⟩
  walk_at "go"
  refine ⟨v0, v2, ac, nm, jt, e, r, rfl, h0, h2, ?_⟩
  walk_at "go"
  refine lst_new (Nat.zero_le _) fun fl H1 fln hfl g1 => ?_
  walk_at "go"
  refine ⟨v1, mvs, ext ac r, rfl, h1.mono g1.tp, hml, hf, fun ra H2 SL g2 ran hSL hSLl hSLm hSLp => ?_⟩
  obtain ⟨svs, hsl, hsr⟩ := hSL
  have raf : ra ≠ fl := fun z => by subst z; rw [hfl] at ran; cases ran
  have G2 := g1.trans g2
  refine forL (SqL.of hsl) (fun i σ H' => ∃ d5 d6 d7 d8, σ = [some v0, some v1, some v2, some (.int (ext ac r)), some (.ref fl), d5, d6, d7, d8] ∧ Gr (S1 fl) H2 H' ∧ ∃ L : List Rg, LD H' fl (L.map encRg) ∧ L.length ≤ 1000 * i ∧ ∀ r', r' ∈ L ↔ ∃ s o m z, (s, o) ∈ SL.take i ∧ m ∈ mvs ∧ m.o = s ∧ m.l ≤ z ∧ z ≤ m.m ∧ o + z ≤ ext ac r ∧ r' = piece ac r m.p o z) ⟨_, _, _, _, rfl, Gr.refl _ _, [], ⟨[], g2.lst id hfl, .nil⟩, Nat.le_refl _, fun r' => by simp⟩ (fun i σ H' hp => by obtain ⟨_, _, _, _, _, g, _⟩ := hp; exact SqL.of (g.lst (fun z => raf z) hsl)) (fun i x σ H3 hi hp => ?_) (fun σ H3 hp => ?_)
  · obtain ⟨d5, d6, d7, d8, rfl, g3, L, hL, hLl, hLm⟩ := hp
    obtain ⟨d, hd, hx⟩ := LD.getI hsr hi
    obtain ⟨⟨s, o⟩, hso, rfl⟩ := map_getI hd
    have et := take_get hso
    have hso' := (hSLm s o).mp (List.mem_of_getElem? hso)
    have hol : o ≤ ext ac r := hso'.le
    have hx3 := hx.mono g3.tp
    rw [et]
    walk_at "go"
    refine w_gtupD (ds := [.int s, .int o]) hx3 (Tp.refl _) rfl (fun us hus => ?_)
    cases hus with
    | cons q0 hus => cases hus with
    | cons q1 hus => cases hus with
    | nil =>
    have := Rep.intI q0; subst this
    have := Rep.intI q1; subst this
    walk_at "go"
    have e1 : (ext ac r : Int) - (o : Int) = ((ext ac r - o : Nat) : Int) := by omega
    rw [e1]
    have G3 : Gr S0 H H3 := G2.local g3 fun a z => by rw [show a = fl from z]; exact fln
    refine ⟨v1, mvs, s, ext ac r - o, rfl, h1.mono G3.tp, hml, by omega, fun la H4 KL g4 lan hKL hKLl hKLm => ?_⟩
    obtain ⟨kvs, hkl, hkr⟩ := hKL
    have laf : la ≠ fl := fun z => by subst z; obtain ⟨_, h, _⟩ := hL; rw [h] at lan; cases lan
    have hL4 := hL.gr g4 id
    refine forL (SqL.of hkl) (fun j σ H' => ∃ d7 d8, σ = [some v0, some v1, some v2, some (.int (ext ac r)), some (.ref fl), some (.int (s : Nat)), some (.int (o : Nat)), d7, d8] ∧ Gr (S1 fl) H4 H' ∧ ∃ L' : List Rg, LD H' fl (L'.map encRg) ∧ L'.length ≤ 1000 * i + j ∧ ∀ r', r' ∈ L' ↔ (r' ∈ L ∨ ∃ n m z, (n, z) ∈ KL.take j ∧ mvs[n]? = some m ∧ r' = piece ac r m.p o z)) ⟨_, _, rfl, Gr.refl _ _, L, hL4, hLl, fun r' => by simp⟩ (fun i σ H' hp => by obtain ⟨_, _, _, g, _⟩ := hp; exact SqL.of (g.lst (fun z => laf z) hkl)) (fun j x σ H5 hj hp => ?_) (fun σ H5 hp => ?_)
    · obtain ⟨d7, d8, rfl, g5, L', ⟨lvs, hL5, hr5⟩, hLl', hLm'⟩ := hp
      obtain ⟨d, hd, hx⟩ := LD.getI hkr hj
      obtain ⟨⟨n, z⟩, hnz, rfl⟩ := map_getI hd
      have et := take_get hnz
      obtain ⟨m, hm, hms, hz1, hz2, hz3⟩ := (hKLm n z).mp (List.mem_of_getElem? hnz)
      have hx5 := hx.mono g5.tp
      have hnl := (List.getElem?_eq_some_iff.mp hm).1
      have hjl := (List.getElem?_eq_some_iff.mp hnz).1
      have hil := (List.getElem?_eq_some_iff.mp hso).1
      have hv5 := h1.mono (G3.tp.trans (g4.tp.trans g5.tp))
      have hp5 := h0.mono (G3.tp.trans (g4.tp.trans g5.tp))
      have hr5' := h2.mono (G3.tp.trans (g4.tp.trans g5.tp))
      rw [et]
      walk_at "go"
      refine w_gtupD (ds := [.int n, .int z]) hx5 (Tp.refl _) rfl (fun us hus => ?_)
      cases hus with
      | cons q0 hus => cases hus with
      | cons q1 hus => cases hus with
      | nil =>
      have := Rep.intI q0; subst this
      have := Rep.intI q1; subst this
      walk_at "go"
      refine w_ix hv5 (Tp.refl _) (by omega) (by rw [Int.toNat_natCast, List.getElem?_map, hm]; rfl) (fun y hy => ?_)
      change Rep H5 (.tuple [.int m.o, .int m.t, .int m.p, .int m.l, .int m.m, .int m.c]) y at hy
      walk_at "go"
      refine ⟨v0, v2, ac, nm, jt, e, r, o, m.p, z, rfl, hp5, hr5', fun y H6 g6 hy6 => ?_⟩
      walk_at "go"
      have hL6 := g6.lst id hL5
      refine w_append hL6 (small6 ?_) ⟨_, _, rfl, (g5.trans g6.any).setL (.inr rfl) hL6, L' ++ [piece ac r m.p o z], ?_, ?_, fun r' => ?_⟩
      · rw [← hr5.length, List.length_map]; omega
      · rw [List.map_append]
        exact LD.push hL6 (hr5.mono g6.tp) hy6
      · rw [List.length_append, List.length_singleton]; omega
      · rw [List.mem_append, hLm', List.mem_singleton]
        constructor
        · rintro ((h | ⟨n', m', z', h1, h2⟩) | rfl)
          · exact .inl h
          · exact .inr ⟨n', m', z', List.mem_append_left _ h1, h2⟩
          · exact .inr ⟨n, m, z, List.mem_append_right _ (List.mem_singleton.mpr rfl), hm, rfl⟩
        · rintro (h | ⟨n', m', z', h1, h2, h3⟩)
          · exact .inl (.inl h)
          · rcases List.mem_append.mp h1 with h1 | h1
            · exact .inl (.inr ⟨n', m', z', h1, h2, h3⟩)
            · have := List.mem_singleton.mp h1
              cases this
              rw [hm] at h2
              cases h2
              exact .inr h3
    · obtain ⟨d7, d8, rfl, g5, L', hL5, hLl', hLm'⟩ := hp
      have hkl' : kvs.length = KL.length := by rw [← hkr.length, List.length_map]
      rw [hkl', List.take_length] at hLm'
      have g35 : Gr (S1 fl) H3 H5 := g4.any.trans g5
      refine ⟨_, _, _, _, rfl, g3.trans g35, L', hL5, by omega, fun r' => ?_⟩
      rw [hLm', hLm]
      constructor
      · rintro (⟨s', o', m', z', h1, h2⟩ | ⟨n, m, z, h1, h2, h3⟩)
        · exact ⟨s', o', m', z', List.mem_append_left _ h1, h2⟩
        · obtain ⟨m', hm', e1, e2, e3, e4⟩ := (hKLm n z).mp h1
          rw [h2] at hm'
          cases hm'
          exact ⟨s, o, m, z, List.mem_append_right _ (List.mem_singleton.mpr rfl), List.mem_of_getElem? h2, e1, e2, e3, by omega, h3⟩
      · rintro ⟨s', o', m', z', h1, h2, h3, h4, h5, h6, h7⟩
        rcases List.mem_append.mp h1 with h1 | h1
        · exact .inl ⟨s', o', m', z', h1, h2, h3, h4, h5, h6, h7⟩
        · have := List.mem_singleton.mp h1
          cases this
          obtain ⟨n, hn⟩ := List.mem_iff_getElem?.mp h2
          exact .inr ⟨n, m', z', (hKLm n z').mpr ⟨m', hn, h3, h4, h5, by omega⟩, hn, h7⟩
  · obtain ⟨d5, d6, d7, d8, rfl, g3, L, hL, hLl, hLm⟩ := hp
    have hsl' : svs.length = SL.length := by rw [← hsr.length, List.length_map]
    rw [hsl', List.take_length] at hLm
    walk_at "go"
    refine q fl H3 L (G2.local g3 fun a z => by rw [show a = fl from z]; exact fln) fln hL (by omega) (fun r' => (hLm r').trans ⟨?_, ?_⟩)
    · rintro ⟨s, o, m, z, h1, h2⟩
      exact ⟨s, o, m, z, (hSLm s o).mp h1, h2⟩
    · rintro ⟨s, o, m, z, h1, h2⟩
      exact ⟨s, o, m, z, (hSLm s o).mpr h1, h2⟩
def spLooksOf : Sp := fun vs H Q _ => ∃ (v0 v1 v2 : V) (ps : List Part) (r : Rg), vs = [v0, v1, v2] ∧ Rep H (partsD ps) v0 ∧ Rep H (waysD ps) v1 ∧ Rep H (encRg r) v2 ∧ WayOk ps ∧ r.n < ps.length ∧ r.w ≤ 8 ∧ r.h ≤ 8 ∧
  ∀ (a : Addr) (H' : Hp) (L : List Rg), Gr S0 H H' → H a = none → LD H' a (L.map encRg) → L.length ≤ 2000000 → (∀ r', r' ∈ L ↔ PcOf ps r r') → Q (.ref a) H'
theorem sc_looks_of : FnScope ["parts", "table", "region", "part"] ["parts", "table", "region"] (defScope (top 19)) := ⟨rfl, rfl, rfl, by decide +kernel, rfl, by decide +kernel, by decide +kernel⟩
theorem ok_looks_of (R : Raw K mg "looks_of" (top 19) ["parts", "table", "region"]) (B : Bi mg) (D_is_strip : Def P w K mg base 2 "is_strip" ["part"] spIsStrip) (D_pieces_looked_at : Def P w K mg base 2 "pieces_looked_at" ["part", "moves", "region"] spPiecesLooked) : Def P w K mg base 3 "looks_of" ["parts", "table", "region"] spLooksOf := by
  refine R.ok sc_looks_of (fun vs H Q E h => ?_) (fun f cdv A outer s H vs Q E hr h => ?_)
  · obtain ⟨_, _, _, _, _, rfl, _⟩ := h; rfl
  obtain ⟨v0, v1, v2, ps, r, rfl, h0, h1, h2, hw, hn, hrw, hrh, q⟩ := h
  refine ⟨_, (pss_cons (ps_set (i := 3) sc_looks_of.nd rfl (.inl rfl) (pe_ix (ix_sq (K := K) rfl) (pv 0) (pe_ix (ix_sq (K := K) rfl) (pv 2) pe_int (fun _ _ => rfl)) (fun _ _ => rfl)))
    (pss_cons (ps_if (pt_not (pt_val (pe_d D_is_strip hr (by rfl) (pa_cons (pv 3) pa_nil))))
      (pss_one (ps_ret (pe_lst pa_nil)))
      pss_nil)
    (pss_one (ps_ret (pe_d D_pieces_looked_at hr (by rfl) (pa_cons (pv 3) (pa_cons (pe_ix (ix_sq (K := K) rfl) (pe_ix (ix_sq (K := K) rfl) (pv 1) (pe_ix (ix_sq (K := K) rfl) (pv 2) pe_int (fun _ _ => rfl)) (fun _ _ => rfl)) pe_int (fun _ _ => rfl)) (pa_cons (pv 2) pa_nil)))))))), ?_⟩
  walk_at "go"
  have hpn : ps[r.n]? = some ps[r.n] := List.getElem?_eq_getElem hn
  change Rep H (.tuple (ps.map encPart)) v0 at h0
  change Rep H (.tuple (ps.map encWay)) v1 at h1
  change Rep H (.tuple [.int r.n, .int r.x, .int r.y, .int r.w, .int r.h]) v2 at h2
  walk_at "go"
  refine w_ix h0 (Tp.refl _) (by omega) (by rw [Int.toNat_natCast, List.getElem?_map, hpn]; rfl) (fun y hy => ?_)
  have hwp := hw ps[r.n] (List.getElem_mem _)
  have hpc : PcOf ps r = fun r' => match some ps[r.n] with | some (.strip ac _ _ e) => Pc ac (machineOf e).mvs r r' | _ => False := by
    unfold PcOf; rw [hpn]
  rw [hpc] at q
  walk_at "go"
  refine ⟨y, ps[r.n], rfl, hy, fun H1 g1 => ?_⟩
  cases ep : ps[r.n] with
  | plain nm lb c b =>
    rw [ep] at q
    refine ⟨_, rfl, if_of (fun _ => ?_) (fun h => by cases h)⟩
    walk_at "go"
    refine lst_new (Nat.zero_le _) fun fl H2 fln hfl g2 => ?_
    exact q fl H2 [] (g1.trans g2) (g1.nn _ fln) ⟨[], hfl, .nil⟩ (Nat.zero_le _) (fun r' => by simp)
  | shape nm lb c rows =>
    rw [ep] at q
    refine ⟨_, rfl, if_of (fun _ => ?_) (fun h => by cases h)⟩
    walk_at "go"
    refine lst_new (Nat.zero_le _) fun fl H2 fln hfl g2 => ?_
    exact q fl H2 [] (g1.trans g2) (g1.nn _ fln) ⟨[], hfl, .nil⟩ (Nat.zero_le _) (fun r' => by simp)
  | strip ac nm jt e =>
    rw [ep] at q hwp hy
    refine ⟨_, rfl, if_of (fun h => by cases h) (fun _ => ?_)⟩
    have h1' := h1.mono g1.tp
    walk_at "go"
    refine w_ix h1' (Tp.refl _) (by omega) (by rw [Int.toNat_natCast, List.getElem?_map, hpn, ep]; rfl) (fun z hz => ?_)
    change Rep H1 (.tuple [.tuple ((machineOf e).ends.map PyData.bool), .tuple ((machineOf e).mvs.map encMv)]) z at hz
    walk_at "go"
    refine ⟨_, _, _, ac, nm, jt, e, (machineOf e).mvs, r, rfl, hy.mono g1.tp, by assumption, h2.mono g1.tp, hwp, ?_, fun a H' L g an hL hLl hLm => q a H' L (g1.trans g) (g1.nn _ an) hL hLl hLm⟩
    unfold ext
    cases ac
    · exact hrh
    · exact hrw
end
end Sr
/-! SrS: dicts with tuple keys: a display of one pair, sorted. -/
namespace Sr
open PySem PySem.Spec PyProof.Rows L2
/-! ### {t: v} -/
def tDisp1T (tk tv : TE) : TE := fun σ H Q => ∀ p, H p = none → tk σ (upd H p (.dT [])) fun x H1 => tv σ H1 fun y H2 => H2 p = some (.dT []) ∧ ∃ (b : Addr) (k : List L2.Key), x = .ref b ∧ H2 b = some (.tup (k.map kV)) ∧ Q (.ref p) (upd H2 p (.dT [(k, y)]))
def rDNotIn (x y : V) (H : Hp) (Q : VK) : Prop := ∃ a o, x = .ref a ∧ DGet H a y o ∧ Q (.bl (!o.isSome)) H
def rDIn (x y : V) (H : Hp) (Q : VK) : Prop := ∃ a o, x = .ref a ∧ DGet H a y o ∧ Q (.bl o.isSome) H
def rDGet (x y : V) (H : Hp) (Q : VK) : Prop := ∃ a v, x = .ref a ∧ DGet H a y (some v) ∧ Q v H
def rDPut (x y v : V) (H : Hp) (N : Hp → Prop) : Prop := ∃ a H4, x = .ref a ∧ DPut H a y v H4 ∧ N H4
section
variable {σ : L2.St} {H : Hp} {Q : VK} {td ty tk tv : TE} {D : Ends}
theorem w_dnotin (q : ty σ H fun y H1 => td σ H1 fun x H2 => rDNotIn x y H2 Q) : tDNotIn ty td σ H Q := q
theorem w_din (q : ty σ H fun y H1 => td σ H1 fun x H2 => rDIn x y H2 Q) : tDIn ty td σ H Q := q
theorem w_dget (q : td σ H fun x H1 => ty σ H1 fun y H2 => rDGet x y H2 Q) : tDGet td ty σ H Q := q
theorem w_dput (q : tv σ H fun v H1 => td σ H1 fun x H2 => ty σ H2 fun y H3 => rDPut x y v H3 (D.nx σ)) : sDPut td ty tv D σ H := q
theorem w_disp1T (q : ∀ p, H p = none → tk σ (upd H p (.dT [])) fun x H1 => tv σ H1 fun y H2 => H2 p = some (.dT []) ∧ ∃ (b : Addr) (k : List L2.Key), x = .ref b ∧ H2 b = some (.tup (k.map kV)) ∧ Q (.ref p) (upd H2 p (.dT [(k, y)]))) : tDisp1T tk tv σ H Q := q
theorem w_dnewT (q : ∀ p H', H p = none → H' p = some (.dT []) → Gr S0 H H' → Q (.ref p) H') : tDNewT σ H Q := fun p hp => q p _ hp upd_same (Gr.new hp)
end
theorem pe_disp1T {X : Cx} {pos : Pos} {ek ev : Expr} {tk tv : TE} (hu : X.A.units + 1 < cLine) (hk : PE X ek tk) (hv : PE X ev tv) : PE X (.Dict [some ek] [ev] pos) (tDisp1T tk tv) := by
  refine ⟨fun pins s σ H Q I q => ?_⟩
  have hn := I.hok.fresh (Nat.le_refl s.heap.objs.size)
  have I1 := I.laid (a := s.heap.objs.size) (o := .dT []) (h' := s.heap.push { cls := .type "dict", data := .dict #[] }) (t' := s.toks) (fun _ _ q => Heap.get?_push_of_some _ q) (Nat.le_refl _) (dt_empty s.heap I.big)
  refine wpAny_Dict_any (by rfl) (by rfl) (by simp) (by show 1 ≤ 15; decide) (pairTrees_cons_walk (thn (hk.run pins _ σ _ _ I1 (q _ hn)) fun u s1 ⟨x, H1, I2, rx, q1⟩ => thn (hv.run pins s1 σ H1 _ I2 q1) fun w2 s2 ⟨y, H2, I3, ry, e, b, k, ex, eb, q2⟩ => pairTrees_nil_walk ?_))
  subst ex
  cases (show u = Value.ref b from rx)
  obtain ⟨z, hd, xs, rel, dd⟩ := dt_of I3.hok e
  cases rel
  unfold storeAll
  rw [List.forIn_cons]
  have hu2 : X.A.units < cLine := by omega
  refine wpAny_bind (wpAny_bind (wpAny_dictSet_heap (hsz := Nat.zero_le _) (knd := tupleKind (mixKind X.prog X.w)) hu2 (key_of I3.hok eb) dd fun h' dd' hs => wpAny_pure ?_))
  show wpAny _ _ (pure PUnit.unit) _ _ _
  refine wpAny_pure ?_
  obtain ⟨qo, es, ep, hq, h2, h3, h4, _, h5⟩ := dd'
  refine ⟨.ref s.heap.objs.size, _, d_write (ob := .dT [(k, y)]) I3 (by rw [e]; exact True.intro) hs ⟨qo, hq⟩ ⟨by show 1 ≤ sizeLine; decide, hd, _, ?_, qo, es, ep, hq, h2, h3, h4, h5⟩, rfl, q2⟩
  refine .cons ⟨rfl, ?_, ry⟩ .nil
  show upd H2 _ _ b = _
  rw [upd_ne (ne_of eb e (fun z => nomatch z))]
  exact eb
/-! ### sorted(d), the keys tuples of ints -/
def intsK (k : List Int) : List L2.Key := k.map Sum.inl
theorem kV_ints (k : List Int) : (intsK k).map kV = k.map V.int := by
  unfold intsK
  rw [List.map_map]; rfl
theorem perm_inv {α β : Type} {f : α → β} : ∀ {l : List β} {xs : List α}, l.Perm (xs.map f) → ∃ L : List α, L.Perm xs ∧ l = L.map f
  | [], xs, h => by
    have : xs = [] := by
      have := h.length_eq
      rw [List.length_nil, List.length_map] at this
      exact List.length_eq_zero_iff.mp this.symm
    subst this
    exact ⟨[], .nil, rfl⟩
  | a :: l, xs, h => by
    have ha : a ∈ xs.map f := h.mem_iff.mp (List.mem_cons_self ..)
    obtain ⟨x, hx, rfl⟩ := List.mem_map.mp ha
    obtain ⟨s, t, rfl⟩ := List.append_of_mem hx
    have h' : l.Perm ((s ++ t).map f) := by
      have h1 : (f x :: l).Perm (f x :: (s ++ t).map f) := h.trans (by
        rw [List.map_append, List.map_cons, List.map_append]
        exact List.perm_middle)
      exact (List.perm_cons _).mp h1
    obtain ⟨L, hL, e⟩ := perm_inv h'
    exact ⟨x :: L, (hL.cons x).trans List.perm_middle.symm, by rw [e]; rfl⟩
def intsI (k : List Int) : List (Int ⊕ List Nat) := k.map Sum.inl
theorem tupItems_ints : ∀ (k : List Int) (us : List Value) (i : Nat), Vals (k.map V.int) us → tupItems (fun _ => false) i us = some (intsI k)
  | [], _, _, .nil => rfl
  | n :: k, _, i, .cons r t => by
    obtain ⟨tk, rfl⟩ := r
    simp only [tupItems, Bool.false_eq_true, if_false, tupItems_ints k _ (i + 1) t]
    rfl
theorem rows_of {H : Hp} : ∀ {kvs : List (List L2.Key × V)} {xs : List (List L2.Key × Addr × Value)} {ks : List (List Int)}, KT H kvs xs → kvs.map (·.1) = ks.map intsK →
    ∃ ys : List (List Int × Addr), xs.map (·.2.1) = ys.map (·.2) ∧ ys.map (·.1) = ks ∧ ∀ y ∈ ys, H y.2 = some (.tup (y.1.map V.int))
  | [], _, [], .nil, _ => ⟨[], rfl, rfl, fun _ h => absurd h (by simp)⟩
  | p :: kvs, x :: xs, k :: ks, .cons h t, e => by
    rw [List.map_cons, List.map_cons] at e
    injection e with e1 e2
    obtain ⟨ys, h1, h2, h3⟩ := rows_of t e2
    refine ⟨(k, x.2.1) :: ys, by rw [List.map_cons, List.map_cons, h1], by rw [List.map_cons, h2], fun y hy => ?_⟩
    rcases List.mem_cons.mp hy with rfl | hy
    · have := h.2.1
      rw [e1, kV_ints] at this
      exact this
    · exact h3 y hy
def rSortKT : List V → Hp → VK → Prop := fun xs H Q => ∃ (a : Addr) (kvs : List (List L2.Key × V)) (ks : List (List Int)), xs = [.ref a] ∧ H a = some (.dT kvs) ∧ kvs.map (·.1) = ks.map intsK ∧ (∀ k ∈ ks, k ≠ []) ∧
  ∀ (L : List (List Int × Addr)) (p : Addr), (L.map (·.1)).Perm ks → (∀ x ∈ L, H x.2 = some (.tup (x.1.map V.int))) → L.Pairwise (fun x y => x.1.headD 0 ≤ y.1.headD 0) → H p = none → Q (.ref p) (upd H p (.lst (L.map fun x => V.ref x.2)))
theorem lex_head {a b : List Int} (ha : a ≠ []) (hb : b ≠ []) (h : lexLt itemOrd (intsI b) (intsI a) = false) : a.headD 0 ≤ b.headD 0 := by
  cases a with
  | nil => exact absurd rfl ha
  | cons x r =>
    cases b with
    | nil => exact absurd rfl hb
    | cons y t =>
      have h' := (lex_false (O := itemOrd)).mp h
      have := of_decide_eq_false (show decide (y < x) = false from h'.1)
      show x ≤ y
      omega
section
variable {X : Cx}
theorem call_sortKT (hcalm : X.calm = true) : CallR X (.builtin "sorted") rSortKT := by
  intro pins s σ H xs us Q I r q
  obtain ⟨a, kvs, ks, ex, hd, hks, hne, q⟩ := q
  subst ex
  obtain ⟨u, rfl, rx⟩ := r.one
  cases rx
  obtain ⟨z, lo, xs, pr, o, es, ep, ho, hx, hdt, he, hn⟩ := (show ObjOk X.prog X.w H s.heap a (.dT kvs) from I.hok _ _ hd)
  have l1 : es.size = xs.length := size_of_entries he
  have l2 : kvs.length = xs.length := Paired.length pr
  obtain ⟨ys, y1, y2, y3⟩ := rows_of pr hks
  refine Calls.call_function_entry PyProof.Rows.kind_sorted PyProof.Rows.plain_sorted PyProof.Rows.entry_sorted (PyProof.Rows.args_sorted1 _) ?_
  unfold Builtin.«sorted»
  refine wpAny_bind (m := checkCount "sorted" 1 1 _) (wpAny_pure ?_)
  refine wpAny_bind (PySem.W.kdu_collect (A := X.A.in1) (kdl_raw lo hx hdt) (I.ok.hd hcalm) ho (by omega) fun h' tk acc hk it => ?_)
  have ea : acc.toList = ys.map fun y => Value.ref y.2 := by
    have e0 : acc.toList = xs.map fun x => Value.ref x.2.1 := by
      have hl : acc.toList.length = xs.length := by rw [Array.length_toList, it.1]; exact l1
      apply List.ext_getElem?
      intro j
      rw [List.getElem?_map]
      cases hj : acc.toList[j]? with
      | none =>
        have h1 := List.getElem?_eq_none_iff.mp hj
        rw [List.getElem?_eq_none (by omega)]
        all_goals rfl
      | some v =>
        obtain ⟨en, hen, hv⟩ := it.2 j v (by rw [← Array.getElem?_toList]; exact hj)
        have qe := entry_at he j
        rw [hen] at qe
        cases hb : xs[j]? with
        | none =>
          rw [hb] at qe
          exact nomatch (show some en = none from qe)
        | some b =>
          rw [hb] at qe
          have e2 : en = entryOfKey (tupleKind (mixKind X.prog X.w)) b := Option.some.inj qe
          rw [hv, e2]
          all_goals rfl
    rw [e0]
    have e3 : (xs.map fun x => Value.ref x.2.1) = (xs.map (·.2.1)).map Value.ref := by rw [List.map_map]; rfl
    rw [e3, y1, List.map_map]; rfl
  have hal : acc.toList.length ≤ sizeLine := by
    rw [ea, List.length_map]
    have := congrArg List.length y1
    rw [List.length_map, List.length_map] at this
    omega
  have I1 : L2.Inv X pins σ H { s with heap := h', toks := tk } := I.kept hk
  refine wpAny_bind (wpAny_newList ?_ hal)
  have hoL : (h'.push (seqObj "list" acc.toList.toArray 0)).get? h'.objs.size = some (seqObj "list" acc.toList.toArray 0) := Heap.get?_push_size _ rfl
  show wpAny _ _ _ _ _ { s with heap := h'.push (seqObj "list" acc.toList.toArray 0), toks := tk }
  have tupAt : ∀ y ∈ ys, ∃ (ob : Obj) (its : List Value) (n : Nat), Vals (y.1.map V.int) its ∧ (h'.push (seqObj "list" acc.toList.toArray 0)).get? y.2 = some ob ∧ ob.cls = .type "tuple" ∧ ob.data = .seq its.toArray n := fun y hy => by
    obtain ⟨_, its, rv, ob, h1, h2, n, h3⟩ := (show ObjOk X.prog X.w H h' y.2 (.tup (y.1.map V.int)) from I1.hok _ _ (y3 y hy))
    exact ⟨ob, its, n, rv, Heap.get?_push_of_some _ h1, h2, h3⟩
  have keyAt : ∀ y ∈ ys, G.tupKeyC (h'.push (seqObj "list" acc.toList.toArray 0)) (fun _ => false) (.ref y.2) = some (intsI y.1) := fun y hy => by
    obtain ⟨ob, its, n, rv, h1, h2, h3⟩ := tupAt y hy
    unfold G.tupKeyC
    rw [if_pos (by simp only [G.isTupObj, h1, h2]; rfl)]
    simp only [tupKey, h1, h3]
    exact tupItems_ints _ _ _ (by simpa using rv)
  have tups : ∃ fs, TupsOf (h'.push (seqObj "list" acc.toList.toArray 0)) (fun _ => false) acc.toList fs := by
    rw [ea]
    have hne' : ∀ y ∈ ys, y.1 ≠ [] := fun y hy => hne _ (by rw [← y2]; exact List.mem_map_of_mem hy)
    have tupAt' := tupAt
    rw [ea] at tupAt'
    generalize h'.push _ = hh at tupAt'
    clear keyAt hoL I1 ea y1 y2 y3 tupAt
    induction ys with
    | nil => exact ⟨[], .nil⟩
    | cons y ys ih =>
      obtain ⟨fs, hfs⟩ := ih (fun z hz => hne' z (List.mem_cons_of_mem _ hz)) (fun z hz => tupAt' z (List.mem_cons_of_mem _ hz))
      obtain ⟨ob, its, n, rv, h1, h2, h3⟩ := tupAt' y (List.mem_cons_self ..)
      have hy := hne' y (List.mem_cons_self ..)
      cases hk' : y.1 with
      | nil => exact absurd hk' hy
      | cons k r =>
        rw [hk'] at rv
        cases rv with
        | cons r1 t1 =>
          obtain ⟨t, rfl⟩ := r1
          exact ⟨_ :: fs, .cons ⟨y.2, ob, _, n, rfl, h1, h2, h3, rfl, fun _ => ⟨k, t, rfl⟩, fun h => absurd h (by simp)⟩ hfs⟩
  obtain ⟨fs, hfs⟩ := tups
  refine wpAny_bind (wpAny_holding (wpAny_call_entry PyProof.Rows.slot_list_sort ⟨_, hoL, rfl⟩ PyProof.Rows.entry_list_sort
    (G.list_sort_tups (s := { s with heap := h'.push (seqObj "list" acc.toList.toArray 0), toks := tk }) (shape := fun _ => false) hoL hfs (fun v hv => ?_) hal fun st' g1 g2 g3 => ⟨_, rfl, ?_⟩) (PyProof.Rows.args_list_sort _)))
  · rw [ea] at hv
    obtain ⟨y, hy, rfl⟩ := List.mem_map.mp hv
    exact ⟨_, keyAt y hy⟩
  obtain ⟨e', he'⟩ := PyProof.Rows.sortedHeap_at (vs := acc.toList) (out := (arrOf st').map (·.2)) hoL
  have gp : ((arrOf st').toList.map (·.2)).Perm (ys.map fun y => Value.ref y.2) := by
    have h1 : (arrOf st').toList.Perm (pairsOf acc.toList).toList := g1.toList
    have h2 := h1.map (·.2)
    rw [pairsOf_toList] at h2
    have h3 : (acc.toList.zip acc.toList).map (·.2) = acc.toList := by
      rw [List.map_snd_zip (Nat.le_refl _)]
    rw [h3, ea] at h2
    exact h2
  obtain ⟨L, hL, eL⟩ := perm_inv gp
  have hLm : ∀ x ∈ L, x ∈ ys := fun x hx => hL.mem_iff.mp hx
  have hLl : L.length ≤ sizeLine := by rw [hL.length_eq]; rw [ea, List.length_map] at hal; exact hal
  have hlen : (L.map fun x => V.ref x.2).length ≤ sizeLine := by rw [List.length_map]; exact hLl
  have hvals : Vals (L.map fun x => V.ref x.2) ((arrOf st').map (·.2)).toList := by
    rw [Array.toList_map, eL]
    clear eL hlen hLl hLm hL
    induction L with
    | nil => exact .nil
    | cons x L ih => exact .cons rfl ih
  have hpw : L.Pairwise fun x y => x.1.headD 0 ≤ y.1.headD 0 := by
    rw [List.pairwise_iff_getElem]
    intro i j hi hj hij
    have hsz : (arrOf st').size = L.length := by
      have := congrArg List.length eL
      rw [List.length_map, List.length_map, Array.length_toList] at this
      exact this
    have hps : (pairsOf acc.toList).size = L.length := by rw [← hsz]; exact g1.size_eq.symm
    have key : ∀ (n : Nat) (hn : n < L.length), KK (G.tupKindC (h'.push (seqObj "list" acc.toList.toArray 0)) fun _ => false) (arrOf st') n = intsI L[n].1 := fun n hn => by
      have hna : n < (arrOf st').size := by omega
      have hmem : (arrOf st')[n] ∈ (arrOf st').toList := by simp
      have hz := g1.toList.mem_iff.mp hmem
      rw [pairsOf_toList] at hz
      obtain ⟨e1, _⟩ := mem_zip_self hz
      have e2 : ((arrOf st').toList.map (·.2))[n]? = some (Value.ref L[n].2) := by
        rw [eL, List.getElem?_map, List.getElem?_eq_getElem hn]; rfl
      rw [List.getElem?_map, Array.getElem?_toList, Array.getElem?_eq_getElem hna] at e2
      have e3 : (arrOf st')[n].2 = Value.ref L[n].2 := Option.some.inj e2
      unfold KK
      rw [Array.getElem?_eq_getElem hna]
      show (G.tupKeyC _ _ (arrOf st')[n].1).getD _ = _
      rw [e1, e3, keyAt _ (hLm _ (List.getElem_mem _))]
      rfl
    have hs := g2 i j (Nat.le_of_lt hij) (by rw [hps]; exact hj)
    rw [key i hi, key j hj] at hs
    have hne' : ∀ (n : Nat) (hn : n < L.length), L[n].1 ≠ [] := fun n hn => hne _ (by rw [← y2]; exact List.mem_map_of_mem (hLm _ (List.getElem_mem _)))
    exact lex_head (hne' i hi) (hne' j hj) hs
  refine wpAny_pure ⟨_, rfl, .ref h'.objs.size, upd H h'.objs.size (.lst (L.map fun x => V.ref x.2)), I1.laid (t' := tk) (fun b u e => ?_) (Nat.le_refl _)
    (show ObjOk X.prog X.w _ _ _ (.lst (L.map fun x => V.ref x.2)) from ⟨hlen, ((arrOf st').map (·.2)).toList, e', hvals, by rw [Array.toArray_toList]; exact he'⟩), rfl, q L _ ?_ (fun x hx => y3 x (hLm x hx)) hpw (I1.hok.fresh (Nat.le_refl _))⟩
  · have hb : b < h'.objs.size := Heap.lt_size e
    rw [PyProof.Rows.sortedHeap_old (Nat.ne_of_lt hb) (by rw [size_push']; exact Nat.lt_succ_of_lt hb)]
    exact Heap.get?_push_of_some _ e
  · rw [← y2]; exact hL.map _
end
end Sr
/-! SrU: needed_with. -/
namespace Sr
open PySem PySem.Spec PyProof.Rows L2
local macro_rules | `(tactic| walk_at "tp") => `(tactic| first
  | exact Tp.refl _
  | assumption
  | exact Gr.tp (by assumption)
  | (refine Tp.trans ?_ (by first | assumption | exact Gr.tp (by assumption)); walk_at "tp"))
local macro_rules | `(tactic| walk_at "gr") => `(tactic| first
  | exact Gr.refl _ _
  | assumption
  | exact Gr.any (by assumption)
  | (refine Gr.trans ?_ (by first | assumption | exact Gr.any (by assumption)); walk_at "gr"))
local macro_rules | `(tactic| walk_at "rep") => `(tactic| first
  | exact Rep.int _ | exact Rep.str _ | exact Rep.bl _ | exact Rep.non
  | assumption
  | (refine Rep.mono ?_ (by assumption); walk_at "tp"))
local macro_rules | `(tactic| walk_at "repl") => `(tactic| repeat first
  | exact RepL.nil
  | (apply RepL.cons; (· walk_at "rep")))
local macro_rules | `(tactic| walk_at "step") => `(tactic| first
  | ((with_reducible apply w_var); rfl)
  | (with_reducible apply w_c)
  | (with_reducible apply w_op)
  | (with_reducible apply w_I0)
  | ((with_reducible apply w_ix); (· assumption); (· walk_at "tp"); (· decide); (· rfl); (intro x hx; first | (have e := Rep.intI hx; subst e; clear hx) | (have e := Rep.strI hx; subst e; clear hx) | (have e := Rep.blI hx; subst e; clear hx) | skip))
  | ((with_reducible apply w_ixU); (· assumption); (· walk_at "tp"); (· decide); (· rfl))
  | (with_reducible apply w_eqS)
  | (with_reducible apply w_eqI)
  | (with_reducible apply w_eqB)
  | (with_reducible apply w_neB)
  | (with_reducible apply w_test)
  | (with_reducible apply w_tB)
  | (with_reducible apply w_and)
  | (with_reducible apply w_or)
  | (with_reducible apply w_not)
  | (with_reducible apply w_nil)
  | (with_reducible apply w_cons)
  | (with_reducible apply w_CB)
  | (with_reducible apply w_call)
  | (with_reducible apply w_seq)
  | (with_reducible apply w_asg)
  | (with_reducible apply w_gname)
  | (with_reducible apply w_drop)
  | (with_reducible apply w_ret)
  | (with_reducible apply w_ifS)
  | (with_reducible apply w_next)
  | (with_reducible apply w_ifE)
  | (with_reducible apply w_andV)
  | (with_reducible apply w_orV)
  | (with_reducible apply w_notV)
  | (with_reducible apply w_tupE)
  | (with_reducible apply w_lstE)
  | (with_reducible apply w_bl)
  | ((with_reducible apply w_aug); rfl)
  | (with_reducible apply w_ip)
  | (with_reducible apply w_for1)
  | (with_reducible apply w_for2)
  | (with_reducible apply w_forT)
  | (with_reducible apply w_forL)
  | ((with_reducible apply w_lenD); (· assumption); (· walk_at "tp"))
  | (with_reducible apply w_min)
  | (with_reducible apply w_intI)
  | (with_reducible apply w_intB)
  | ((with_reducible apply w_I); (· first | decide | exact (by decide : (1000 : Int) ≠ 0) | exact ⟨by decide, by decide⟩ | exact ⟨by decide, by decide, by decide⟩ | exact .inr ⟨by decide, by decide⟩ | exact .inl ⟨by decide, by decide⟩))
  | (with_reducible apply w_bm)
  | (with_reducible apply w_bm0)
  | ((with_reducible apply w_tyL); (· assumption))
  | (with_reducible apply w_gsub)
  | (with_reducible apply w_fld)
  | (with_reducible apply w_gcons)
  | (with_reducible apply w_gnil)
  | ((with_reducible apply w_gtup); (· assumption); (· walk_at "tp"); (· rfl))
  | (with_reducible apply w_meth)
  | (with_reducible apply w_lc1)
  | (with_reducible apply w_lcL)
  | (with_reducible apply w_lcT)
  | (with_reducible apply w_yes)
  | (with_reducible apply w_m1)
  | (with_reducible apply w_dnotin)
  | (with_reducible apply w_din)
  | (with_reducible apply w_dget)
  | (with_reducible apply w_dput)
  | ((with_reducible apply w_ixL); (· assumption); (· decide); (· rfl)))
local macro_rules | `(tactic| walk_at "go") => `(tactic| repeat walk_at "step")
local macro_rules | `(tactic| walk_at "set") => `(tactic| dsimp only [List.set_cons_succ, List.set_cons_zero])

/-- a region within r0, of a part of the grammar -/
structure InR (np : Nat) (r0 r : Rg) : Prop where
  n : r.n < np
  x1 : r0.x ≤ r.x
  x2 : r.x + r.w ≤ r0.x + r0.w
  y1 : r0.y ≤ r.y
  y2 : r.y + r.h ≤ r0.y + r0.h
/-- the machines' moves lead to earlier parts -/
def PartUp (ps : List Part) : Prop := ∀ (k : Nat) (p : Part), ps[k]? = some p → match p with | .strip _ _ _ e => ∀ m ∈ (machineOf e).mvs, m.p < k | _ => True
theorem InR.refl {np : Nat} {r : Rg} (h : r.n < np) : InR np r r := ⟨h, Nat.le_refl _, Nat.le_refl _, Nat.le_refl _, Nat.le_refl _⟩
theorem pc_in {ps : List Part} {r0 r r' : Rg} (hp : PartUp ps) (h : InR ps.length r0 r) (c : PcOf ps r r') : InR ps.length r0 r' ∧ r'.n < r.n := by
  unfold PcOf at c
  cases e : ps[r.n]? with
  | none => rw [e] at c; exact absurd c id
  | some p =>
    rw [e] at c
    cases p with
    | plain => exact absurd c id
    | shape => exact absurd c id
    | strip ac nm jt ex =>
      obtain ⟨s, o, m, z, h1, h2, h3, h4, h5, h6, rfl⟩ := c
      have hm := hp r.n _ e m h2
      obtain ⟨a1, a2, a3, a4, a5⟩ := h
      unfold ext at h6
      unfold piece
      cases ac
      · rw [if_neg (by decide)] at h6 ⊢
        exact ⟨⟨by show m.p < _; omega, a2, a3, by show r0.y ≤ r.y + o; omega, by show r.y + o + z ≤ _; omega⟩, hm⟩
      · rw [if_pos rfl] at h6 ⊢
        exact ⟨⟨by show m.p < _; omega, by show r0.x ≤ r.x + o; omega, by show r.x + o + z ≤ _; omega, a4, a5⟩, hm⟩
def codeR (r0 r : Rg) : Nat := (((r.n * 9 + (r.x - r0.x)) * 9 + (r.y - r0.y)) * 9 + r.w) * 9 + r.h
theorem codeR_inj {np : Nat} {r0 r r' : Rg} (hw : r0.w ≤ 8) (hh : r0.h ≤ 8) (h : InR np r0 r) (h' : InR np r0 r') (e : codeR r0 r = codeR r0 r') : r = r' := by
  obtain ⟨a1, a2, a3, a4, a5⟩ := h
  obtain ⟨b1, b2, b3, b4, b5⟩ := h'
  unfold codeR at e
  obtain ⟨n, x, y, w, h⟩ := r
  obtain ⟨n', x', y', w', h'⟩ := r'
  simp only at *
  have e1 : h = h' := by omega
  subst e1
  have e2 : w = w' := by omega
  subst e2
  have e3 : y = y' := by omega
  subst e3
  have e4 : x = x' := by omega
  subst e4
  have e5 : n = n' := by omega
  rw [e5]
theorem codeR_lt {np : Nat} {r0 r : Rg} (hn : np ≤ 8) (hw : r0.w ≤ 8) (hh : r0.h ≤ 8) (h : InR np r0 r) : codeR r0 r < 60000 := by
  obtain ⟨a1, a2, a3, a4, a5⟩ := h
  unfold codeR
  omega
theorem few_in {np : Nat} {r0 : Rg} {ks : List Rg} (hn : np ≤ 8) (hw : r0.w ≤ 8) (hh : r0.h ≤ 8) (hk : ks.Nodup) (h : ∀ r ∈ ks, InR np r0 r) : ks.length ≤ 60000 := by
  have h1 : (ks.map (codeR r0)).Nodup := by
    refine List.pairwise_map.mpr (List.Pairwise.imp_of_mem (fun {a b} ha hb hne e => ?_) hk)
    exact hne (codeR_inj hw hh (h a ha) (h b hb) e)
  have := h1.length_le_of_subset (l₂ := List.range 60000) fun c hc => by
    obtain ⟨r, hr, rfl⟩ := List.mem_map.mp hc
    exact List.mem_range.mpr (codeR_lt hn hw hh (h r hr))
  rwa [List.length_map, List.length_range] at this
theorem rgK_inj {r r' : Rg} (h : rgK r = rgK r') : r = r' := by
  unfold rgK at h
  simp only [List.cons.injEq, Sum.inl.injEq, and_true] at h
  obtain ⟨n, x, y, w, hh⟩ := r
  obtain ⟨n', x', y', w', hh'⟩ := r'
  simp only at h
  obtain ⟨h1, h2, h3, h4, h5⟩ := h
  have : n = n' := by omega
  have : x = x' := by omega
  have : y = y' := by omega
  have : w = w' := by omega
  have : hh = hh' := by omega
  subst_vars; rfl
theorem rgAt {H : Hp} {r : Rg} {v : V} (h : Rep H (encRg r) v) : ∃ b, v = .ref b ∧ H b = some (.tup ((rgK r).map kV)) := by
  obtain ⟨b, vs, rfl, hb, hl⟩ := Rep.tupI h
  refine ⟨b, rfl, ?_⟩
  rw [hb]
  cases hl with
  | cons q0 hl => cases hl with
  | cons q1 hl => cases hl with
  | cons q2 hl => cases hl with
  | cons q3 hl => cases hl with
  | cons q4 hl => cases hl with
  | nil =>
  rw [q0.intI, q1.intI, q2.intI, q3.intI, q4.intI]
  rfl
theorem valV_isSome {κ : Type} [DecidableEq κ] {kvs : List (κ × V)} {k : κ} : (valV kvs k).isSome = true ↔ k ∈ kvs.map (·.1) := by
  unfold valV
  rw [Option.isSome_map, List.find?_isSome]
  constructor
  · rintro ⟨p, hp, e⟩
    exact List.mem_map.mpr ⟨p, hp, of_decide_eq_true e⟩
  · intro h
    obtain ⟨p, hp, e⟩ := List.mem_map.mp h
    exact ⟨p, hp, decide_eq_true e⟩
theorem putK_new {κ : Type} [DecidableEq κ] {kvs : List (κ × V)} {k : κ} {v : V} (h : k ∉ kvs.map (·.1)) : putK kvs k v = kvs ++ [(k, v)] := by
  unfold putK
  rw [if_neg]
  intro hh
  obtain ⟨p, hp, e⟩ := List.any_eq_true.mp hh
  exact h (List.mem_map.mpr ⟨p, hp, of_decide_eq_true e⟩)
theorem mem_keys {ks : List Rg} {kvs : List (List L2.Key × V)} (h : kvs.map (·.1) = ks.map rgK) (r : Rg) : rgK r ∈ kvs.map (·.1) ↔ r ∈ ks := by
  rw [h]
  constructor
  · intro hm
    obtain ⟨r', hr', e⟩ := List.mem_map.mp hm
    rw [← rgK_inj e]; exact hr'
  · exact fun hm => List.mem_map_of_mem hm
theorem valV_rg {ks : List Rg} {kvs : List (List L2.Key × V)} (h : kvs.map (·.1) = ks.map rgK) (r : Rg) : (valV kvs (rgK r)).isSome = decide (r ∈ ks) := by
  have e := (valV_isSome (kvs := kvs) (k := rgK r)).trans (mem_keys h r)
  by_cases hr : r ∈ ks
  · rw [decide_eq_true hr]; exact e.mpr hr
  · rw [decide_eq_false hr]
    cases hv : (valV kvs (rgK r)).isSome with
    | false => rfl
    | true => exact absurd (e.mp hv) hr
def rgZ (r : Rg) : List Int := [r.n, r.x, r.y, r.w, r.h]
theorem rgK_Z (r : Rg) : rgK r = intsK (rgZ r) := rfl
theorem rep_sorted {H : Hp} : ∀ {L : List (List Int × Addr)} {Ls : List Rg}, L.map (·.1) = Ls.map rgZ → (∀ x ∈ L, H x.2 = some (.tup (x.1.map V.int))) → RepL H (Ls.map encRg) (L.map fun x => V.ref x.2)
  | [], [], _, _ => .nil
  | x :: L, r :: Ls, e, h => by
    rw [List.map_cons, List.map_cons] at e
    injection e with e1 e2
    refine .cons ?_ (rep_sorted e2 fun y hy => h y (List.mem_cons_of_mem _ hy))
    have hx := h x (List.mem_cons_self ..)
    rw [e1] at hx
    exact .tup hx (.cons (.int _) (.cons (.int _) (.cons (.int _) (.cons (.int _) (.cons (.int _) .nil)))))
theorem RepL.snocI {H : Hp} : ∀ {ds : List PD} {d : PD} {vs : List V}, RepL H (ds ++ [d]) vs → ∃ vs' v, vs = vs' ++ [v] ∧ RepL H ds vs' ∧ Rep H d v
  | [], d, _, .cons h .nil => ⟨[], _, rfl, .nil, h⟩
  | _ :: ds, d, _, .cons h l => by
    obtain ⟨vs', v, e, h1, h2⟩ := RepL.snocI (ds := ds) l
    exact ⟨_ :: vs', v, by rw [e]; rfl, .cons h h1, h2⟩
abbrev SK (a b : Addr) : Addr → Prop := fun x => x = a ∨ x = b
section
variable {P : Program} {w : World} {K : PySem.W.Frag} {mg : Str → Option Value} {base : Heap}
structure NeedS (ps : List Part) (r0 : Rg) (L : List Rg) : Prop where
  base : r0 ∈ L
  ins : ∀ r ∈ L, InR ps.length r0 r
  all : ∀ r ∈ L, ∀ r', PcOf ps r r' → r' ∈ L
  up : L.Pairwise fun a b => a.n ≤ b.n
  nd : L.Nodup
def spNeeded : Sp := fun vs H Q _ => ∃ (v0 v1 v2 : V) (ps : List Part) (r0 : Rg), vs = [v0, v1, v2] ∧ Rep H (partsD ps) v0 ∧ Rep H (waysD ps) v1 ∧ Rep H (encRg r0) v2 ∧ WayOk ps ∧ PartUp ps ∧ ps.length ≤ 8 ∧ r0.n < ps.length ∧ r0.w ≤ 8 ∧ r0.h ≤ 8 ∧
  ∀ (t l : Addr) (many : Nat) (H' : Hp) (L : List Rg), Gr S0 H H' → H' t = some (.tup [.ref l, .int (many : Nat)]) → H l = none → LD H' l (L.map encRg) → L.length ≤ 60000 → NeedS ps r0 L → Q (.ref t) H'
theorem sc_needed_with : FnScope ["parts", "table", "region", "known", "todo", "many", "pieces", "other"] ["parts", "table", "region"] (defScope (top 20)) := ⟨rfl, rfl, rfl, by decide +kernel, rfl, by decide +kernel, by decide +kernel⟩
theorem ok_needed_with (R : Raw K mg "needed_with" (top 20) ["parts", "table", "region"]) (B : Bi mg) (D_looks_of : Def P w K mg base 3 "looks_of" ["parts", "table", "region"] spLooksOf) : Def P w K mg base 4 "needed_with" ["parts", "table", "region"] spNeeded := by
  refine R.ok sc_needed_with (fun vs H Q E h => ?_) (fun f cdv A outer s H vs Q E hr h => ?_)
  · obtain ⟨_, _, _, _, _, rfl, _⟩ := h; rfl
  obtain ⟨v0, v1, v2, ps, r0, rfl, h0, h1, h2, hw, hpu, hps, hn, hrw, hrh, q⟩ := h
  refine ⟨_, (pss_cons (ps_set (i := 3) sc_needed_with.nd rfl (.inl rfl) (pe_disp1T (hu_of hr) (pv 2) pe_bl))
    (pss_cons (ps_set (i := 4) sc_needed_with.nd rfl (.inl rfl) (pe_lst (pa_cons (pv 2) pa_nil)))
    (pss_cons (ps_set (i := 5) sc_needed_with.nd rfl (.inl rfl) pe_int)
    (pss_cons (ps_while PassesOwn.never (pt_truth (pv 4) (by intro _; rfl))
      (pss_cons (ps_set (i := 6) sc_needed_with.nd rfl (.inl rfl) (pe_d D_looks_of hr (by rfl) (pa_cons (pv 0) (pa_cons (pv 1) (pa_cons (pe_bm0 PySem.F.plainAttrs_list PySem.F.slot_list_pop PySem.F.type_list_pop mt_pop (pv 4)) pa_nil)))))
      (pss_cons (ps_aug (i := 5) sc_needed_with.nd rfl (.inl rfl) (pe_callB (ck_len (K := K) rfl) (by rfl) B.len bo_len (pa_cons (pv 6) pa_nil)) ip_add)
      (pss_one (ps_for PassesOwn.never rfl (pi_list (pv 6)) (pg_name (i := 7) sc_needed_with.nd rfl (.inl rfl))
        (pss_one (ps_if (pt_cmp (pc_dnotin (hu_of hr) (pv 7) (pv 3)))
          (pss_cons (ps_dput (hu_of hr) (pv 3) (pv 7) pe_bl rfl)
          (pss_one (ps_expr (pe_bm PySem.F.plainAttrs_list PySem.F.slot_list_append PySem.F.type_list_append mt_append (pv 4) (pa_cons (pv 7) pa_nil)))))
          pss_nil)))))))
    (pss_one (ps_ret (pe_tup (pa_cons (pe_callB (call_sortKT rfl) (by rfl) B.sorted bo_sorted (pa_cons (pv 3) pa_nil)) (pa_cons (pv 5) pa_nil))))))))), ?_⟩
  walk_at "go"
  refine w_disp1T fun kd kdn => ?_
  walk_at "go"
  have g0 : Gr S0 H (upd H kd (.dT [])) := Gr.new kdn
  obtain ⟨b2, rfl, hb2⟩ := rgAt h2
  refine ⟨upd_same, b2, rgK r0, rfl, g0.tp _ _ hb2, ?_⟩
  have g0' : Gr S0 H (upd (upd H kd (.dT [])) kd (.dT [(rgK r0, V.bl true)])) := g0.setT (.inl kdn) upd_same
  have hkd0 : upd (upd H kd (.dT [])) kd (.dT [(rgK r0, V.bl true)]) kd = some (.dT [(rgK r0, V.bl true)]) := upd_same
  generalize upd (upd H kd (.dT [])) kd (.dT [(rgK r0, V.bl true)]) = H1 at g0' hkd0 ⊢
  walk_at "go"
  refine lst_new (by show 1 ≤ sizeLine; decide) fun tl H2 tln htl g1 => ?_
  walk_at "go"
  have kt : kd ≠ tl := fun z => by subst z; rw [hkd0] at tln; cases tln
  have G2 := g0'.trans g1
  have hkd2 := g1.dT id hkd0
  have tlnH : H tl = none := g0'.nn _ tln
  refine ⟨fun m σ H' => ∃ (d6 d7 : Option V) (ks : List Rg) (kvs : List (List L2.Key × V)) (td : List Rg) (many : Nat), σ = [some v0, some v1, some (.ref b2), some (.ref kd), some (.ref tl), some (.int (many : Nat)), d6, d7] ∧ Gr (SK kd tl) H2 H' ∧ H' kd = some (.dT kvs) ∧ kvs.map (·.1) = ks.map rgK ∧ LD H' tl (td.map encRg) ∧ ks.Nodup ∧ r0 ∈ ks ∧ (∀ r ∈ ks, InR ps.length r0 r) ∧ (∀ r ∈ td, r ∈ ks) ∧ (∀ r ∈ ks, r ∉ td → ∀ r', PcOf ps r r' → r' ∈ ks) ∧ td.length ≤ ks.length ∧ m = 2 * (60000 - ks.length) + td.length, ⟨_, _, _, [r0], _, [r0], 0, rfl, Gr.refl _ _, hkd2, rfl, ⟨[.ref b2], htl, .cons (h2.mono G2.tp) .nil⟩, by simp, by simp, fun r hr => by rw [List.mem_singleton.mp hr]; exact InR.refl hn, fun r hr => hr, fun r hr hr' => absurd hr hr', Nat.le_refl _, rfl⟩, fun m σ H3 hp => ?_⟩
  obtain ⟨d6, d7, ks, kvs, td, many, rfl, g3, hkd3, hkk, ⟨tvs, htl3, htr⟩, hnd, hr0, hin, htd, hcl, htk, rfl⟩ := hp
  have hkl := few_in hps hrw hrh hnd hin
  have htl' : tvs.length = td.length := by rw [← htr.length, List.length_map]
  have GH : ∀ {H' : Hp}, Gr (SK kd tl) H2 H' → Gr S0 H H' := fun g => G2.local g fun a z => z.elim (fun z => by rw [z]; exact kdn) fun z => by rw [z]; exact tlnH
  walk_at "go"
  refine ⟨!tvs.isEmpty, ?_, if_of (fun h => ?_) (fun h => ?_)⟩
  · exact .inl ⟨tvs, SqL.of htl3, rfl⟩
  · -- a turn
    cases htd' : td.reverse with
    | nil =>
      have : td = [] := by rw [← List.reverse_reverse td, htd']; rfl
      subst this
      have := List.length_eq_zero_iff.mp htl'
      subst this
      cases h
    | cons r rest =>
    have etd : td = rest.reverse ++ [r] := by rw [← List.reverse_reverse td, htd', List.reverse_cons]
    generalize rest.reverse = td0 at etd
    subst etd
    rw [List.map_append] at htr
    obtain ⟨tvs0, y, rfl, htr0, hy⟩ := htr.snocI
    have hrk : r ∈ ks := htd r (by simp)
    have hrin := hin r hrk
    refine ⟨fun σ H' => ∃ (d6 d7 : Option V) (ks' : List Rg) (kvs : List (List L2.Key × V)) (td' : List Rg) (many : Nat), σ = [some v0, some v1, some (.ref b2), some (.ref kd), some (.ref tl), some (.int (many : Nat)), d6, d7] ∧ Gr (SK kd tl) H2 H' ∧ H' kd = some (.dT kvs) ∧ kvs.map (·.1) = ks'.map rgK ∧ LD H' tl (td'.map encRg) ∧ ks'.Nodup ∧ r0 ∈ ks' ∧ (∀ r ∈ ks', InR ps.length r0 r) ∧ (∀ r ∈ td', r ∈ ks') ∧ (∀ r ∈ ks', r ∉ td' → ∀ r', PcOf ps r r' → r' ∈ ks') ∧ td'.length ≤ ks'.length ∧ 2 * (60000 - ks'.length) + td'.length < 2 * (60000 - ks.length) + (td0 ++ [r]).length, fun σ' H' h => ?_, ?_⟩
    · obtain ⟨d6, d7, ks', kvs', td', many', e1, e2, e3, e4, e5, e6, e7, e8, e9, e10, e11, e12⟩ := h
      exact ⟨_, e12, d6, d7, ks', kvs', td', many', e1, e2, e3, e4, e5, e6, e7, e8, e9, e10, e11, rfl⟩
    walk_at "go"
    refine ⟨tl, tvs0 ++ [y], y, rfl, rfl, htl3, by simp, ?_⟩
    rw [List.dropLast_concat]
    have g4 : Gr (SK kd tl) H2 (upd H3 tl (.lst tvs0)) := g3.setL (.inr (.inr rfl)) htl3
    have tp4 : Tp H3 (upd H3 tl (.lst tvs0)) := Tp.setL htl3
    have hkd4 : upd H3 tl (.lst tvs0) kd = some (.dT kvs) := by rw [upd_ne kt]; exact hkd3
    have htl4 : upd H3 tl (.lst tvs0) tl = some (.lst tvs0) := upd_same
    have htr4 := htr0.mono tp4
    have hy4 := hy.mono tp4
    generalize upd H3 tl (.lst tvs0) = H4 at *
    have T4 : Tp H H4 := (GH g4).tp
    walk_at "go"
    refine ⟨v0, v1, y, ps, r, rfl, h0.mono T4, h1.mono T4, hy4, hw, hrin.n, by have := hrin.x1; have := hrin.x2; omega, by have := hrin.y1; have := hrin.y2; omega, fun la H5 L g5 lan hL hLl hLm => ?_⟩
    obtain ⟨lvs, hla, hlr⟩ := hL
    have lakd : la ≠ kd := fun z => by subst z; rw [hkd4] at lan; cases lan
    have latl : la ≠ tl := fun z => by subst z; rw [htl4] at lan; cases lan
    have hkd5 := g5.dT id hkd4
    have htl5 := g5.lst id htl4
    have htr5 := htr4.mono g5.tp
    walk_at "go"
    refine w_lenL hla ?_
    walk_at "go"
    have emany : ((many : Nat) : Int) + ((lvs.length : Nat) : Int) = ((many + lvs.length : Nat) : Int) := by omega
    rw [emany]
    generalize many + lvs.length = many2
    have htd0l : td0.length + 1 ≤ ks.length := by rw [List.length_append, List.length_singleton] at htk; exact htk
    refine forL (SqL.of hla) (fun i σ H' => ∃ (d7 : Option V) (ks' : List Rg) (kvs : List (List L2.Key × V)) (td' : List Rg), σ = [some v0, some v1, some (.ref b2), some (.ref kd), some (.ref tl), some (.int (many2 : Nat)), some (.ref la), d7] ∧ Gr (SK kd tl) H5 H' ∧ H' kd = some (.dT kvs) ∧ kvs.map (·.1) = ks'.map rgK ∧ LD H' tl (td'.map encRg) ∧ ks'.Nodup ∧ r0 ∈ ks' ∧ (∀ r ∈ ks', InR ps.length r0 r) ∧ (∀ r ∈ td', r ∈ ks') ∧ (∀ x ∈ ks', x ∉ td' → x ≠ r → ∀ r', PcOf ps x r' → r' ∈ ks') ∧ (∀ x ∈ L.take i, x ∈ ks') ∧ td'.length + 1 ≤ ks'.length ∧ 2 * (60000 - ks'.length) + td'.length ≤ 2 * (60000 - ks.length) + td0.length) ⟨_, ks, kvs, td0, rfl, Gr.refl _ _, hkd5, hkk, ⟨tvs0, htl5, htr5⟩, hnd, hr0, hin, fun x hx => htd x (List.mem_append_left _ hx), fun x hx hx2 hxr => hcl x hx (fun z => by
        rcases List.mem_append.mp z with z | z
        · exact hx2 z
        · exact hxr (List.mem_singleton.mp z)), fun x hx => absurd hx (by simp), htd0l, Nat.le_refl _⟩ (fun i σ H' hp => by obtain ⟨_, _, _, _, _, g, _⟩ := hp; exact SqL.of (g.lst (fun z => z.elim lakd latl) hla)) (fun i x σ H6 hi hp => ?_) (fun σ H6 hp => ?_)
    · obtain ⟨d7, ks', kvs', td', rfl, g6, hkd6, hkk6, ⟨tvs6, htl6, htr6⟩, hnd6, hr06, hin6, htd6, hcl6, hL6, htk6, hm6⟩ := hp
      obtain ⟨d, hd, hx⟩ := LD.getI hlr hi
      obtain ⟨rr, hrr, rfl⟩ := map_getI hd
      have et := take_get hrr
      have hpc := (hLm rr).mp (List.mem_of_getElem? hrr)
      obtain ⟨hri, hrlt⟩ := pc_in hpu hrin hpc
      obtain ⟨xb, rfl, hxb⟩ := rgAt hx
      have hxb6 := g6.tp _ _ hxb
      have hkl6 := few_in hps hrw hrh hnd6 hin6
      rw [et]
      walk_at "go"
      refine ⟨kd, _, rfl, DGet.t hkd6 hxb6, ?_⟩
      rw [valV_rg hkk6]
      refine ⟨_, rfl, if_of (fun h => ?_) (fun h => ?_)⟩
      · have hni : rr ∉ ks' := by simpa using h
        have hkl7 : kvs'.length = ks'.length := by
          have := congrArg List.length hkk6
          rwa [List.length_map, List.length_map] at this
        walk_at "go"
        refine ⟨kd, _, rfl, DPut.t hkd6 hxb6 (small6 (by omega)), ?_⟩
        rw [putK_new (by rw [hkk6]; exact fun h => hni (by obtain ⟨z, hz, e⟩ := List.mem_map.mp h; rw [← rgK_inj e]; exact hz))]
        have g7 := g6.setT (o := .dT (kvs' ++ [(rgK rr, V.bl true)])) (.inr (.inl rfl)) hkd6
        have tp7 : Tp H6 (upd H6 kd (.dT (kvs' ++ [(rgK rr, V.bl true)]))) := Tp.setT hkd6
        have hkd7 : upd H6 kd (.dT (kvs' ++ [(rgK rr, V.bl true)])) kd = some (.dT (kvs' ++ [(rgK rr, V.bl true)])) := upd_same
        have htl7 : upd H6 kd (.dT (kvs' ++ [(rgK rr, V.bl true)])) tl = some (.lst tvs6) := by rw [upd_ne kt.symm]; exact htl6
        generalize upd H6 kd (.dT (kvs' ++ [(rgK rr, V.bl true)])) = H7 at *
        have htv6 : tvs6.length = td'.length := by rw [← htr6.length, List.length_map]
        walk_at "go"
        refine w_append htl7 (small6 (by omega)) ⟨_, ks' ++ [rr], _, td' ++ [rr], rfl, g7.setL (.inr (.inr rfl)) htl7, by rw [upd_ne kt]; exact hkd7, by rw [List.map_append, List.map_append, hkk6]; rfl, ?_, ?_, List.mem_append_left _ hr06, ?_, ?_, ?_, ?_, ?_, ?_⟩
        · rw [List.map_append]
          exact LD.push htl7 (htr6.mono tp7) (hx.mono (g6.tp.trans tp7))
        · refine List.nodup_append.mpr ⟨hnd6, by simp, fun a ha b hb e => ?_⟩
          rw [List.mem_singleton.mp hb] at e
          subst e
          exact hni ha
        · intro a ha
          rcases List.mem_append.mp ha with ha | ha
          · exact hin6 a ha
          · rw [List.mem_singleton.mp ha]; exact hri
        · intro a ha
          rcases List.mem_append.mp ha with ha | ha
          · exact List.mem_append_left _ (htd6 a ha)
          · exact List.mem_append_right _ ha
        · intro a ha ha2 har r' hr'
          rcases List.mem_append.mp ha with ha | ha
          · exact List.mem_append_left _ (hcl6 a ha (fun z => ha2 (List.mem_append_left _ z)) har r' hr')
          · exact absurd (List.mem_append_right _ ha) ha2
        · intro a ha
          rcases List.mem_append.mp ha with ha | ha
          · exact List.mem_append_left _ (hL6 a ha)
          · exact List.mem_append_right _ ha
        · simp only [List.length_append, List.length_singleton]; omega
        · have hkl8 := few_in hps hrw hrh (ks := ks' ++ [rr]) (r0 := r0) (np := ps.length) (List.nodup_append.mpr ⟨hnd6, by simp, fun a ha b hb e => by rw [List.mem_singleton.mp hb] at e; subst e; exact hni ha⟩) (fun a ha => by
            rcases List.mem_append.mp ha with ha | ha
            · exact hin6 a ha
            · rw [List.mem_singleton.mp ha]; exact hri)
          rw [List.length_append, List.length_singleton] at hkl8
          simp only [List.length_append, List.length_singleton]; omega
      · have hii : rr ∈ ks' := by simpa using h
        refine ⟨_, ks', kvs', td', rfl, g6, hkd6, hkk6, ⟨tvs6, htl6, htr6⟩, hnd6, hr06, hin6, htd6, hcl6, fun a ha => ?_, htk6, hm6⟩
        rcases List.mem_append.mp ha with ha | ha
        · exact hL6 a ha
        · rw [List.mem_singleton.mp ha]; exact hii
    · obtain ⟨d7, ks', kvs', td', rfl, g6, hkd6, hkk6, hLD6, hnd6, hr06, hin6, htd6, hcl6, hL6, htk6, hm6⟩ := hp
      have hll : lvs.length = L.length := by rw [← hlr.length, List.length_map]
      rw [hll, List.take_length] at hL6
      refine ⟨_, _, ks', kvs', td', many2, rfl, g4.trans (g5.any.trans g6), hkd6, hkk6, hLD6, hnd6, hr06, hin6, htd6, fun x hx hx2 r' hr' => ?_, by omega, by rw [List.length_append, List.length_singleton]; omega⟩
      by_cases hxr : x = r
      · subst hxr
        exact hL6 r' ((hLm r').mpr hr')
      · exact hcl6 x hx hx2 hxr r' hr'
  · -- the end
    have htd0 : td = [] := by
      have : tvs = [] := by simpa using h
      rw [this] at htl'
      exact List.length_eq_zero_iff.mp htl'.symm
    subst htd0
    walk_at "go"
    refine ⟨kd, kvs, ks.map rgZ, rfl, hkd3, by rw [hkk, List.map_map]; rfl, (fun k hk z => by obtain ⟨r, _, e⟩ := List.mem_map.mp hk; rw [z] at e; cases e), fun L p hL hLt hLp pn => ?_⟩
    obtain ⟨Ls, hLs, eLs⟩ := perm_inv hL
    have hrep := rep_sorted eLs hLt
    walk_at "go"
    refine ⟨by show 2 ≤ sizeLine; decide, fun t tn => ?_⟩
    have g4 : Gr S0 H3 (upd H3 p (.lst (L.map fun x => V.ref x.2))) := Gr.new pn
    have g5 : Gr S0 (upd H3 p (.lst (L.map fun x => V.ref x.2))) (upd (upd H3 p (.lst (L.map fun x => V.ref x.2))) t (.tup [V.ref p, V.int (many : Nat)])) := Gr.new tn
    refine q t p many _ Ls ((GH g3).trans (g4.trans g5)) upd_same ((GH g3).nn _ pn) ⟨_, g5.lst id upd_same, hrep.mono (g4.tp.trans g5.tp)⟩ (by rw [hLs.length_eq]; exact hkl) ⟨hLs.mem_iff.mpr hr0, fun r hr => hin r (hLs.mem_iff.mp hr), fun r hr r' h' => hLs.mem_iff.mpr (hcl r (hLs.mem_iff.mp hr) (by simp) r' h'), ?_, hLs.nodup_iff.mpr hnd⟩
    have h1 : (L.map (·.1)).Pairwise fun a b => a.headD 0 ≤ b.headD 0 := List.pairwise_map.mpr hLp
    rw [eLs, List.pairwise_map] at h1
    exact h1.imp fun {a b} h => by
      have h : (a.n : Int) ≤ (b.n : Int) := h
      omega
end
end Sr
/-! SrV: all of a generator expression over an empty tuple; a def with its code object. -/
namespace Sr
open PySem PySem.Spec PyProof.Rows L2
structure GenE (sc scope : Scope) (x : Str) : Prop where
  kind : scope.kind = .function
  co : scope.isCoroutine = false
  cell : ∀ y ∈ scope.names, y.2 ≠ .cell
  dot : scope.names.lookup (".0" : Str) = some NameKind.local
  loc : scope.names.lookup x = some .local
  free : ∀ y ∈ scope.names, y.2 = .free → sc.names.lookup y.1 = some .cell ∨ sc.names.lookup y.1 = some .free
section
variable {X : Cx} {pins : List (Addr × Obj)} {σ : L2.St} {H : Hp} {s : Shared}
def ReadyE (X : Cx) (pins : List (Addr × Obj)) (σ : L2.St) (H1 : Hp) (P : Addr) (g : Addr) (s5 : Shared) : Prop :=
  ∃ (fp wr : List Addr) (G : Array GenState → Array GenState → Prop) (St : Nat → Shared → Prop),
    WalksS X.prog X.w X.A.in1 g fp wr G 0 (fun _ _ => False) St ∧ St 0 s5 ∧
    ∀ s', Moved wr G s5 s' → ∃ H2, GxR.Tabbed P H1 H2 ∧ L2.Inv X pins σ H2 s'
theorem gen_emp {c P : Addr} {elt iter : Expr} {x : Str} {px gpos : Pos} {scope : Scope} {te : TE} {k : Nat} {Q' : Value → Shared → Prop} {R : Hp → Prop}
    (hr : Room k X.A) (TB : GxR.TabB X.base X.mg c P) (hcode : X.env.code = .ref c) (S : GenE X.env.scope scope x) (hi : PE X iter te)
    (hs : ∀ v, genFold iter X.env v = pure v) (I : L2.Inv X pins σ H s) (h : te σ H fun v H1 => (∃ a, v = .ref a ∧ SqT X.K H1 a []) ∧ GxR.TabG H1 P ∧ R H1)
    (hQ : ∀ H1 g s5, R H1 → ReadyE X pins σ H1 P g s5 → Q' (.ref g) s5) :
    wpAny (model X.prog X.w) X.A (eval (.GeneratorExp elt [⟨.Name x px, iter, [], 0⟩] scope gpos) X.env) Q' X.xe s := by
  have hfree : ∀ y ∈ scope.names, y.2 = .free → ∃ c, X.env.cells.lookup y.1 = some c := fun y hy e => by
    rcases S.free y hy e with k | k
    · exact I.ok.has _ (.inl k)
    · exact I.ok.has _ (.inr k)
  refine wpAny_GeneratorExp_walksQ hr.hd S.co (closure_ok hfree) S.cell S.dot S.loc S.kind (by have := hr.dp; omega) ?_ hs
  refine thn (hi.run pins s σ H _ I h) fun xv s1 ⟨v, H1, I1, r1, q1⟩ => ?_
  obtain ⟨⟨a, rfl, ha⟩, ⟨ps, hP, ht⟩, q1⟩ := q1
  cases r1
  obtain ⟨its, rv, pt, hz⟩ := I1.tuple ha
  cases rv
  have hT : s1.heap.IsTuple a #[] := pt
  have hal : a < s1.heap.objs.size := by obtain ⟨_, q, _⟩ := hT; exact Heap.lt_size q
  refine wpAny_pyIter_tuple hT ?_
  have hPs : s1.heap.get? P = some { cls := .none, data := .fields ps } := I1.hok P _ hP
  have haP : a ≠ P := fun z => by
    subst z
    obtain ⟨o, ho, hc, _⟩ := hT
    rw [hPs] at ho
    cases ho
    cases hc
  generalize ho : ({ cls := .type "tuple_iterator", data := .fields #[.ref a, .int 0 0] } : Obj) = o
  have hst : (s1.heap.push o).IsTupleIter s1.heap.objs.size a 0 := ⟨_, Heap.get?_push_size _ (by rw [← ho]; rfl), by rw [← ho], by rw [← ho]; rfl⟩
  have hT2 : (s1.heap.push o).IsTuple a #[] := hT.at fun ob e => Heap.get?_push_of_some _ e
  have hPlt : P < s1.heap.objs.size := Heap.lt_size hPs
  have hP2 : (s1.heap.push o).get? P = some { cls := .none, data := .fields ps } := Heap.get?_push_of_some _ hPs
  have cd : PySem.W.CodeHd (s1.heap.push o) c P := TB.code.keeps fun b u e => Heap.get?_push_of_some _ (I1.bk b u e)
  have lim2 : (s1.heap.push o).NoLimit := I1.nolimit.push o
  have cont : ∀ (code : Value) (h3 : Heap) (tk : Nat) (ps' : Array Value), Heap.ExtBut P (s1.heap.push o) h3 → (s1.heap.push o).objs.size ≤ h3.objs.size → h3.get? P = some { cls := .none, data := .fields ps' } → (∃ more, ps' = ps ++ more) → TriplesOk ps'.toList →
      wpAny (model X.prog X.w) X.A (builtinsFor X.env.globals X.env.builtins) (fun bi s₄ =>
        ∃ Ia fp wr n₀ Pf St₀ pz F, Value.ref s1.heap.objs.size = .ref Ia ∧ (∀ A' : Around, A'.handled = none → Walks X.prog X.w A' Ia fp wr n₀ Pf St₀) ∧ St₀ 0 s₄.heap ∧ (∀ b ∈ fp, b < s₄.heap.objs.size) ∧ s₄.heap.NoLimit ∧ cStatics ∉ wr ∧
          (∀ href : Heap, (∀ b o, s₄.heap.get? b = some o → href.get? b = some o) →
            QuietGen X.prog X.w (genEnv scope (cloFrom X.env.cells scope.names []) s₄.heap.objs.size code bi X.env) x [] elt (List.range s₄.heap.objs.size) wr Pf pz F href) ∧
          (∀ a h₅ tk gs, gs.bare = true → s₄.heap.objs.size < a → h₅.objs.size = a + 1 → (∀ b o, s₄.heap.get? b = some o → h₅.get? b = some o) →
            WalksS X.prog X.w X.A.in4 a (a :: s₄.heap.objs.size :: List.range s₄.heap.objs.size) (s₄.heap.objs.size :: wr) (GenOnlyQ s₄.gens.size) (passing pz n₀ 0).length
              (fun j y => ∃ i, (passing pz n₀ 0)[j]? = some i ∧ F i y) (GenAt X.prog X.w X.A.in4 a s₄.gens.size s₄.heap.objs.size (List.range s₄.heap.objs.size) wr pz n₀ F) →
            GenAt X.prog X.w X.A.in4 a s₄.gens.size s₄.heap.objs.size (List.range s₄.heap.objs.size) wr pz n₀ F 0 { s₄ with gens := s₄.gens.push gs, toks := tk, heap := h₅ } →
            Q' (.ref a) { s₄ with gens := s₄.gens.push gs, toks := tk, heap := h₅ })) X.xe { s1 with heap := h3, toks := tk } := by
    intro code h3 tk ps' hx hsz hP3 hmore ht3
    obtain ⟨bm, ob, e1, e2, e3, e4, e5, e6, e7, e8⟩ := TB.bm
    have hcP : cStatics ≠ P := fun e => by
      obtain ⟨_, hns, _⟩ := I1.nolimit
      obtain ⟨o', es, ep, ho, hd, _⟩ := hns
      rw [e, hPs] at ho
      cases ho
      cases hd
    have hcl : cStatics < s1.heap.objs.size := let ⟨_, hns, _⟩ := I1.nolimit; hns.lt
    have sz2 : (s1.heap.push o).objs.size = s1.heap.objs.size + 1 := Heap.size_push ..
    have keep3 : ∀ b u, b ≠ P → s1.heap.get? b = some u → h3.get? b = some u := fun b u hb e => hx b u hb (Heap.get?_push_of_some _ e)
    refine wpAny_builtinsFor (m := X.mg) (by rw [I1.ok.glob]; exact ((I1.mod.glob.keeps I1.bk).push o).extBut hx TB.gP) e1 e2 (keep3 _ _ e4 (I1.bk _ _ e5)) e6 e7 e8 ?_
    refine ⟨s1.heap.objs.size, [s1.heap.objs.size, a], [s1.heap.objs.size], 0, (fun i v => (#[] : Array Value)[i]? = some v), (fun i h => h.IsTupleIter s1.heap.objs.size a i ∧ h.IsTuple a #[]), (fun _ => true), (fun _ _ => False), rfl, fun A' hA => Walks.tuple hA s1.heap.objs.size a (Nat.ne_of_lt hal) #[], ?_, ?_, lim2.extBut hx hcP, ?_, ?_, ?_⟩
    · exact ⟨hst.at fun u e => hx _ u (fun z => by rw [z] at hPlt; exact Nat.lt_irrefl _ hPlt) e, hT2.at fun u e => hx _ u haP e⟩
    · intro b hb
      rcases List.mem_cons.mp hb with z | z
      · rw [z]
        show s1.heap.objs.size < h3.objs.size
        omega
      · rw [List.mem_singleton.mp z]
        show a < h3.objs.size
        have : (a : Nat) < s1.heap.objs.size := hal
        exact Nat.lt_of_lt_of_le this (by omega)
    · intro z
      rcases List.mem_cons.mp z with z | z
      · exact Nat.ne_of_lt hcl z
      · cases z
    · intro href hhref
      refine ⟨fun A' E' i v s₂ m₂ hA hPv hn hm hk => ?_, fun A' E' i v s₂ m₂ hA hPv hp hn hm hk => ?_⟩
      · simp at hPv
      · simp at hPv
    · intro g h5 tk5 gs hgb hag hsz5 hk5 W5 hat
      have W6 : WalksS X.prog X.w X.A.in4 g (g :: h3.objs.size :: List.range h3.objs.size) (h3.objs.size :: [s1.heap.objs.size]) (GenOnlyQ s1.gens.size) 0 (fun _ _ => False) (GenAt X.prog X.w X.A.in4 g s1.gens.size h3.objs.size (List.range h3.objs.size) [s1.heap.objs.size] (fun _ => true) 0 (fun _ _ => False)) := by
        have e1 : (passing (fun _ => true) 0 0).length = 0 := rfl
        have e2 : (fun (j : Nat) (y : Value) => ∃ i, (passing (fun _ => true) 0 0)[j]? = some i ∧ (fun (_ : Nat) (_ : Value) => False) i y) = fun _ _ => False := by
          funext j y
          exact propext ⟨fun ⟨_, _, h⟩ => h, fun h => h.elim⟩
        rw [e1, e2] at W5
        exact W5
      refine hQ H1 g _ q1 ⟨_, _, _, _, W6.in4_1, hat, fun s' hm => ?_⟩
      · obtain ⟨more, em⟩ := hmore
        have nwr : ∀ b u, s1.heap.get? b = some u → b ∉ h3.objs.size :: [s1.heap.objs.size] := fun b u e hb => by
          have hl := Heap.lt_size e
          rcases List.mem_cons.mp hb with z | z
          · rw [z] at hl
            have h9 : (h3.objs.size : Nat) < s1.heap.objs.size := hl
            omega
          · rcases List.mem_cons.mp z with z | z
            · rw [z] at hl
              exact Nat.lt_irrefl _ hl
            · cases z
        have J := GxR.inv_tab (more := more) (h' := s'.heap) (g' := s'.gens) (d' := s'.drawn) (t' := s'.toks) I1 hP (fun b u hb e => hm.heap b u (nwr b u e) (hk5 b u (keep3 b u hb e)))
          (by rw [← em]; exact hm.heap P _ (nwr P _ hPs) (hk5 P _ hP3)) (AllBare.movedS (I1.bare.push hgb) hm)
        rw [GxR.sh_eta s1 s' hm.os] at J
        refine ⟨upd H1 P (.tbl (ps ++ more)), ⟨⟨ps ++ more, upd_same, by rw [← em]; exact ht3⟩, fun b hb => upd_ne hb⟩, J⟩
  refine ⟨lim2, ?_⟩
  cases hf : codeAmong gpos ps.toList with
  | none =>
    refine wpAny_genexprCodeX hcode (cd.code hP2 ht) (cd.tab hP2) hf fun c' h' tk hx hge hlt hco' _ htab' _ => ?_
    obtain ⟨o1, vs, f1, tf, fl, tg, inF, tx, tt, op, _, _, _, _, _, _, _, _, _, htr, _⟩ := hco'
    exact cont _ h' tk _ hx (Nat.le_trans hge (Nat.le_of_lt hlt)) htab'.2 ⟨_, rfl⟩ htr
  | some cv =>
    refine wpAny_genexprCode_hit hcode (cd.code hP2 ht) hf ?_
    exact cont cv (s1.heap.push o) s1.toks ps (Heap.ExtBut.refl _ _) (Nat.le_refl _) hP2 ⟨#[], by simp⟩ ht
def tAllE (K : PySem.W.Frag) (P : Addr) (te : TE) : TE := fun σ H Q => te σ H fun v H1 => (∃ a, v = .ref a ∧ SqT K H1 a []) ∧ GxR.TabG H1 P ∧ ∀ H2, GxR.Tabbed P H1 H2 → Q (.bl true) H2
theorem pe_allE {c P : Addr} {elt iter : Expr} {x : Str} {px p pos gpos : Pos} {scope : Scope} {te : TE} {k : Nat}
    (hr : Room k X.A) (hg : Gl X "all") (hm : X.mg "all" = none) (TB : GxR.TabB X.base X.mg c P) (hcode : X.env.code = .ref c) (S : GenE X.env.scope scope x) (hi : PE X iter te)
    (hs : ∀ v, genFold iter X.env v = pure v)
    (he : starEach [.GeneratorExp elt [⟨.Name x px, iter, [], 0⟩] scope gpos] X.env = (false, eval (.GeneratorExp elt [⟨.Name x px, iter, [], 0⟩] scope gpos) X.env) :: starEach [] X.env := by rfl) :
    PE X (.Call (.Name "all" p) [.GeneratorExp elt [⟨.Name x px, iter, [], 0⟩] scope gpos] [] pos) (tAllE X.K P te) := by
  refine ⟨fun pins s σ H Q I h => ?_⟩
  refine wpAny_Call_Name_kw (ld_blt I hg hm bo_all ?_)
  refine PyProof.Rows.callWith_builtin1 ?_ he (by rfl)
  rw [he]
  show wpAny _ _ (spliced ((false, eval (.GeneratorExp elt [⟨.Name x px, iter, [], 0⟩] scope gpos) X.env) :: backTo pos (starEach [] X.env))) _ _ s
  refine Calls.spliced_cons (gen_emp (R := fun H1 => ∀ H2, GxR.Tabbed P H1 H2 → Q (.bl true) H2) hr TB hcode S hi hs I h fun H1 g s5 hR hG => ?_)
  obtain ⟨fp, wr, G, St, W, hst, hI⟩ := hG
  refine Calls.spliced_nil ?_
  refine call_all_walkS (W.self 0 _ _ _ hst ⟨g, fp, wr, G, 0, _, St, (fun _ => true), rfl, W, hst, fun j y sj Qj Ej hy _ => hy.elim, fun s' hmv => ?_⟩)
  obtain ⟨H2, hT, J⟩ := hI s' hmv
  exact ⟨.bl true, H2, J, rfl, hR H2 hT⟩
end
/-- a def, its code object known -/
def RawC (K : PySem.W.Frag) (mg : Str → Option Value) (nm : Str) (st : Stmt) (ps : List Str) (c : Addr) : Prop :=
  ∃ (f : Addr) (fd : FuncData), (∃ (oc : Value) (od : Option Addr) (kV doc pm : Value) (an : Option Addr) (ct : Value) (osl : Array (Option Value)),
    fd = PySem.W.fnOf nm nm (defArgs st) (defBody st) (defScope st) .none kV doc pm an (.ref c) ct ∧ K.lookup f = some ⟨oc, od, .func fd, osl⟩ ∧ PySem.W.codeIn K (.ref c) nm = true) ∧
    PySem.W.keepIn K (.ref f) = true ∧ mg nm = some (.ref f) ∧ Binds K fd ps []
section
variable {P : Program} {w : World} {K : PySem.W.Frag} {mg : Str → Option Value} {base : Heap}
theorem RawC.ok {nm : Str} {st : Stmt} {N ps : List Str} {k : Nat} {sp : Sp} {c : Addr} (R : RawC K mg nm st ps c) (S : FnScope N ps (defScope st)) (len : ∀ vs H Q E, sp vs H Q E → vs.length = ps.length)
    (hbody : ∀ (f : Addr) (A : Around) (outer : List Env) (s : Shared) (H : Hp) (vs : List V) (Q : VK) (E : XK), Room k (A.deeper (envOfC nm (defScope st) s.heap.objs.size f (.ref c))) → sp vs H Q E →
      ∃ t, PSs (cxOf CX0 P w K mg base N nm (defScope st) f (.ref c) A outer s H E).nox (defBody st) t ∧ t { nx := fun _ H' => Q .non H', rt := Q } (start N vs) H) : Def P w K mg base (k + 1) nm ps sp := by
  obtain ⟨f, fd, ⟨oc, od, kV, doc, pm, an, ct, osl, rfl, lk, hcd⟩, kp, m, b⟩ := R
  refine ⟨f, _, fn_of lk hcd S len fun A outer s H vs Q E hr hsp => ?_, m, kp, b⟩
  obtain ⟨t, h, q⟩ := hbody f A outer s H vs Q E hr hsp
  exact ⟨t, h.nox, q⟩
theorem Gr.tabbed {Pt : Addr} {H H' : Hp} (h0 : GxR.TabG H Pt) (h : GxR.Tabbed Pt H H') : Gr S0 H H' := by
  obtain ⟨⟨ps', h1, ht⟩, h2⟩ := h
  obtain ⟨ps, hp, _⟩ := h0
  have ne : ∀ a o, (∀ q, o ≠ HO.tbl q) → H a = some o → a ≠ Pt := fun a o hn e z => by
    subst z; rw [hp] at e; exact hn ps (Option.some.inj e).symm
  refine ⟨fun a o _ hn e => by rw [h2 a (ne a o hn e)]; exact e, fun a xs e => by rw [h2 a (ne a _ (fun q z => by cases z) e)]; exact e, fun a ⟨qs, e, t⟩ => ?_, fun a e => ?_⟩
  · by_cases ha : a = Pt
    · subst ha; exact ⟨ps', h1, ht⟩
    · exact ⟨qs, by rw [h2 a ha]; exact e, t⟩
  · by_cases ha : a = Pt
    · subst ha; rw [h1] at e; cases e
    · rw [h2 a ha] at e; exact e
end
end Sr
/-! SrB: best. -/
namespace Sr
open PySem PySem.Spec PyProof.Rows L2
local macro_rules | `(tactic| walk_at "tp") => `(tactic| first
  | exact Tp.refl _
  | assumption
  | exact Gr.tp (by assumption)
  | (refine Tp.trans ?_ (by first | assumption | exact Gr.tp (by assumption)); walk_at "tp"))
local macro_rules | `(tactic| walk_at "gr") => `(tactic| first
  | exact Gr.refl _ _
  | assumption
  | exact Gr.any (by assumption)
  | (refine Gr.trans ?_ (by first | assumption | exact Gr.any (by assumption)); walk_at "gr"))
local macro_rules | `(tactic| walk_at "rep") => `(tactic| first
  | exact Rep.int _ | exact Rep.str _ | exact Rep.bl _ | exact Rep.non
  | assumption
  | (refine Rep.mono ?_ (by assumption); walk_at "tp"))
local macro_rules | `(tactic| walk_at "repl") => `(tactic| repeat first
  | exact RepL.nil
  | (apply RepL.cons; (· walk_at "rep")))
local macro_rules | `(tactic| walk_at "step") => `(tactic| first
  | ((with_reducible apply w_var); rfl)
  | (with_reducible apply w_c)
  | (with_reducible apply w_op)
  | (with_reducible apply w_I0)
  | ((with_reducible apply w_ix); (· assumption); (· walk_at "tp"); (· decide); (· rfl); (intro x hx; first | (have e := Rep.intI hx; subst e; clear hx) | (have e := Rep.strI hx; subst e; clear hx) | (have e := Rep.blI hx; subst e; clear hx) | skip))
  | ((with_reducible apply w_ixU); (· assumption); (· walk_at "tp"); (· decide); (· rfl))
  | (with_reducible apply w_eqS)
  | (with_reducible apply w_eqI)
  | (with_reducible apply w_eqB)
  | (with_reducible apply w_neB)
  | (with_reducible apply w_test)
  | (with_reducible apply w_tB)
  | (with_reducible apply w_and)
  | (with_reducible apply w_or)
  | (with_reducible apply w_not)
  | (with_reducible apply w_nil)
  | (with_reducible apply w_cons)
  | (with_reducible apply w_CB)
  | (with_reducible apply w_call)
  | (with_reducible apply w_seq)
  | (with_reducible apply w_asg)
  | (with_reducible apply w_gname)
  | (with_reducible apply w_drop)
  | (with_reducible apply w_ret)
  | (with_reducible apply w_ifS)
  | (with_reducible apply w_next)
  | (with_reducible apply w_ifE)
  | (with_reducible apply w_andV)
  | (with_reducible apply w_orV)
  | (with_reducible apply w_notV)
  | (with_reducible apply w_tupE)
  | (with_reducible apply w_lstE)
  | (with_reducible apply w_bl)
  | ((with_reducible apply w_aug); rfl)
  | (with_reducible apply w_ip)
  | (with_reducible apply w_for1)
  | (with_reducible apply w_for2)
  | (with_reducible apply w_forT)
  | (with_reducible apply w_forL)
  | ((with_reducible apply w_lenD); (· assumption); (· walk_at "tp"))
  | (with_reducible apply w_min)
  | (with_reducible apply w_intI)
  | (with_reducible apply w_intB)
  | ((with_reducible apply w_I); (· first | decide | exact (by decide : (1000 : Int) ≠ 0) | exact ⟨by decide, by decide⟩ | exact ⟨by decide, by decide, by decide⟩ | exact .inr ⟨by decide, by decide⟩ | exact .inl ⟨by decide, by decide⟩))
  | (with_reducible apply w_bm)
  | (with_reducible apply w_bm0)
  | ((with_reducible apply w_tyL); (· assumption))
  | (with_reducible apply w_gsub)
  | (with_reducible apply w_fld)
  | (with_reducible apply w_gcons)
  | (with_reducible apply w_gnil)
  | ((with_reducible apply w_gtup); (· assumption); (· walk_at "tp"); (· rfl))
  | (with_reducible apply w_meth)
  | (with_reducible apply w_lc1)
  | (with_reducible apply w_lcL)
  | (with_reducible apply w_lcT)
  | (with_reducible apply w_yes)
  | (with_reducible apply w_m1)
  | (with_reducible apply w_dnotin)
  | (with_reducible apply w_din)
  | (with_reducible apply w_dget)
  | (with_reducible apply w_dput)
  | ((with_reducible apply w_ixL); (· assumption); (· decide); (· rfl)))
local macro_rules | `(tactic| walk_at "go") => `(tactic| repeat walk_at "step")
local macro_rules | `(tactic| walk_at "set") => `(tactic| dsimp only [List.set_cons_succ, List.set_cons_zero])

theorem join_at {α β : Type} {A : α → β → Prop} {G : Prop} (T : α → β → Prop) (use : (∀ a b, A a b → T a b) → G) (pf : ∀ a b, A a b → T a b) : G := use pf
theorem join_p {A G : Prop} (T : Prop) (use : (A → T) → G) (pf : A → T) : G := use pf
def rIsNo : R2 := fun x y H Q => y = .non ∧ Q (.bl (decide (x = .non))) H
def rNotNo : R2 := fun x y H Q => y = .non ∧ Q (.bl (!decide (x = .non))) H
theorem op_isNa {X : Cx} : OpR X (compareOp .Is) rIsNo := op_isN
theorem op_notNa {X : Cx} : OpR X (compareOp .IsNot) rNotNo := op_notN
def rInE (K : PySem.W.Frag) : R2 := fun x y H Q => ∃ p, y = .ref p ∧ SqT K H p [] ∧ Q (.bl false) H
theorem op_inE {X : Cx} {K : PySem.W.Frag} (h : X.K = K) : OpR X (compareOp .In) (rInE K) := by
  subst h
  intro pins s σ H x y v u Q I rx ry h
  obtain ⟨p, rfl, hq, q⟩ := h
  cases ry
  obtain ⟨its, r, pl, hz⟩ := I.tuple hq
  cases r
  exact SeqAt.in_tupleAt (fun _ => false) pl (fun w hw => by simp at hw) ⟨.bl _, H, I, rfl, by rw [show ((List.toArray ([] : List Value)).any fun _ => false) = false by simp]; exact q⟩
theorem op_catTX {X : Cx} {K : PySem.W.Frag} (h : X.K = K) : OpR X (binaryOp .Add) (rCatT K) := h ▸ op_catT
section
variable {K : PySem.W.Frag} {σ : L2.St} {H H0 : Hp} {Q : VK} {x y v : V} {ds es : List PD}
theorem w_isN {b : Bool} (h : decide (x = V.non) = b) (q : Q (.bl b) H) : rIsNo x .non H Q := ⟨rfl, by rw [h]; exact q⟩
theorem w_notN {b : Bool} (h : (!decide (x = V.non)) = b) (q : Q (.bl b) H) : rNotNo x .non H Q := ⟨rfl, by rw [h]; exact q⟩
theorem w_catT (hx : Rep H (.tuple ds) x) (hy : Rep H (.tuple es) y) (h1 : ds ≠ []) (h2 : ds.length + es.length ≤ 1000) (q : ∀ v H', Gr S0 H H' → Rep H' (.tuple (ds ++ es)) v → Q v H') : rCatT K x y H Q := by
  obtain ⟨a, vs, rfl, ha, hl⟩ := hx.tupI
  obtain ⟨b, ws, rfl, hb, hm⟩ := hy.tupI
  have e1 := hl.length
  have e2 := hm.length
  refine ⟨a, b, vs, ws, rfl, rfl, SqT.of ha, SqT.of hb, fun z => ?_, Nat.le_of_lt (small1000 (by omega)), fun z => ?_, fun z p hp => ?_⟩
  · subst z
    cases hl
    exact h1 rfl
  · subst z
    cases hm
    rw [List.append_nil] at q
    exact q _ _ (Gr.refl _ _) (.tup ha hl)
  · exact q _ _ (Gr.new hp) (.tup upd_same ((hl.append hm).mono (Tp.new hp)))
theorem w_forRev {ta : TA} {g : TG} {tb : TS} {D : Ends} (q : ta σ H fun vs H1 => ∃ (a : Addr) (xs : List V), vs = [.ref a] ∧ SqL K H1 a xs ∧ ∃ W : Nat → Nat → L2.St → Hp → Prop, (∃ m, W 0 m σ H1) ∧ ∀ i m σ H, W i m σ H →
      ((Itv K a xs.length).stop i H ∧ D.nx σ H) ∨ ((Itv K a xs.length).go i H ∧ ∃ N : L2.St → Hp → Prop, (∀ σ' H', N σ' H' → ∃ m', m' < m ∧ W (i + 1) m' σ' H') ∧ ∀ x H', (Itv K a xs.length).yld i H x H' → g x σ H' fun σ2 H2 => tb { D with nx := N, ct := N, bk := D.nx } σ2 H2)) : tFor (iRev K ta) g tb D σ H := q
theorem forRev {g : TG} {tb : TS} {D : Ends} {a : Addr} {xs : List V} (ha : SqL K H a xs) (Pv : Nat → L2.St → Hp → Prop) (h0 : Pv 0 σ H) (hl : ∀ i σ H, Pv i σ H → SqL K H a xs)
    (hs : ∀ i x σ H, i < xs.length → xs[xs.length - 1 - i]? = some x → Pv i σ H → g x σ H fun σ2 H2 => tb { D with nx := Pv (i + 1), ct := Pv (i + 1), bk := D.nx } σ2 H2) (hd : ∀ σ H, Pv xs.length σ H → D.nx σ H) :
    ∃ (a' : Addr) (xs' : List V), [V.ref a] = [.ref a'] ∧ SqL K H a' xs' ∧ ∃ W : Nat → Nat → L2.St → Hp → Prop, (∃ m, W 0 m σ H) ∧ ∀ i m σ H, W i m σ H →
      ((Itv K a' xs'.length).stop i H ∧ D.nx σ H) ∨ ((Itv K a' xs'.length).go i H ∧ ∃ N : L2.St → Hp → Prop, (∀ σ' H', N σ' H' → ∃ m', m' < m ∧ W (i + 1) m' σ' H') ∧ ∀ x H', (Itv K a' xs'.length).yld i H x H' → g x σ H' fun σ2 H2 => tb { D with nx := N, ct := N, bk := D.nx } σ2 H2) := by
  refine ⟨a, xs, rfl, ha, fun i m σ H => m = xs.length - i ∧ i ≤ xs.length ∧ Pv i σ H, ⟨xs.length, by simp, Nat.zero_le _, h0⟩, ?_⟩
  rintro i m σ H ⟨rfl, hi, p⟩
  have q := hl i σ H p
  by_cases hlt : i < xs.length
  · have hx : xs[xs.length - 1 - i]? = some (xs[xs.length - 1 - i]'(by omega)) := List.getElem?_eq_getElem _
    refine .inr ⟨⟨hlt, xs, _, q, hx⟩, Pv (i + 1), fun σ' H' p' => ⟨xs.length - (i + 1), by omega, rfl, hlt, p'⟩, fun x H' y => ?_⟩
    obtain ⟨e, y⟩ := y
    subst e
    exact hs i x σ _ hlt (y xs q) p
  · have e : i = xs.length := by omega
    subst e
    exact .inl ⟨Nat.le_refl _, hd σ H p⟩
end
section
variable {P : Program} {w : World} {K : PySem.W.Frag} {mg : Str → Option Value} {base : Heap} {c Pt : Addr}
def noWish : PD := .tuple [.tuple [], .tuple []]
def spAllowed (Pt : Addr) : Sp := fun vs H Q _ => ∃ (v0 v1 v2 : V) (ps : List Part) (r : Rg), vs = [v0, v1, v2] ∧ Rep H (partsD ps) v0 ∧ Rep H (encRg r) v1 ∧ Rep H noWish v2 ∧ r.n < ps.length ∧ GxR.TabG H Pt ∧ ∀ H', Gr S0 H H' → Q (.bl true) H'
theorem sc_allowed : FnScope ["parts", "region", "wishes", "fixed", "forbidden"] ["parts", "region", "wishes"] (defScope (top 25)) := ⟨rfl, rfl, rfl, by decide +kernel, rfl, by decide +kernel, by decide +kernel⟩
theorem ok_allowed (R : RawC K mg "allowed" (top 25) ["parts", "region", "wishes"] c) (B : Bi mg) (TB : GxR.TabB base mg c Pt) (D_is_strip : Def P w K mg base 3 "is_strip" ["part"] spIsStrip) : Def P w K mg base 4 "allowed" ["parts", "region", "wishes"] (spAllowed Pt) := by
  refine R.ok sc_allowed (fun vs H Q E h => ?_) (fun f A outer s H vs Q E hr h => ?_)
  · obtain ⟨_, _, _, _, _, rfl, _⟩ := h; rfl
  obtain ⟨v0, v1, v2, ps, r, rfl, h0, h1, h2, hn, hT, q⟩ := h
  refine ⟨_, (pss_cons (ps_asg (pv 2) (pg_tup rfl (pgs_cons (pg_name (i := 3) sc_allowed.nd rfl (.inl rfl)) (pgs_cons (pg_name (i := 4) sc_allowed.nd rfl (.inl rfl)) pgs_nil))))
    (pss_cons (ps_if (pt_cmpR (op_inE (K := K) rfl) (pv 1) (pv 4) (by rfl))
      (pss_one (ps_ret pe_bl))
      pss_nil)
    (pss_cons (ps_if (pt_val (pe_d D_is_strip hr (by rfl) (pa_cons (pe_ix (ix_sq (K := K) rfl) (pv 0) (pe_ix (ix_sq (K := K) rfl) (pv 1) pe_int (fun _ _ => rfl)) (fun _ _ => rfl)) pa_nil)))
      (pss_one (ps_ret pe_bl))
      pss_nil)
    (pss_one (ps_ret (pe_allE hr (by rfl) B.all TB rfl (show GenE (defScope (top 25)) _ _ from ⟨rfl, rfl, by decide +kernel, rfl, rfl, by decide +kernel⟩) (pv 3) (fun _ => rfl))))))), ?_⟩
  walk_at "go"
  refine w_gtupD (ds := [.tuple [], .tuple []]) h2 (Tp.refl _) rfl (fun us hus => ?_)
  cases hus with
  | cons q0 hus => cases hus with
  | cons q1 hus => cases hus with
  | nil =>
  rename_i w1 w2
  walk_at "go"
  obtain ⟨a1, vs1, rfl, ha1, hl1⟩ := q0.tupI
  obtain ⟨a2, vs2, rfl, ha2, hl2⟩ := q1.tupI
  cases hl1
  cases hl2
  refine ⟨a2, rfl, SqT.of ha2, ?_⟩
  refine ⟨_, rfl, if_of (fun h => by cases h) (fun _ => ?_)⟩
  have hpn : ps[r.n]? = some ps[r.n] := List.getElem?_eq_getElem hn
  change Rep H (.tuple (ps.map encPart)) v0 at h0
  change Rep H (.tuple [.int r.n, .int r.x, .int r.y, .int r.w, .int r.h]) v1 at h1
  walk_at "go"
  refine w_ix h0 (Tp.refl _) (by omega) (by rw [Int.toNat_natCast, List.getElem?_map, hpn]; rfl) (fun y hy => ?_)
  walk_at "go"
  refine ⟨y, ps[r.n], rfl, hy, fun H1 g1 => ?_⟩
  refine ⟨_, rfl, if_of (fun _ => ?_) (fun _ => ?_)⟩
  · walk_at "go"
    exact q H1 g1
  · walk_at "go"
    refine (show tVar 3 _ _ _ from ?_)
    walk_at "go"
    have hT1 : GxR.TabG H1 Pt := g1.tb _ hT
    exact ⟨⟨a1, rfl, SqT.of (g1.tp _ _ ha1)⟩, hT1, fun H2 h2 => q H2 (g1.trans (Gr.tabbed hT1 h2))⟩
end
/-! ### readings -/
def RestR (ps : List Part) (lc : Rg → Nat) : Row → Bool → Mach → Rg → Nat → Nat → Nat → Prop
  | .nil, ac, mach, r, s, o, c => o = ext ac r ∧ mach.ends[s]? = some true ∧ c = 0
  | .cons n z i rest, ac, mach, r, s, o, c => ∃ m c1 c2, mach.mvs[n]? = some m ∧ m.o = s ∧ m.l ≤ z ∧ z ≤ m.m ∧ o + z ≤ ext ac r ∧
    (match ps[(piece ac r m.p o z).n]? with
      | some (.strip ac' _ _ e') => RestR ps lc i ac' (machineOf e') (piece ac r m.p o z) 0 0 c1
      | some p => i = .nil ∧ fitsB p (piece ac r m.p o z) = true ∧ c1 = lc (piece ac r m.p o z)
      | none => False) ∧ RestR ps lc rest ac mach r m.t (o + z) c2 ∧ c = m.c + c1 + c2
/-- row is a reading of r, at the cost c -/
def FillR (ps : List Part) (lc : Rg → Nat) (r : Rg) (row : Row) (c : Nat) : Prop := match ps[r.n]? with
  | some (.strip ac _ _ e) => RestR ps lc row ac (machineOf e) r 0 0 c
  | some p => row = .nil ∧ fitsB p r = true ∧ c = lc r
  | none => False
section
variable {ps : List Part} {lc : Rg → Nat} {ac : Bool} {mach : Mach} {r : Rg} {s o c : Nat}
theorem rest_nil : RestR ps lc .nil ac mach r s o c ↔ o = ext ac r ∧ mach.ends[s]? = some true ∧ c = 0 := Iff.rfl
theorem rest_cons {n z : Nat} {i rest : Row} : RestR ps lc (.cons n z i rest) ac mach r s o c ↔ ∃ m c1 c2, mach.mvs[n]? = some m ∧ m.o = s ∧ m.l ≤ z ∧ z ≤ m.m ∧ o + z ≤ ext ac r ∧ FillR ps lc (piece ac r m.p o z) i c1 ∧ RestR ps lc rest ac mach r m.t (o + z) c2 ∧ c = m.c + c1 + c2 := by
  rw [RestR.eq_def]
  rfl
theorem rest_len (hl : ∀ m ∈ mach.mvs, 1 ≤ m.l) : ∀ {row : Row} {s o c : Nat}, RestR ps lc row ac mach r s o c → o + (rowL row).length ≤ ext ac r
  | .nil, s, o, c, h => by
    obtain ⟨h1, _, _⟩ := rest_nil.mp h
    show o + 0 ≤ _
    omega
  | .cons n z i rest, s, o, c, h => by
    obtain ⟨m, c1, c2, h1, h2, h3, h4, h5, h6, h7, h8⟩ := rest_cons.mp h
    have := rest_len hl h7
    have := hl m (List.mem_of_getElem? h1)
    show o + ((rowL rest).length + 1) ≤ _
    omega
end
def encB : Option (Nat × Row) → PD
  | none => .none
  | some (c, row) => .tuple [.int c, encRow row]
def IsBest (F : Row → Nat → Prop) : Option (Nat × Row) → Prop
  | none => ∀ row c, ¬ F row c
  | some (c, row) => F row c ∧ ∀ row' c', F row' c' → c ≤ c'
theorem IsBest.iff {F F' : Row → Nat → Prop} {x : Option (Nat × Row)} (h : IsBest F x) (e : ∀ row c, F' row c ↔ F row c) : IsBest F' x := by
  cases x with
  | none => exact fun row c hf => h row c ((e row c).mp hf)
  | some p => exact ⟨(e _ _).mpr h.1, fun row c hf => h.2 row c ((e row c).mp hf)⟩
theorem IsBest.none_or {F G F' : Row → Nat → Prop} {x : Option (Nat × Row)} (h : IsBest F x) (hg : ∀ row c, ¬ G row c) (e : ∀ row c, F' row c ↔ F row c ∨ G row c) : IsBest F' x :=
  h.iff fun row c => (e row c).trans ⟨fun h => h.elim id fun z => absurd z (hg row c), .inl⟩
theorem IsBest.new {F G F' : Row → Nat → Prop} {c : Nat} {row : Row} (h : IsBest F none) (hg : IsBest G (some (c, row))) (e : ∀ row c, F' row c ↔ F row c ∨ G row c) : IsBest F' (some (c, row)) :=
  hg.iff fun row c => (e row c).trans ⟨fun z => z.elim (fun z => absurd z (h row c)) id, .inr⟩
theorem IsBest.less {F G F' : Row → Nat → Prop} {c c' : Nat} {row row' : Row} (h : IsBest F (some (c', row'))) (hg : IsBest G (some (c, row))) (hlt : c < c') (e : ∀ row c, F' row c ↔ F row c ∨ G row c) : IsBest F' (some (c, row)) :=
  ⟨(e _ _).mpr (.inr hg.1), fun r k hf => ((e r k).mp hf).elim (fun z => by have := h.2 r k z; omega) (hg.2 r k)⟩
theorem IsBest.more {F G F' : Row → Nat → Prop} {c c' : Nat} {row row' : Row} (h : IsBest F (some (c', row'))) (hg : IsBest G (some (c, row))) (hle : c' ≤ c) (e : ∀ row c, F' row c ↔ F row c ∨ G row c) : IsBest F' (some (c', row')) :=
  ⟨(e _ _).mpr (.inl h.1), fun r k hf => ((e r k).mp hf).elim (h.2 r k) (fun z => by have := hg.2 r k z; omega)⟩
def Gc (F1 F2 : Row → Nat → Prop) (n z k : Nat) : Row → Nat → Prop := fun row c => ∃ i c1 rest c2, F1 i c1 ∧ F2 rest c2 ∧ row = .cons n z i rest ∧ c = k + c1 + c2
theorem IsBest.prod {F1 F2 : Row → Nat → Prop} {c1 c2 n z k : Nat} {i rest : Row} (h1 : IsBest F1 (some (c1, i))) (h2 : IsBest F2 (some (c2, rest))) : IsBest (Gc F1 F2 n z k) (some (k + c1 + c2, .cons n z i rest)) :=
  ⟨⟨i, c1, rest, c2, h1.1, h2.1, rfl, rfl⟩, fun r k' ⟨i', c1', rest', c2', a, b, _, e⟩ => by
    have := h1.2 _ _ a
    have := h2.2 _ _ b
    omega⟩
def skK (s o : Nat) : List L2.Key := [.inl s, .inl o]
theorem skK_inj {s o s' o' : Nat} (h : skK s o = skK s' o') : s = s' ∧ o = o' := by
  unfold skK at h
  simp only [List.cons.injEq, Sum.inl.injEq, and_true] at h
  omega
theorem skAt {H : Hp} {s o : Nat} {v : V} (h : Rep H (.tuple [.int s, .int o]) v) : ∃ b, v = .ref b ∧ H b = some (.tup ((skK s o).map kV)) := by
  obtain ⟨b, vs, rfl, hb, hl⟩ := Rep.tupI h
  refine ⟨b, rfl, ?_⟩
  rw [hb]
  cases hl with
  | cons q0 hl => cases hl with
  | cons q1 hl => cases hl with
  | nil =>
  rw [q0.intI, q1.intI]
  rfl
section
variable {P : Program} {w : World} {K : PySem.W.Frag} {mg : Str → Option Value} {base : Heap}
def spBestRests : Sp := fun vs H Q _ => ∃ (v0 v1 v2 : V) (tb : Addr) (ps : List Part) (lc : Rg → Nat) (ac : Bool) (nm jt : Str) (e : Ex) (m : Mach) (r : Rg) (kvs : List (List L2.Key × V)), vs = [v0, v1, v2, .ref tb] ∧
  Rep H (encPart (.strip ac nm jt e)) v0 ∧ Rep H (encMach m) v1 ∧ Rep H (encRg r) v2 ∧ H tb = some (.dT kvs) ∧ MvL m.mvs ∧ (∀ mv ∈ m.mvs, mv.t < m.ends.length) ∧ 0 < m.ends.length ∧ ext ac r ≤ 8 ∧
  (∀ r', Pc ac m.mvs r r' → ∃ v x, valV kvs (rgK r') = some v ∧ Rep H (encB x) v ∧ IsBest (FillR ps lc r') x) ∧
  ∀ (rt : Addr) (H' : Hp) (kvs' : List (List L2.Key × V)), Gr S0 H H' → H rt = none → H' rt = some (.dT kvs') → (∀ s o, Reach m.mvs (ext ac r) s o → ∃ v x, valV kvs' (skK s o) = some v ∧ Rep H' (encB x) v ∧ IsBest (fun row c => RestR ps lc row ac m r s o c) x) → Q (.ref rt) H'
theorem sc_best_rests : FnScope ["part", "machine", "region", "table", "ends", "moves", "far", "rests", "state", "offset", "found", "number", "size", "move", "inner", "rest", "total"] ["part", "machine", "region", "table"] (defScope (top 29)) := ⟨rfl, rfl, rfl, by decide +kernel, rfl, by decide +kernel, by decide +kernel⟩
theorem ok_best_rests (R : Raw K mg "best_rests" (top 29) ["part", "machine", "region", "table"]) (B : Bi mg) (D_extent : Def P w K mg base 1 "extent" ["part", "region"] spExtent) (D_reached : Def P w K mg base 1 "reached" ["moves", "far"] spReached) (D_looks_at : Def P w K mg base 1 "looks_at" ["moves", "state", "left"] spLooksAt) (D_piece : Def P w K mg base 1 "piece" ["part", "region", "offset", "number", "size"] spPiece) : Def P w K mg base 2 "best_rests" ["part", "machine", "region", "table"] spBestRests := by
  refine R.ok sc_best_rests (fun vs H Q E h => ?_) (fun f cdv A outer s H vs Q E hr h => ?_)
  · obtain ⟨_, _, _, _, _, _, _, _, _, _, _, _, _, rfl, _⟩ := h; rfl
  obtain ⟨v0, v1, v2, tb, ps, lc, ac, nm, jt, e, m, r, kvs, rfl, h0, h1, h2, htb, hml, hmt, hme, hf, hpc, q⟩ := h
  refine ⟨_, (pss_cons (ps_asg (pv 1) (pg_tup rfl (pgs_cons (pg_name (i := 4) sc_best_rests.nd rfl (.inl rfl)) (pgs_cons (pg_name (i := 5) sc_best_rests.nd rfl (.inl rfl)) pgs_nil))))
    (pss_cons (ps_set (i := 6) sc_best_rests.nd rfl (.inl rfl) (pe_d D_extent hr (by rfl) (pa_cons (pv 0) (pa_cons (pv 2) pa_nil))))
    (pss_cons (ps_set (i := 7) sc_best_rests.nd rfl (.inl rfl) pe_dnewT)
    (pss_cons (ps_for PassesOwn.never rfl (pi_reversed (by rfl) B.reversed (pa_cons (pe_d D_reached hr (by rfl) (pa_cons (pv 5) (pa_cons (pv 6) pa_nil))) pa_nil)) (pg_tup rfl (pgs_cons (pg_name (i := 8) sc_best_rests.nd rfl (.inl rfl)) (pgs_cons (pg_name (i := 9) sc_best_rests.nd rfl (.inl rfl)) pgs_nil)))
      (pss_cons (ps_set (i := 10) sc_best_rests.nd rfl (.inl rfl) pe_non)
      (pss_cons (ps_if (PW.pt (pw_and (pt_cmpR op_eq (pv 9) (pv 6) (nomark _)) (pw_and1 (pt_val (pe_ix (ix_sq (K := K) rfl) (pv 4) (pv 8) (fun _ _ => rfl))))))
        (pss_one (ps_set (i := 10) sc_best_rests.nd rfl (.inl rfl) (pe_tup (pa_cons pe_int (pa_cons (pe_tup pa_nil) pa_nil)))))
        pss_nil)
      (pss_cons (ps_for PassesOwn.never rfl (pi_list (pe_d D_looks_at hr (by rfl) (pa_cons (pv 5) (pa_cons (pv 8) (pa_cons (pe_op op_sub (pv 6) (pv 9)) pa_nil))))) (pg_tup rfl (pgs_cons (pg_name (i := 11) sc_best_rests.nd rfl (.inl rfl)) (pgs_cons (pg_name (i := 12) sc_best_rests.nd rfl (.inl rfl)) pgs_nil)))
        (pss_cons (ps_set (i := 13) sc_best_rests.nd rfl (.inl rfl) (pe_ix (ix_sq (K := K) rfl) (pv 5) (pv 11) (fun _ _ => rfl)))
        (pss_cons (ps_set (i := 14) sc_best_rests.nd rfl (.inl rfl) (pe_dget (hu_of hr) (pv 3) (pe_d D_piece hr (by rfl) (pa_cons (pv 0) (pa_cons (pv 2) (pa_cons (pv 9) (pa_cons (pe_ix (ix_sq (K := K) rfl) (pv 13) pe_int (fun _ _ => rfl)) (pa_cons (pv 12) pa_nil)))))) (fun _ _ => rfl)))
        (pss_cons (ps_set (i := 15) sc_best_rests.nd rfl (.inl rfl) (pe_dget (hu_of hr) (pv 7) (pe_tup (pa_cons (pe_ix (ix_sq (K := K) rfl) (pv 13) pe_int (fun _ _ => rfl)) (pa_cons (pe_op op_add (pv 9) (pv 12)) pa_nil))) (fun _ _ => rfl)))
        (pss_one (ps_if (PW.pt (pw_and (pt_cmpR op_notNa (pv 14) pe_non (nomark _)) (pw_and1 (pt_cmpR op_notNa (pv 15) pe_non (nomark _)))))
          (pss_cons (ps_set (i := 16) sc_best_rests.nd rfl (.inl rfl) (pe_op op_add (pe_op op_add (pe_ix (ix_sq (K := K) rfl) (pv 13) pe_int (fun _ _ => rfl)) (pe_ix (ix_sq (K := K) rfl) (pv 14) pe_int (fun _ _ => rfl))) (pe_ix (ix_sq (K := K) rfl) (pv 15) pe_int (fun _ _ => rfl))))
          (pss_one (ps_if (PW.pt (pw_or (pt_cmpR op_isNa (pv 10) pe_non (nomark _)) (pw_or1 (pt_cmpR op_lt (pv 16) (pe_ix (ix_sq (K := K) rfl) (pv 10) pe_int (fun _ _ => rfl)) (nomark _)))))
            (pss_one (ps_set (i := 10) sc_best_rests.nd rfl (.inl rfl) (pe_tup (pa_cons (pv 16) (pa_cons (pe_op (op_catTX (K := K) rfl) (pe_tup (pa_cons (pe_tup (pa_cons (pv 11) (pa_cons (pv 12) (pa_cons (pe_ix (ix_sq (K := K) rfl) (pv 14) pe_int (fun _ _ => rfl)) pa_nil)))) pa_nil)) (pe_ix (ix_sq (K := K) rfl) (pv 15) pe_int (fun _ _ => rfl))) pa_nil)))))
            pss_nil)))
          pss_nil))))))
      (pss_one (ps_dput (hu_of hr) (pv 7) (pe_tup (pa_cons (pv 8) (pa_cons (pv 9) pa_nil))) (pv 10) rfl))))))
    (pss_one (ps_ret (pv 7))))))), ?_⟩
  walk_at "go"
  refine w_gtupD (ds := [.tuple (m.ends.map PyData.bool), .tuple (m.mvs.map encMv)]) h1 (Tp.refl _) rfl (fun us hus => ?_)
  cases hus with
  | cons he hus => cases hus with
  | cons hm hus => cases hus with
  | nil =>
  rename_i ve vm
  walk_at "go"
  refine ⟨v0, v2, ac, nm, jt, e, r, rfl, h0, h2, ?_⟩
  walk_at "go"
  refine w_dnewT fun rt H1 rtn hrt g1 => ?_
  walk_at "go"
  refine w_forRev ?_
  walk_at "go"
  refine ⟨vm, m.mvs, ext ac r, rfl, hm.mono g1.tp, hml, hf, fun la H2 SL g2 lan hSL hSLl hSLm hSLp => ?_⟩
  walk_at "go"
  obtain ⟨svs, hsl, hsr⟩ := hSL
  have G2 := g1.trans g2
  have htr : tb ≠ rt := fun z => by subst z; rw [htb] at rtn; cases rtn
  have hlr : la ≠ rt := fun z => by subst z; rw [hrt] at lan; cases lan
  have hsvl : svs.length = SL.length := by rw [← hsr.length, List.length_map]
  refine forRev (SqL.of hsl) (fun i σ H' => ∃ d8 d9 d10 d11 d12 d13 d14 d15 d16, σ = [some v0, some v1, some v2, some (.ref tb), some ve, some vm, some (.int (ext ac r)), some (.ref rt), d8, d9, d10, d11, d12, d13, d14, d15, d16] ∧ Gr (S1 rt) H2 H' ∧ ∃ kvs', H' rt = some (.dT kvs') ∧ kvs'.length ≤ i ∧
    ∀ j s o, SL.length - i ≤ j → SL[j]? = some (s, o) → ∃ v x, valV kvs' (skK s o) = some v ∧ Rep H' (encB x) v ∧ IsBest (fun row c => RestR ps lc row ac m r s o c) x) ⟨_, _, _, _, _, _, _, _, _, rfl, Gr.refl _ _, [], g2.dT id hrt, Nat.le_refl _, fun j s o hj hs => absurd (List.getElem?_eq_some_iff.mp hs).1 (by omega)⟩ (fun i σ H' hp => by obtain ⟨_, _, _, _, _, _, _, _, _, _, g, _⟩ := hp; exact SqL.of (g.lst (fun z => hlr z) hsl)) (fun i x σ H3 hi hx hp => ?_) (fun σ H3 hp => ?_)
  · obtain ⟨d8, d9, d10, d11, d12, d13, d14, d15, d16, rfl, g3, kvs', hrt3, hkl, hdone⟩ := hp
    have hlst := hsvl ▸ hi
    obtain ⟨d, hd, hxr⟩ := LD.getI hsr hx
    obtain ⟨⟨s, o⟩, hso, rfl⟩ := map_getI hd
    have hre := (hSLm s o).mp (List.mem_of_getElem? hso)
    have hol : o ≤ ext ac r := hre.le
    have hx3 := hxr.mono g3.tp
    have GH : ∀ {H' : Hp}, Gr (S1 rt) H2 H' → Gr S0 H H' := fun g => G2.local g fun a z => by rw [show a = rt from z]; exact rtn
    have T3 := (GH g3).tp
    have hse : s < m.ends.length := by
      rcases List.mem_cons.mp hre.tgt with z | z
      · omega
      · obtain ⟨mv, hmv, e⟩ := List.mem_map.mp z
        rw [← e]; exact hmt mv hmv
    walk_at "go"
    refine w_gtupD (ds := [.int s, .int o]) hx3 (Tp.refl _) rfl (fun us hus => ?_)
    cases hus with
    | cons q0 hus => cases hus with
    | cons q1 hus => cases hus with
    | nil =>
    have := Rep.intI q0; subst this
    have := Rep.intI q1; subst this
    have he3 := he.mono T3
    walk_at "go"
    refine join_at (A := fun (fv : V) (H4 : Hp) => ∃ x0 : Option (Nat × Row), Gr S0 H3 H4 ∧ Rep H4 (encB x0) fv ∧ IsBest (fun row c => row = Row.nil ∧ c = 0 ∧ o = ext ac r ∧ m.ends[s]? = some true) x0) ?T (fun key => ?use) ?pf
    case use =>
      refine if_of (fun h => ?_) (fun h => ?_)
      · have heo : o = ext ac r := by have := of_decide_eq_true h; omega
        walk_at "go"
        refine w_ix he3 (Tp.refl _) (by omega) (by rw [Int.toNat_natCast, List.getElem?_map, List.getElem?_eq_getElem hse]; rfl) (fun y hy => ?_)
        have := Rep.blI hy
        subst this
        refine ⟨_, rfl, if_of (fun h => ?_) (fun h => ?_)⟩
        · walk_at "go"
          refine tup_new .nil (Nat.zero_le _) fun p1 H4 _ _ g4 hp1 => ?_
          walk_at "go"
          refine tup_new (ds := [.int 0, .tuple []]) (by walk_at "repl") (by simp) fun p2 H5 _ _ g5 hp2 => ?_
          walk_at "go"
          generalize V.ref p2 = fv at hp2 ⊢
          exact key fv H5 ⟨some (0, .nil), g4.trans g5, hp2, ⟨rfl, rfl, heo, by rw [List.getElem?_eq_getElem hse]; exact congrArg some h⟩, fun _ _ _ => Nat.zero_le _⟩
        · walk_at "go"
          exact key .non H3 ⟨none, Gr.refl _ _, .non, fun row c hc => by
            have := hc.2.2.2
            rw [List.getElem?_eq_getElem hse, h] at this
            cases this⟩
      · refine if_of (fun h => by cases h) (fun _ => ?_)
        walk_at "go"
        exact key .non H3 ⟨none, Gr.refl _ _, .non, fun row c hc => by
          have := of_decide_eq_false h
          have := hc.2.2.1
          omega⟩
    case pf =>
      intro fv H4 ⟨x0, g4, hfv, hb⟩
      have e1 : (ext ac r : Int) - (o : Int) = ((ext ac r - o : Nat) : Int) := by omega
      rw [e1]
      refine ⟨vm, m.mvs, s, ext ac r - o, rfl, hm.mono (T3.trans g4.tp), hml, by omega, fun ka H5 KL g5 kan hKL hKLl hKLm => ?_⟩
      obtain ⟨kvs5, hk5, hkr⟩ := hKL
      have T5 : Tp H H5 := T3.trans (g4.tp.trans g5.tp)
      have hrt5 := g5.dT id (g4.dT id hrt3)
      have htb5 : H5 tb = some (.dT kvs) := g5.dT id (g4.dT id ((GH g3).dT id htb))
      refine forL (SqL.of hk5) (fun j σ H' => ∃ fv x d11 d12 d13 d14 d15 d16, σ = [some v0, some v1, some v2, some (.ref tb), some ve, some vm, some (.int (ext ac r)), some (.ref rt), some (.int (s : Nat)), some (.int (o : Nat)), some fv, d11, d12, d13, d14, d15, d16] ∧ Gr S0 H5 H' ∧ Rep H' (encB x) fv ∧ IsBest (fun row c => (row = Row.nil ∧ c = 0 ∧ o = ext ac r ∧ m.ends[s]? = some true) ∨ ∃ n z mv, (n, z) ∈ KL.take j ∧ m.mvs[n]? = some mv ∧ Gc (FillR ps lc (piece ac r mv.p o z)) (fun row c => RestR ps lc row ac m r mv.t (o + z) c) n z mv.c row c) x) ⟨fv, x0, _, _, _, _, _, _, rfl, Gr.refl _ _, hfv.mono g5.tp, hb.iff fun row c => ⟨fun h => h.elim id (fun ⟨n, z, mv, h, _⟩ => absurd h (by simp)), .inl⟩⟩ (fun j σ H' hp => by obtain ⟨_, _, _, _, _, _, _, _, _, g, _⟩ := hp; exact SqL.of (g.lst id hk5)) (fun j x σ H6 hj hp => ?_) (fun σ H6 hp => ?_)
      · obtain ⟨fv, xb, d11, d12, d13, d14, d15, d16, rfl, g6, hfv, hb⟩ := hp
        obtain ⟨d, hd, hxr⟩ := LD.getI hkr hj
        obtain ⟨⟨n, z⟩, hnz, rfl⟩ := map_getI hd
        obtain ⟨mv, hmv, hms, hz1, hz2, hz3⟩ := (hKLm n z).mp (List.mem_of_getElem? hnz)
        have hmm := List.mem_of_getElem? hmv
        have hml1 := (hml.2 mv hmm).1
        have hx6 := hxr.mono g6.tp
        have hm6 := hm.mono (T5.trans g6.tp)
        have et := take_get hnz
        walk_at "go"
        refine w_gtupD (ds := [.int n, .int z]) hx6 (Tp.refl _) rfl (fun us hus => ?_)
        cases hus with
        | cons q0 hus => cases hus with
        | cons q1 hus => cases hus with
        | nil =>
        have := Rep.intI q0; subst this
        have := Rep.intI q1; subst this
        walk_at "go"
        refine w_ix hm6 (Tp.refl _) (by omega) (by rw [Int.toNat_natCast, List.getElem?_map, hmv]; rfl) (fun y hy => ?_)
        change Rep H6 (.tuple [.int mv.o, .int mv.t, .int mv.p, .int mv.l, .int mv.m, .int mv.c]) y at hy
        walk_at "go"
        refine ⟨v0, v2, ac, nm, jt, e, r, o, mv.p, z, rfl, h0.mono (T5.trans g6.tp), h2.mono (T5.trans g6.tp), fun y7 H7 g7 hy7 => ?_⟩
        obtain ⟨b7, rfl, hb7⟩ := rgAt hy7
        obtain ⟨w1, x1, hw1, hr1, hbest1⟩ := hpc (piece ac r mv.p o z) ⟨s, o, mv, z, hre, hmm, hms, hz1, hz2, by omega, rfl⟩
        have htb7 : H7 tb = some (.dT kvs) := g7.dT id (g6.dT id htb5)
        have hrt7 : H7 rt = some (.dT kvs') := g7.dT id (g6.dT id hrt5)
        have hy7' := hy.mono g7.tp
        refine ⟨tb, w1, rfl, by rw [← hw1]; exact DGet.t htb7 hb7, ?_⟩
        walk_at "go"
        have e2 : (o : Int) + (z : Int) = ((o + z : Nat) : Int) := by omega
        rw [e2]
        refine tup_new (ds := [.int mv.t, .int (o + z : Nat)]) (by walk_at "repl") (by simp) fun p8 H8 _ _ g8 hp8 => ?_
        obtain ⟨b8, e8, hb8⟩ := skAt hp8
        cases e8
        have hrt8 : H8 rt = some (.dT kvs') := g8.dT id hrt7
        have hre2 : Reach m.mvs (ext ac r) mv.t (o + z) := .step hre hmm hms hz1 hz2 (by omega)
        obtain ⟨j2, hj2⟩ := List.mem_iff_getElem?.mp ((hSLm mv.t (o + z)).mpr hre2)
        have hj2' : SL.length - i ≤ j2 := by
          have h1 := (List.getElem?_eq_some_iff.mp hj2)
          have h2 := (List.getElem?_eq_some_iff.mp hso)
          obtain ⟨l1, e1'⟩ := h1
          obtain ⟨l2, e2'⟩ := h2
          by_cases hc : j2 < svs.length - 1 - i
          · have := List.pairwise_iff_getElem.mp hSLp j2 (svs.length - 1 - i) l1 l2 hc
            rw [e1', e2'] at this
            have this : o + z ≤ o := this
            omega
          · by_cases hc2 : j2 = svs.length - 1 - i
            · subst hc2
              rw [hso] at hj2
              injection hj2 with hj2
              injection hj2 with _ hj2
              omega
            · omega
        obtain ⟨w2, x2, hw2, hr2, hbest2⟩ := hdone j2 mv.t (o + z) hj2' hj2
        refine ⟨rt, w2, rfl, by rw [← hw2]; exact DGet.t hrt8 hb8, ?_⟩
        have T38 : Tp H3 H8 := g4.tp.trans (g5.tp.trans (g6.tp.trans (g7.tp.trans g8.tp)))
        have hr2' := hr2.mono T38
        have hr1' := hr1.mono (T3.trans T38)
        have hy8 := hy7'.mono g8.tp
        have hfv8 := hfv.mono (g7.tp.trans g8.tp)
        have g58 : Gr S0 H5 H8 := g6.trans (g7.trans g8)
        rw [et]
        have hiff : ∀ row c, ((row = Row.nil ∧ c = 0 ∧ o = ext ac r ∧ m.ends[s]? = some true) ∨ ∃ n' z' mv, (n', z') ∈ KL.take j ++ [(n, z)] ∧ m.mvs[n']? = some mv ∧ Gc (FillR ps lc (piece ac r mv.p o z')) (fun row c => RestR ps lc row ac m r mv.t (o + z') c) n' z' mv.c row c) ↔
            ((row = Row.nil ∧ c = 0 ∧ o = ext ac r ∧ m.ends[s]? = some true) ∨ ∃ n z mv, (n, z) ∈ KL.take j ∧ m.mvs[n]? = some mv ∧ Gc (FillR ps lc (piece ac r mv.p o z)) (fun row c => RestR ps lc row ac m r mv.t (o + z) c) n z mv.c row c) ∨ Gc (FillR ps lc (piece ac r mv.p o z)) (fun row c => RestR ps lc row ac m r mv.t (o + z) c) n z mv.c row c := fun row c => by
          constructor
          · rintro (h | ⟨n', z', mv', h1, h2, h3⟩)
            · exact .inl (.inl h)
            · rcases List.mem_append.mp h1 with h1 | h1
              · exact .inl (.inr ⟨n', z', mv', h1, h2, h3⟩)
              · have := List.mem_singleton.mp h1
                cases this
                rw [hmv] at h2
                cases h2
                exact .inr h3
          · rintro ((h | ⟨n', z', mv', h1, h2, h3⟩) | h)
            · exact .inl h
            · exact .inr ⟨n', z', mv', List.mem_append_left _ h1, h2, h3⟩
            · exact .inr ⟨n, z, mv, List.mem_append_right _ (List.mem_singleton.mpr rfl), hmv, h⟩
        walk_at "go"
        cases x1 with
        | none =>
          have := hr1'.nonI
          subst this
          refine w_notN (b := false) rfl ?_
          refine ⟨_, rfl, if_of (fun h => by cases h) (fun _ => ?_)⟩
          refine if_of (fun h => by cases h) (fun _ => ?_)
          exact ⟨fv, xb, _, _, _, _, _, _, rfl, g58, hfv8, hb.none_or (fun row c ⟨i', c1, _, _, h, _⟩ => hbest1 i' c1 h) hiff⟩
        | some y1 =>
        obtain ⟨c1, i1⟩ := y1
        obtain ⟨a1, us1, rfl, ha1, hl1⟩ := Rep.tupI hr1'
        refine w_notN (b := true) rfl ?_
        refine ⟨_, rfl, if_of (fun _ => ?_) (fun h => by cases h)⟩
        walk_at "go"
        cases x2 with
        | none =>
          have := hr2'.nonI
          subst this
          refine w_notN (b := false) rfl ?_
          refine ⟨_, rfl, if_of (fun h => by cases h) (fun _ => ?_)⟩
          exact ⟨fv, xb, _, _, _, _, _, _, rfl, g58, hfv8, hb.none_or (fun row c ⟨_, _, r', c2, _, h, _⟩ => hbest2 r' c2 h) hiff⟩
        | some y2 =>
        obtain ⟨c2, i2⟩ := y2
        obtain ⟨a2, us2, rfl, ha2, hl2⟩ := Rep.tupI hr2'
        refine w_notN (b := true) rfl ?_
        refine ⟨_, rfl, if_of (fun _ => ?_) (fun h => by cases h)⟩
        change Rep H8 (.tuple [.int c1, .tuple (rowL i1)]) (.ref a1) at hr1'
        change Rep H8 (.tuple [.int c2, .tuple (rowL i2)]) (.ref a2) at hr2'
        have hprod := hbest1.prod (k := mv.c) (n := n) (z := z) hbest2
        have hlen2 := rest_len (fun m' hm' => (hml.2 m' hm').1) hbest2.1
        walk_at "go"
        have e3 : (mv.c : Int) + (c1 : Int) + (c2 : Int) = ((mv.c + c1 + c2 : Nat) : Int) := by omega
        rw [e3]
        refine join_p (A := IsBest (fun row c => (row = Row.nil ∧ c = 0 ∧ o = ext ac r ∧ m.ends[s]? = some true) ∨ ∃ n' z' mv, (n', z') ∈ KL.take j ++ [(n, z)] ∧ m.mvs[n']? = some mv ∧ Gc (FillR ps lc (piece ac r mv.p o z')) (fun row c => RestR ps lc row ac m r mv.t (o + z') c) n' z' mv.c row c) (some (mv.c + c1 + c2, .cons n z i1 i2))) ?T2 (fun key => ?use2) ?pf2
        case use2 =>
          cases xb with
          | none =>
            have hfe := hfv8.nonI
            refine w_isN (b := true) (by rw [hfe]; rfl) ?_
            refine ⟨_, rfl, if_of (fun _ => ?_) (fun h => by cases h)⟩
            refine if_of (fun _ => ?_) (fun h => by cases h)
            exact key (hb.new hprod hiff)
          | some y0 =>
            obtain ⟨c0, row0⟩ := y0
            obtain ⟨a0, us0, hfe, ha0, hl0⟩ := Rep.tupI hfv8
            refine w_isN (b := false) (by rw [hfe]; rfl) ?_
            refine ⟨_, rfl, if_of (fun h => by cases h) (fun _ => ?_)⟩
            have hfv9 := hfv8
            change Rep H8 (.tuple [.int c0, .tuple (rowL row0)]) fv at hfv9
            walk_at "go"
            refine if_of (fun h => ?_) (fun h => ?_)
            · have := of_decide_eq_true h
              exact key (hb.less hprod (by omega) hiff)
            · have := of_decide_eq_false h
              exact ⟨_, _, _, _, _, _, _, _, rfl, g58, hfv8, hb.more hprod (by omega) hiff⟩
        case pf2 =>
          intro hnew
          walk_at "go"
          rename_i vi1 hvi1
          refine tup_new (ds := [.int n, .int z, .tuple (rowL i1)]) (by walk_at "repl") (by simp) fun p9 H9 _ _ g9 hp9 => ?_
          walk_at "go"
          refine tup_new (ds := [.tuple [.int n, .int z, .tuple (rowL i1)]]) (.cons hp9 .nil) (by simp) fun p10 H10 _ _ g10 hp10 => ?_
          have hr2x := hr2'.mono (g9.tp.trans g10.tp)
          walk_at "go"
          rename_i vi2 hvi2
          refine w_catT hp10 hvi2 (by simp) (by simp; omega) fun v11 H11 g11 hv11 => ?_
          walk_at "go"
          refine tup_new (ds := [.int (mv.c + c1 + c2 : Nat), .tuple (.tuple [.int n, .int z, .tuple (rowL i1)] :: rowL i2)]) (.cons (.int _) (.cons hv11 .nil)) (by simp) fun p12 H12 _ _ g12 hp12 => ?_
          exact ⟨_, some (mv.c + c1 + c2, .cons n z i1 i2), _, _, _, _, _, _, rfl, g58.trans (g9.trans (g10.trans (g11.trans g12))), hp12, hnew⟩
      · obtain ⟨fv, xb, d11, d12, d13, d14, d15, d16, rfl, g6, hfv, hb⟩ := hp
        have hkl' : kvs5.length = KL.length := by rw [← hkr.length, List.length_map]
        rw [hkl', List.take_length] at hb
        have hb2 : IsBest (fun row c => RestR ps lc row ac m r s o c) xb := hb.iff fun row c => by
          cases row with
          | nil =>
            rw [rest_nil]
            constructor
            · rintro ⟨h1, h2, h3⟩
              exact .inl ⟨rfl, h3, h1, h2⟩
            · rintro (⟨_, h1, h2, h3⟩ | ⟨n, z, mv, _, _, i', c1, r', c2, _, _, h, _⟩)
              · exact ⟨h2, h3, h1⟩
              · cases h
          | cons n z i' rest =>
            rw [rest_cons]
            constructor
            · rintro ⟨mv, c1, c2, h1, h2, h3, h4, h5, h6, h7, h8⟩
              exact .inr ⟨n, z, mv, (hKLm n z).mpr ⟨mv, h1, h2, h3, h4, by omega⟩, h1, i', c1, rest, c2, h6, h7, rfl, h8⟩
            · rintro (⟨h, _⟩ | ⟨n', z', mv, h1, h2, i2, c1, r', c2, h3, h4, h, h5⟩)
              · cases h
              · cases h
                obtain ⟨mv', e1', e2', e3', e4', e5'⟩ := (hKLm n z).mp h1
                rw [h2] at e1'
                cases e1'
                exact ⟨mv, c1, c2, h2, e2', e3', e4', by omega, h3, h4, h5⟩
        have hrt6 := g6.dT id hrt5
        have g36 : Gr S0 H3 H6 := g4.trans (g5.trans g6)
        walk_at "go"
        refine tup_new (ds := [.int s, .int o]) (by walk_at "repl") (by simp) fun p8 H8 _ _ g8 hp8 => ?_
        obtain ⟨b8, e8, hb8⟩ := skAt hp8
        cases e8
        have hrt8 := g8.dT id hrt6
        have hlen := length_putK kvs' (skK s o) fv
        refine ⟨rt, _, rfl, DPut.t hrt8 hb8 (small6 (by omega)), ?_⟩
        refine ⟨_, _, _, _, _, _, _, _, _, rfl, (g3.trans (g36.any.trans g8.any)).setT (.inr rfl) hrt8, _, upd_same, by omega, fun j s' o' hj hs' => ?_⟩
        have tpe : Tp H8 (upd H8 rt (.dT (putK kvs' (skK s o) fv))) := Tp.setT hrt8
        rw [valV_put]
        by_cases hk : skK s' o' = skK s o
        · obtain ⟨rfl, rfl⟩ := skK_inj hk
          rw [if_pos rfl]
          exact ⟨fv, xb, rfl, hfv.mono (g8.tp.trans tpe), hb2⟩
        · rw [if_neg hk]
          have hjne : j ≠ svs.length - 1 - i := fun z => by
            subst z
            rw [hso] at hs'
            cases hs'
            exact hk rfl
          obtain ⟨v', x', h1, h2, h3⟩ := hdone j s' o' (by omega) hs'
          exact ⟨v', x', h1, h2.mono (g36.tp.trans (g8.tp.trans tpe)), h3⟩
  · obtain ⟨d8, d9, d10, d11, d12, d13, d14, d15, d16, rfl, g3, kvs', hrt3, hkl, hdone⟩ := hp
    rw [hsvl] at hdone
    walk_at "go"
    refine q rt H3 kvs' (G2.local g3 fun a z => by rw [show a = rt from z]; exact rtn) rtn hrt3 (fun s o hs => ?_)
    obtain ⟨j, hj⟩ := List.mem_iff_getElem?.mp ((hSLm s o).mpr hs)
    exact hdone j s o (by omega) hj
end
end Sr
/-! SrC: best_table, best. -/
namespace Sr
open PySem PySem.Spec PyProof.Rows L2
local macro_rules | `(tactic| walk_at "tp") => `(tactic| first
  | exact Tp.refl _
  | assumption
  | exact Gr.tp (by assumption)
  | (refine Tp.trans ?_ (by first | assumption | exact Gr.tp (by assumption)); walk_at "tp"))
local macro_rules | `(tactic| walk_at "gr") => `(tactic| first
  | exact Gr.refl _ _
  | assumption
  | exact Gr.any (by assumption)
  | (refine Gr.trans ?_ (by first | assumption | exact Gr.any (by assumption)); walk_at "gr"))
local macro_rules | `(tactic| walk_at "rep") => `(tactic| first
  | exact Rep.int _ | exact Rep.str _ | exact Rep.bl _ | exact Rep.non
  | assumption
  | (refine Rep.mono ?_ (by assumption); walk_at "tp"))
local macro_rules | `(tactic| walk_at "repl") => `(tactic| repeat first
  | exact RepL.nil
  | (apply RepL.cons; (· walk_at "rep")))
local macro_rules | `(tactic| walk_at "step") => `(tactic| first
  | ((with_reducible apply w_var); rfl)
  | (with_reducible apply w_c)
  | (with_reducible apply w_op)
  | (with_reducible apply w_I0)
  | ((with_reducible apply w_ix); (· assumption); (· walk_at "tp"); (· decide); (· rfl); (intro x hx; first | (have e := Rep.intI hx; subst e; clear hx) | (have e := Rep.strI hx; subst e; clear hx) | (have e := Rep.blI hx; subst e; clear hx) | skip))
  | ((with_reducible apply w_ixU); (· assumption); (· walk_at "tp"); (· decide); (· rfl))
  | (with_reducible apply w_eqS)
  | (with_reducible apply w_eqI)
  | (with_reducible apply w_eqB)
  | (with_reducible apply w_neB)
  | (with_reducible apply w_test)
  | (with_reducible apply w_tB)
  | (with_reducible apply w_and)
  | (with_reducible apply w_or)
  | (with_reducible apply w_not)
  | (with_reducible apply w_nil)
  | (with_reducible apply w_cons)
  | (with_reducible apply w_CB)
  | (with_reducible apply w_call)
  | (with_reducible apply w_seq)
  | (with_reducible apply w_asg)
  | (with_reducible apply w_gname)
  | (with_reducible apply w_drop)
  | (with_reducible apply w_ret)
  | (with_reducible apply w_ifS)
  | (with_reducible apply w_next)
  | (with_reducible apply w_ifE)
  | (with_reducible apply w_andV)
  | (with_reducible apply w_orV)
  | (with_reducible apply w_notV)
  | (with_reducible apply w_tupE)
  | (with_reducible apply w_lstE)
  | (with_reducible apply w_bl)
  | ((with_reducible apply w_aug); rfl)
  | (with_reducible apply w_ip)
  | (with_reducible apply w_for1)
  | (with_reducible apply w_for2)
  | (with_reducible apply w_forT)
  | (with_reducible apply w_forL)
  | ((with_reducible apply w_lenD); (· assumption); (· walk_at "tp"))
  | (with_reducible apply w_min)
  | (with_reducible apply w_intI)
  | (with_reducible apply w_intB)
  | ((with_reducible apply w_I); (· first | decide | exact (by decide : (1000 : Int) ≠ 0) | exact ⟨by decide, by decide⟩ | exact ⟨by decide, by decide, by decide⟩ | exact .inr ⟨by decide, by decide⟩ | exact .inl ⟨by decide, by decide⟩))
  | (with_reducible apply w_bm)
  | (with_reducible apply w_bm0)
  | ((with_reducible apply w_tyL); (· assumption))
  | (with_reducible apply w_gsub)
  | (with_reducible apply w_fld)
  | (with_reducible apply w_gcons)
  | (with_reducible apply w_gnil)
  | ((with_reducible apply w_gtup); (· assumption); (· walk_at "tp"); (· rfl))
  | (with_reducible apply w_meth)
  | (with_reducible apply w_lc1)
  | (with_reducible apply w_lcL)
  | (with_reducible apply w_lcT)
  | (with_reducible apply w_yes)
  | (with_reducible apply w_m1)
  | (with_reducible apply w_dnotin)
  | (with_reducible apply w_din)
  | (with_reducible apply w_dget)
  | (with_reducible apply w_dput)
  | ((with_reducible apply w_ixL); (· assumption); (· decide); (· rfl)))
local macro_rules | `(tactic| walk_at "go") => `(tactic| repeat walk_at "step")
local macro_rules | `(tactic| walk_at "set") => `(tactic| dsimp only [List.set_cons_succ, List.set_cons_zero])

/-- a grammar that the law draws, as far as best needs it -/
structure Good (ps : List Part) : Prop where
  len : ps.length ≤ 8
  stk : StK ps
  way : WayOk ps
  up : PartUp ps
  ends : ∀ p ∈ ps, match p with | .strip _ _ _ e => (∀ mv ∈ (machineOf e).mvs, mv.t < (machineOf e).ends.length) ∧ 0 < (machineOf e).ends.length | _ => True
  leaf : ∀ p ∈ ps, isStrip p = false → LeafOk p
def lcost (ps : List Part) (img : List Str) (r : Rg) : Nat := match ps[r.n]? with
  | some p => leafCost img p r
  | none => 0
section
variable {P : Program} {w : World} {K : PySem.W.Frag} {mg : Str → Option Value} {base : Heap} {Pt : Addr}
def spBestTable (Pt : Addr) : Sp := fun vs H Q _ => ∃ (v0 v1 v2 v3 : V) (ps : List Part) (r0 : Rg) (img : List Str), vs = [v0, v1, v2, v3] ∧ Rep H (partsD ps) v0 ∧ Rep H (encRg r0) v1 ∧ Rep H (.tuple (img.map PyData.str)) v2 ∧ Rep H noWish v3 ∧
  Good ps ∧ r0.n < ps.length ∧ r0.w ≤ 8 ∧ r0.h ≤ 8 ∧ r0.x ≤ 100 ∧ r0.y ≤ 100 ∧ ImgOk img ∧ GxR.TabG H Pt ∧
  ∀ (tb : Addr) (H' : Hp) (kvs : List (List L2.Key × V)) (v : V) (x : Option (Nat × Row)), Gr S0 H H' → H' tb = some (.dT kvs) → valV kvs (rgK r0) = some v → Rep H' (encB x) v → IsBest (FillR ps (lcost ps img) r0) x → Q (.ref tb) H'
theorem sc_best_table : FnScope ["parts", "region", "rows", "wishes", "machine_of", "table", "one", "part", "found"] ["parts", "region", "rows", "wishes"] (defScope (top 30)) := ⟨rfl, rfl, rfl, by decide +kernel, rfl, by decide +kernel, by decide +kernel⟩
theorem ok_best_table (R : Raw K mg "best_table" (top 30) ["parts", "region", "rows", "wishes"]) (B : Bi mg) (D_machines : Def P w K mg base 12 "machines" ["parts"] spMachines) (D_needed_with : Def P w K mg base 12 "needed_with" ["parts", "table", "region"] spNeeded) (D_allowed : Def P w K mg base 12 "allowed" ["parts", "region", "wishes"] (spAllowed Pt)) (D_is_strip : Def P w K mg base 12 "is_strip" ["part"] spIsStrip) (D_best_rests : Def P w K mg base 12 "best_rests" ["part", "machine", "region", "table"] spBestRests) (D_fits : Def P w K mg base 12 "fits" ["part", "region"] spFits) (D_leaf_cost : Def P w K mg base 12 "leaf_cost" ["part", "region", "rows"] spLeafCost) : Def P w K mg base 13 "best_table" ["parts", "region", "rows", "wishes"] (spBestTable Pt) := by
  refine R.ok sc_best_table (fun vs H Q E h => ?_) (fun f cdv A outer s H vs Q E hr h => ?_)
  · obtain ⟨_, _, _, _, _, _, _, rfl, _⟩ := h; rfl
  obtain ⟨v0, v1, v2, v3, ps, r0, img, rfl, h0, h1, h2, h3, gd, hn, hrw, hrh, hrx, hry, hio, hT, q⟩ := h
  refine ⟨_, (pss_cons (ps_set (i := 4) sc_best_table.nd rfl (.inl rfl) (pe_d D_machines hr (by rfl) (pa_cons (pv 0) pa_nil)))
    (pss_cons (ps_set (i := 5) sc_best_table.nd rfl (.inl rfl) pe_dnewT)
    (pss_cons (ps_for PassesOwn.never rfl (pi_list (pe_ix (ix_sq (K := K) rfl) (pe_d D_needed_with hr (by rfl) (pa_cons (pv 0) (pa_cons (pv 4) (pa_cons (pv 1) pa_nil)))) pe_int (fun _ _ => rfl))) (pg_name (i := 6) sc_best_table.nd rfl (.inl rfl))
      (pss_cons (ps_set (i := 7) sc_best_table.nd rfl (.inl rfl) (pe_ix (ix_sq (K := K) rfl) (pv 0) (pe_ix (ix_sq (K := K) rfl) (pv 6) pe_int (fun _ _ => rfl)) (fun _ _ => rfl)))
      (pss_cons (ps_set (i := 8) sc_best_table.nd rfl (.inl rfl) pe_non)
      (pss_cons (ps_if (pt_val (pe_d D_allowed hr (by rfl) (pa_cons (pv 0) (pa_cons (pv 6) (pa_cons (pv 3) pa_nil)))))
        (pss_one (ps_if (pt_val (pe_d D_is_strip hr (by rfl) (pa_cons (pv 7) pa_nil)))
          (pss_one (ps_set (i := 8) sc_best_table.nd rfl (.inl rfl) (pe_dget (hu_of hr) (pe_d D_best_rests hr (by rfl) (pa_cons (pv 7) (pa_cons (pe_ix (ix_sq (K := K) rfl) (pv 4) (pe_ix (ix_sq (K := K) rfl) (pv 6) pe_int (fun _ _ => rfl)) (fun _ _ => rfl)) (pa_cons (pv 6) (pa_cons (pv 5) pa_nil))))) (pe_tup (pa_cons pe_int (pa_cons pe_int pa_nil))) (fun _ _ => rfl))))
          (pss_one (ps_if (pt_val (pe_d D_fits hr (by rfl) (pa_cons (pv 7) (pa_cons (pv 6) pa_nil))))
            (pss_one (ps_set (i := 8) sc_best_table.nd rfl (.inl rfl) (pe_tup (pa_cons (pe_d D_leaf_cost hr (by rfl) (pa_cons (pv 7) (pa_cons (pv 6) (pa_cons (pv 2) pa_nil)))) (pa_cons (pe_tup pa_nil) pa_nil)))))
            pss_nil))))
        pss_nil)
      (pss_one (ps_dput (hu_of hr) (pv 5) (pv 6) (pv 8) rfl))))))
    (pss_one (ps_ret (pv 5)))))), ?_⟩
  walk_at "go"
  refine ⟨v0, ps, rfl, h0, by have := gd.len; omega, gd.stk, fun vw H1 g1 hw => ?_⟩
  walk_at "go"
  refine w_dnewT fun tb H2 tbn htb g2 => ?_
  walk_at "go"
  have T2 : Tp H H2 := g1.tp.trans g2.tp
  refine ⟨v0, vw, v1, ps, r0, rfl, h0.mono T2, hw.mono g2.tp, h1.mono T2, gd.way, gd.up, gd.len, hn, hrw, hrh, fun t la many H3 L g3 ht lan hL hLl nd => ?_⟩
  walk_at "go"
  obtain ⟨lvs, hl, hlr⟩ := hL
  have tbl : la ≠ tb := fun z => by subst z; rw [htb] at lan; cases lan
  have htb3 := g3.dT id htb
  have tbnH : H tb = none := g1.nn _ tbn
  have G3 : Gr S0 H H3 := (g1.trans g2).trans g3
  refine forL (SqL.of hl) (fun i σ H' => ∃ d6 d7 d8, σ = [some v0, some v1, some v2, some v3, some vw, some (.ref tb), d6, d7, d8] ∧ Gr (S1 tb) H3 H' ∧ ∃ kvs, H' tb = some (.dT kvs) ∧ kvs.length ≤ i ∧
    ∀ r ∈ L.take i, ∃ v x, valV kvs (rgK r) = some v ∧ Rep H' (encB x) v ∧ IsBest (FillR ps (lcost ps img) r) x) ⟨_, _, _, rfl, Gr.refl _ _, [], htb3, Nat.le_refl _, fun r hr => absurd hr (by simp)⟩ (fun i σ H' hp => by obtain ⟨_, _, _, _, g, _⟩ := hp; exact SqL.of (g.lst (fun z => tbl z) hl)) (fun i x σ H4 hi hp => ?_) (fun σ H4 hp => ?_)
  · obtain ⟨d6, d7, d8, rfl, g4, kvs, htb4, hkl, hdone⟩ := hp
    obtain ⟨d, hd, hxr⟩ := LD.getI hlr hi
    obtain ⟨r, hr, rfl⟩ := map_getI hd
    have hrL := List.mem_of_getElem? hr
    have hin := nd.ins r hrL
    have et := take_get hr
    have hx4 := hxr.mono g4.tp
    have GH : ∀ {H' : Hp}, Gr (S1 tb) H3 H' → Gr S0 H H' := fun g => G3.local g fun a z => by rw [show a = tb from z]; exact tbnH
    have T4 := (GH g4).tp
    have h04 := h0.mono T4
    change Rep H4 (.tuple (ps.map encPart)) v0 at h04
    have hpn : ps[r.n]? = some (ps[r.n]'hin.n) := List.getElem?_eq_getElem _
    have hpm : ps[r.n]'hin.n ∈ ps := List.getElem_mem _
    obtain ⟨bx, rfl, hbx⟩ := rgAt hx4
    have hx4' := hx4
    change Rep H4 (.tuple [.int r.n, .int r.x, .int r.y, .int r.w, .int r.h]) (.ref bx) at hx4'
    have hil : i < 60000 := by have := (List.getElem?_eq_some_iff.mp hr).1; omega
    walk_at "go"
    refine w_ix h04 (Tp.refl _) (by omega) (by rw [Int.toNat_natCast, List.getElem?_map, hpn]; rfl) (fun y hy => ?_)
    walk_at "go"
    refine ⟨v0, .ref bx, v3, ps, r, rfl, h04, hx4, h3.mono T4, hin.n, (GH g4).tb _ hT, fun H5 g5 => ?_⟩
    refine ⟨_, rfl, if_of (fun _ => ?_) (fun h => by cases h)⟩
    walk_at "go"
    refine ⟨y, ps[r.n]'hin.n, rfl, hy.mono g5.tp, fun H6 g6 => ?_⟩
    have hy6 := hy.mono (g5.tp.trans g6.tp)
    have g46 : Gr S0 H4 H6 := g5.trans g6
    refine join_at (A := fun (fv : V) (H7 : Hp) => ∃ x, Gr S0 H4 H7 ∧ Rep H7 (encB x) fv ∧ IsBest (FillR ps (lcost ps img) r) x) ?T (fun key => ?use) ?pf
    case use =>
      cases ep : ps[r.n]'hin.n with
      | strip ac nm jt e =>
        rw [ep] at hy6
        refine ⟨_, rfl, if_of (fun _ => ?_) (fun h => by cases h)⟩
        have hw6 : Rep H6 (.tuple (ps.map encWay)) vw := hw.mono (g2.tp.trans (g3.tp.trans (g4.tp.trans g46.tp)))
        have hx6 := hx4.mono g46.tp
        have hx6' := hx4'.mono g46.tp
        walk_at "go"
        refine w_ix hw6 (Tp.refl _) (by omega) (by rw [Int.toNat_natCast, List.getElem?_map, hpn, ep]; rfl) (fun z hz => ?_)
        have hwy := gd.way _ hpm
        rw [ep] at hwy
        have hen := gd.ends _ hpm
        rw [ep] at hen
        walk_at "go"
        have hpcE : ∀ r', PcOf ps r r' ↔ Pc ac (machineOf e).mvs r r' := fun r' => by unfold PcOf; rw [hpn, ep]
        refine ⟨y, z, .ref bx, tb, ps, lcost ps img, ac, nm, jt, e, machineOf e, r, kvs, rfl, hy6, hz, hx6, g46.dT id htb4, hwy, hen.1, hen.2, ?_, fun r' hpc => ?_, fun rt H7 kvs' g7 rtn hrt hall => ?_⟩
        · unfold ext
          have := hin.x1; have := hin.x2; have := hin.y1; have := hin.y2
          cases ac
          · rw [if_neg (by decide)]; omega
          · rw [if_pos rfl]; omega
        · have hpc' := (hpcE r').mpr hpc
          have hr'L := nd.all r hrL r' hpc'
          have hlt := (pc_in gd.up hin hpc').2
          obtain ⟨j, hj⟩ := List.mem_iff_getElem?.mp hr'L
          have hji : j < i := by
            obtain ⟨l1, e1⟩ := List.getElem?_eq_some_iff.mp hj
            obtain ⟨l2, e2⟩ := List.getElem?_eq_some_iff.mp hr
            by_cases hc : i < j
            · have := List.pairwise_iff_getElem.mp nd.up i j l2 l1 hc
              rw [e1, e2] at this
              omega
            · by_cases hc2 : j = i
              · subst hc2
                rw [hr] at hj
                cases hj
                omega
              · omega
          obtain ⟨v', x', a1, a2, a3⟩ := hdone r' (by
            rw [List.mem_iff_getElem?]
            exact ⟨j, by rw [List.getElem?_take, if_pos hji]; exact hj⟩)
          exact ⟨v', x', a1, a2.mono g46.tp, a3⟩
        · obtain ⟨v', x', a1, a2, a3⟩ := hall 0 0 .zero
          walk_at "go"
          refine tup_new (ds := [.int (0 : Nat), .int (0 : Nat)]) (by walk_at "repl") (by simp) fun p8 H8 _ _ g8 hp8 => ?_
          obtain ⟨b8, e8, hb8⟩ := skAt hp8
          cases e8
          refine ⟨rt, v', rfl, by rw [← a1]; exact DGet.t (g8.dT id hrt) hb8, ?_⟩
          walk_at "go"
          refine key v' H8 ⟨x', g46.trans (g7.trans g8), a2.mono g8.tp, a3.iff fun row c => ?_⟩
          unfold FillR
          rw [hpn, ep]
      | plain nm lb c b =>
        have lo := gd.leaf _ hpm (by rw [ep]; rfl)
        rw [ep] at hy6 lo
        refine ⟨_, rfl, if_of (fun h => by cases h) (fun _ => ?_)⟩
        walk_at "go"
        refine ⟨y, .ref bx, _, r, rfl, hy6, hx4.mono g46.tp, lo, ?_⟩
        refine ⟨_, rfl, if_of (fun hf => ?_) (fun hf => by cases hf)⟩
        walk_at "go"
        refine ⟨y, .ref bx, v2, _, r, img, rfl, hy6, hx4.mono g46.tp, h2.mono (T4.trans g46.tp), lo, hf, ?_, hio, ?_⟩
        · have := hin.n; have := gd.len; have := hin.x1; have := hin.x2; have := hin.y1; have := hin.y2
          exact ⟨by omega, by omega, by omega, by omega, by omega⟩
        walk_at "go"
        refine tup_new .nil (Nat.zero_le _) fun p8 H8 _ _ g8 hp8 => ?_
        walk_at "go"
        refine tup_new (ds := [.int (leafCost img (.plain nm lb c b) r : Nat), .tuple []]) (by walk_at "repl") (by simp) fun p9 H9 _ _ g9 hp9 => ?_
        walk_at "go"
        generalize V.ref p9 = fv at hp9 ⊢
        refine key fv H9 ⟨some (leafCost img (.plain nm lb c b) r, .nil), g46.trans (g8.trans g9), hp9, ?_⟩
        have hlc : lcost ps img r = leafCost img (.plain nm lb c b) r := by unfold lcost; rw [hpn, ep]
        have hfr : ∀ row c', FillR ps (lcost ps img) r row c' ↔ row = .nil ∧ c' = leafCost img (.plain nm lb c b) r := fun row c' => by
          unfold FillR
          rw [hpn, ep, ← hlc]
          exact ⟨fun h => ⟨h.1, h.2.2⟩, fun h => ⟨h.1, hf, h.2⟩⟩
        exact ⟨(hfr _ _).mpr ⟨rfl, rfl⟩, fun row' c' h' => by rw [((hfr _ _).mp h').2]; exact Nat.le_refl _⟩
      | shape nm lb c rows =>
        have lo := gd.leaf _ hpm (by rw [ep]; rfl)
        rw [ep] at hy6 lo
        refine ⟨_, rfl, if_of (fun h => by cases h) (fun _ => ?_)⟩
        walk_at "go"
        refine ⟨y, .ref bx, _, r, rfl, hy6, hx4.mono g46.tp, lo, ?_⟩
        have hfr : ∀ row c', FillR ps (lcost ps img) r row c' ↔ row = .nil ∧ fitsB (.shape nm lb c rows) r = true ∧ c' = leafCost img (.shape nm lb c rows) r := fun row c' => by
          have hlc : lcost ps img r = leafCost img (.shape nm lb c rows) r := by unfold lcost; rw [hpn, ep]
          unfold FillR
          rw [hpn, ep, ← hlc]
        refine ⟨_, rfl, if_of (fun hf => ?_) (fun hf => ?_)⟩
        · walk_at "go"
          refine ⟨y, .ref bx, v2, _, r, img, rfl, hy6, hx4.mono g46.tp, h2.mono (T4.trans g46.tp), lo, hf, ?_, hio, ?_⟩
          · have := hin.n; have := gd.len; have := hin.x1; have := hin.x2; have := hin.y1; have := hin.y2
            exact ⟨by omega, by omega, by omega, by omega, by omega⟩
          walk_at "go"
          refine tup_new .nil (Nat.zero_le _) fun p8 H8 _ _ g8 hp8 => ?_
          walk_at "go"
          refine tup_new (ds := [.int (leafCost img (.shape nm lb c rows) r : Nat), .tuple []]) (by walk_at "repl") (by simp) fun p9 H9 _ _ g9 hp9 => ?_
          walk_at "go"
          generalize V.ref p9 = fv at hp9 ⊢
          refine key fv H9 ⟨some (leafCost img (.shape nm lb c rows) r, .nil), g46.trans (g8.trans g9), hp9, ?_⟩
          exact ⟨(hfr _ _).mpr ⟨rfl, hf, rfl⟩, fun row' c' h' => by rw [((hfr _ _).mp h').2.2]; exact Nat.le_refl _⟩
        · walk_at "go"
          exact key .non H6 ⟨none, g46, .non, fun row c' h' => by
            have := ((hfr _ _).mp h').2.1
            rw [hf] at this
            cases this⟩
    case pf =>
      intro fv H7 ⟨x, g7, hfv, hb⟩
      have htb7 := g7.dT id htb4
      have hbx7 := g7.tp _ _ hbx
      have hlen := length_putK kvs (rgK r) fv
      refine ⟨tb, _, rfl, DPut.t htb7 hbx7 (small6 (by omega)), ?_⟩
      have tpe : Tp H7 (upd H7 tb (.dT (putK kvs (rgK r) fv))) := Tp.setT htb7
      refine ⟨_, _, _, rfl, (g4.trans g7.any).setT (.inr rfl) htb7, _, upd_same, by omega, fun r' hr' => ?_⟩
      rw [valV_put]
      by_cases hk : rgK r' = rgK r
      · rw [rgK_inj hk, if_pos rfl]
        exact ⟨fv, x, rfl, hfv.mono tpe, hb⟩
      · rw [if_neg hk]
        rw [et] at hr'
        rcases List.mem_append.mp hr' with hr' | hr'
        · obtain ⟨v', x', a1, a2, a3⟩ := hdone r' hr'
          exact ⟨v', x', a1, a2.mono (g7.tp.trans tpe), a3⟩
        · rw [List.mem_singleton.mp hr'] at hk
          exact absurd rfl hk
  · obtain ⟨d6, d7, d8, rfl, g4, kvs, htb4, hkl, hdone⟩ := hp
    have hll : lvs.length = L.length := by rw [← hlr.length, List.length_map]
    rw [hll, List.take_length] at hdone
    obtain ⟨v, x, a1, a2, a3⟩ := hdone r0 nd.base
    walk_at "go"
    exact q tb H4 kvs v x (G3.local g4 fun a z => by rw [show a = tb from z]; exact tbnH) htb4 a1 a2 a3
def spBest (Pt : Addr) : Sp := fun vs H Q _ => ∃ (v0 v1 v2 v3 : V) (ps : List Part) (r0 : Rg) (img : List Str), vs = [v0, v1, v2, v3] ∧ Rep H (partsD ps) v0 ∧ Rep H (encRg r0) v1 ∧ Rep H (.tuple (img.map PyData.str)) v2 ∧ Rep H noWish v3 ∧
  Good ps ∧ r0.n < ps.length ∧ r0.w ≤ 8 ∧ r0.h ≤ 8 ∧ r0.x ≤ 100 ∧ r0.y ≤ 100 ∧ ImgOk img ∧ GxR.TabG H Pt ∧
  ∀ (v : V) (H' : Hp) (x : Option (Nat × Row)), Gr S0 H H' → Rep H' (encB x) v → IsBest (FillR ps (lcost ps img) r0) x → Q v H'
theorem sc_best : FnScope ["parts", "region", "rows", "wishes"] ["parts", "region", "rows", "wishes"] (defScope (top 31)) := ⟨rfl, rfl, rfl, by decide +kernel, rfl, by decide +kernel, by decide +kernel⟩
theorem ok_best (R : Raw K mg "best" (top 31) ["parts", "region", "rows", "wishes"]) (B : Bi mg) (D_best_table : Def P w K mg base 13 "best_table" ["parts", "region", "rows", "wishes"] (spBestTable Pt)) : Def P w K mg base 14 "best" ["parts", "region", "rows", "wishes"] (spBest Pt) := by
  refine R.ok sc_best (fun vs H Q E h => ?_) (fun f cdv A outer s H vs Q E hr h => ?_)
  · obtain ⟨_, _, _, _, _, _, _, rfl, _⟩ := h; rfl
  obtain ⟨v0, v1, v2, v3, ps, r0, img, rfl, h0, h1, h2, h3, gd, hn, hrw, hrh, hrx, hry, hio, hT, q⟩ := h
  refine ⟨_, (pss_one (ps_ret (pe_dget (hu_of hr) (pe_d D_best_table hr (by rfl) (pa_cons (pv 0) (pa_cons (pv 1) (pa_cons (pv 2) (pa_cons (pv 3) pa_nil))))) (pv 1) (fun _ _ => rfl)))), ?_⟩
  walk_at "go"
  obtain ⟨b1, rfl, hb1⟩ := rgAt h1
  refine ⟨v0, .ref b1, v2, v3, ps, r0, img, rfl, h0, h1, h2, h3, gd, hn, hrw, hrh, hrx, hry, hio, hT, fun tb H' kvs v x g htb hv hr' hb => ?_⟩
  walk_at "go"
  exact ⟨tb, v, rfl, by rw [← hv]; exact DGet.t htb (g.tp _ _ hb1), q v H' x g hr' hb⟩
end
end Sr
/-! SrD: counts of readings. -/
namespace Sr
open PySem PySem.Spec PyProof.Rows L2
local macro_rules | `(tactic| walk_at "tp") => `(tactic| first
  | exact Tp.refl _
  | assumption
  | exact Gr.tp (by assumption)
  | (refine Tp.trans ?_ (by first | assumption | exact Gr.tp (by assumption)); walk_at "tp"))
local macro_rules | `(tactic| walk_at "gr") => `(tactic| first
  | exact Gr.refl _ _
  | assumption
  | exact Gr.any (by assumption)
  | (refine Gr.trans ?_ (by first | assumption | exact Gr.any (by assumption)); walk_at "gr"))
local macro_rules | `(tactic| walk_at "rep") => `(tactic| first
  | exact Rep.int _ | exact Rep.str _ | exact Rep.bl _ | exact Rep.non
  | assumption
  | (refine Rep.mono ?_ (by assumption); walk_at "tp"))
local macro_rules | `(tactic| walk_at "repl") => `(tactic| repeat first
  | exact RepL.nil
  | (apply RepL.cons; (· walk_at "rep")))
local macro_rules | `(tactic| walk_at "step") => `(tactic| first
  | ((with_reducible apply w_var); rfl)
  | (with_reducible apply w_c)
  | (with_reducible apply w_op)
  | (with_reducible apply w_I0)
  | ((with_reducible apply w_ix); (· assumption); (· walk_at "tp"); (· decide); (· rfl); (intro x hx; first | (have e := Rep.intI hx; subst e; clear hx) | (have e := Rep.strI hx; subst e; clear hx) | (have e := Rep.blI hx; subst e; clear hx) | skip))
  | ((with_reducible apply w_ixU); (· assumption); (· walk_at "tp"); (· decide); (· rfl))
  | (with_reducible apply w_eqS)
  | (with_reducible apply w_eqI)
  | (with_reducible apply w_eqB)
  | (with_reducible apply w_neB)
  | (with_reducible apply w_test)
  | (with_reducible apply w_tB)
  | (with_reducible apply w_and)
  | (with_reducible apply w_or)
  | (with_reducible apply w_not)
  | (with_reducible apply w_nil)
  | (with_reducible apply w_cons)
  | (with_reducible apply w_CB)
  | (with_reducible apply w_call)
  | (with_reducible apply w_seq)
  | (with_reducible apply w_asg)
  | (with_reducible apply w_gname)
  | (with_reducible apply w_drop)
  | (with_reducible apply w_ret)
  | (with_reducible apply w_ifS)
  | (with_reducible apply w_next)
  | (with_reducible apply w_ifE)
  | (with_reducible apply w_andV)
  | (with_reducible apply w_orV)
  | (with_reducible apply w_notV)
  | (with_reducible apply w_tupE)
  | (with_reducible apply w_lstE)
  | (with_reducible apply w_bl)
  | ((with_reducible apply w_aug); rfl)
  | (with_reducible apply w_ip)
  | (with_reducible apply w_for1)
  | (with_reducible apply w_for2)
  | (with_reducible apply w_forT)
  | (with_reducible apply w_forL)
  | ((with_reducible apply w_lenD); (· assumption); (· walk_at "tp"))
  | (with_reducible apply w_min)
  | (with_reducible apply w_intI)
  | (with_reducible apply w_intB)
  | ((with_reducible apply w_I); (· first | decide | exact (by decide : (1000 : Int) ≠ 0) | exact ⟨by decide, by decide⟩ | exact ⟨by decide, by decide, by decide⟩ | exact .inr ⟨by decide, by decide⟩ | exact .inl ⟨by decide, by decide⟩))
  | (with_reducible apply w_bm)
  | (with_reducible apply w_bm0)
  | ((with_reducible apply w_tyL); (· assumption))
  | (with_reducible apply w_gsub)
  | (with_reducible apply w_fld)
  | (with_reducible apply w_gcons)
  | (with_reducible apply w_gnil)
  | ((with_reducible apply w_gtup); (· assumption); (· walk_at "tp"); (· rfl))
  | (with_reducible apply w_meth)
  | (with_reducible apply w_lc1)
  | (with_reducible apply w_lcL)
  | (with_reducible apply w_lcT)
  | (with_reducible apply w_yes)
  | (with_reducible apply w_m1)
  | (with_reducible apply w_dnotin)
  | (with_reducible apply w_din)
  | (with_reducible apply w_dget)
  | (with_reducible apply w_dput)
  | ((with_reducible apply w_ixL); (· assumption); (· decide); (· rfl)))
local macro_rules | `(tactic| walk_at "go") => `(tactic| repeat walk_at "step")
local macro_rules | `(tactic| walk_at "set") => `(tactic| dsimp only [List.set_cons_succ, List.set_cons_zero])

def z0 : Rg → Nat := fun _ => 0
/-- row is a reading of r; a rest -/
def Fil (ps : List Part) (r : Rg) (row : Row) : Prop := ∃ c, FillR ps z0 r row c
def Rst (ps : List Part) (ac : Bool) (m : Mach) (r : Rg) (s o : Nat) (row : Row) : Prop := ∃ c, RestR ps z0 row ac m r s o c
/-- n rows -/
def CardR (F : Row → Prop) (n : Nat) : Prop := ∃ L : List Row, L.Nodup ∧ (∀ row, row ∈ L ↔ F row) ∧ L.length = n
theorem CardR.inj {F : Row → Prop} {n m : Nat} (h : CardR F n) (h' : CardR F m) : n = m := by
  obtain ⟨L, a1, a2, rfl⟩ := h
  obtain ⟨L', b1, b2, rfl⟩ := h'
  exact ((List.perm_ext_iff_of_nodup a1 b1).mpr fun row => (a2 row).trans (b2 row).symm).length_eq
theorem CardR.iff {F G : Row → Prop} {n : Nat} (h : CardR F n) (e : ∀ row, G row ↔ F row) : CardR G n := by
  obtain ⟨L, a1, a2, a3⟩ := h
  exact ⟨L, a1, fun row => (a2 row).trans (e row).symm, a3⟩
theorem CardR.none {F : Row → Prop} (h : ∀ row, ¬ F row) : CardR F 0 := ⟨[], List.nodup_nil, fun row => ⟨fun z => absurd z (by simp), fun z => absurd z (h row)⟩, rfl⟩
theorem CardR.one {F : Row → Prop} (r0 : Row) (h : ∀ row, F row ↔ row = r0) : CardR F 1 := ⟨[r0], by simp, fun row => by rw [h]; simp, rfl⟩
theorem CardR.zero {F : Row → Prop} (h : CardR F 0) (row : Row) : ¬ F row := by
  obtain ⟨L, a1, a2, a3⟩ := h
  rw [List.length_eq_zero_iff.mp a3] at a2
  exact fun z => absurd ((a2 row).mpr z) (by simp)
theorem CardR.pos {F : Row → Prop} {n : Nat} (h : CardR F n) (hn : 0 < n) : ∃ row, F row := by
  obtain ⟨L, a1, a2, a3⟩ := h
  cases L with
  | nil => simp at a3; omega
  | cons x L => exact ⟨x, (a2 x).mp (List.mem_cons_self ..)⟩
theorem CardR.le {F : Row → Prop} {n : Nat} (h : CardR F n) {L : List Row} (hL : L.Nodup) (hs : ∀ row ∈ L, F row) : L.length ≤ n := by
  obtain ⟨L', a1, a2, rfl⟩ := h
  exact hL.length_le_of_subset fun row hr => (a2 row).mpr (hs row hr)
theorem CardR.add {F G K : Row → Prop} {n m : Nat} (h : CardR F n) (h' : CardR G m) (hd : ∀ row, F row → G row → False) (e : ∀ row, K row ↔ F row ∨ G row) : CardR K (n + m) := by
  obtain ⟨L, a1, a2, rfl⟩ := h
  obtain ⟨L', b1, b2, rfl⟩ := h'
  refine ⟨L ++ L', List.nodup_append.mpr ⟨a1, b1, fun x hx y hy z => ?_⟩, fun row => ?_, by rw [List.length_append]⟩
  · subst z; exact hd x ((a2 x).mp hx) ((b2 x).mp hy)
  · rw [List.mem_append, a2, b2, e]
/-- the rows with the first piece (n, z, i), i of F, the rest of G -/
def Gp (F G : Row → Prop) (n z : Nat) : Row → Prop := fun row => ∃ i rest, F i ∧ G rest ∧ row = .cons n z i rest
theorem nodup_map {α β : Type} {f : α → β} (hf : ∀ x y, f x = f y → x = y) {l : List α} (h : l.Nodup) : (l.map f).Nodup :=
  List.pairwise_map.mpr (h.imp fun hne e => hne (hf _ _ e))
theorem prod_nodup {n z : Nat} : ∀ {L M : List Row}, L.Nodup → M.Nodup → (L.flatMap fun i => M.map fun rest => Row.cons n z i rest).Nodup
  | [], M, _, _ => List.nodup_nil
  | i :: L, M, h, hM => by
    rw [List.flatMap_cons]
    have h1 := (List.nodup_cons.mp h)
    refine List.nodup_append.mpr ⟨nodup_map (fun x y e => by injection e) hM, prod_nodup h1.2 hM, fun x hx y hy e => ?_⟩
    obtain ⟨r, _, rfl⟩ := List.mem_map.mp hx
    obtain ⟨i', hi', hy'⟩ := List.mem_flatMap.mp hy
    obtain ⟨r', _, rfl⟩ := List.mem_map.mp hy'
    injection e with _ _ e _
    subst e
    exact h1.1 hi'
theorem prod_len {n z : Nat} : ∀ (L M : List Row), (L.flatMap fun i => M.map fun rest => Row.cons n z i rest).length = M.length * L.length
  | [], M => rfl
  | i :: L, M => by
    rw [List.flatMap_cons, List.length_append, List.length_map, prod_len L M, List.length_cons, Nat.mul_succ, Nat.add_comm]
theorem CardR.prod {F G : Row → Prop} {n z a b : Nat} (h : CardR F a) (h' : CardR G b) : CardR (Gp F G n z) (b * a) := by
  obtain ⟨L, a1, a2, rfl⟩ := h
  obtain ⟨M, b1, b2, rfl⟩ := h'
  refine ⟨_, prod_nodup (n := n) (z := z) a1 b1, fun row => ?_, prod_len L M⟩
  rw [List.mem_flatMap]
  constructor
  · rintro ⟨i, hi, hm⟩
    obtain ⟨rest, hr, rfl⟩ := List.mem_map.mp hm
    exact ⟨i, rest, (a2 i).mp hi, (b2 rest).mp hr, rfl⟩
  · rintro ⟨i, rest, hi, hr, rfl⟩
    exact ⟨i, (a2 i).mpr hi, List.mem_map.mpr ⟨rest, (b2 rest).mpr hr, rfl⟩⟩
section
variable {ps : List Part} {ac : Bool} {m : Mach} {r : Rg} {s o : Nat}
theorem rst_nil : Rst ps ac m r s o .nil ↔ o = ext ac r ∧ m.ends[s]? = some true := by
  unfold Rst
  constructor
  · rintro ⟨c, h⟩
    exact ⟨(rest_nil.mp h).1, (rest_nil.mp h).2.1⟩
  · rintro ⟨h1, h2⟩
    exact ⟨0, rest_nil.mpr ⟨h1, h2, rfl⟩⟩
theorem rst_cons {n z : Nat} {i rest : Row} : Rst ps ac m r s o (.cons n z i rest) ↔ ∃ mv, m.mvs[n]? = some mv ∧ mv.o = s ∧ mv.l ≤ z ∧ z ≤ mv.m ∧ o + z ≤ ext ac r ∧ Fil ps (piece ac r mv.p o z) i ∧ Rst ps ac m r mv.t (o + z) rest := by
  unfold Rst Fil
  constructor
  · rintro ⟨c, h⟩
    obtain ⟨mv, c1, c2, h1, h2, h3, h4, h5, h6, h7, h8⟩ := rest_cons.mp h
    exact ⟨mv, h1, h2, h3, h4, h5, ⟨c1, h6⟩, ⟨c2, h7⟩⟩
  · rintro ⟨mv, h1, h2, h3, h4, h5, ⟨c1, h6⟩, ⟨c2, h7⟩⟩
    exact ⟨_, rest_cons.mpr ⟨mv, c1, c2, h1, h2, h3, h4, h5, h6, h7, rfl⟩⟩
end
/-- the bounds of counts by rank -/
def BD : Nat → Nat
  | 0 => 1
  | d + 1 => (801 * BD d) ^ 6
theorem BD_pos : ∀ d, 1 ≤ BD d
  | 0 => Nat.le_refl _
  | d + 1 => Nat.one_le_iff_ne_zero.mpr (Nat.pos_iff_ne_zero.mp (Nat.pow_pos (Nat.mul_pos (by decide) (BD_pos d))))
theorem BD_mono : ∀ {a b : Nat}, a ≤ b → BD a ≤ BD b
  | a, 0, h => by have : a = 0 := by omega
                  subst this; exact Nat.le_refl _
  | a, b + 1, h => by
    rcases Nat.lt_or_ge b a with h2 | h2
    · have : a = b + 1 := by omega
      subst this; exact Nat.le_refl _
    · refine Nat.le_trans (BD_mono h2) ?_
      have h3 : BD b ≤ 801 * BD b := Nat.le_mul_of_pos_left _ (by decide)
      exact Nat.le_trans h3 (Nat.le_self_pow (by decide) _)
theorem BD_one : BD 1 < 2 ^ 64 := by decide
/-- a grammar that the law draws: the first lf parts are leaves, the others strips -/
structure GoodL (ps : List Part) (lf : Nat) : Prop extends Good ps where
  ls : ∀ (n : Nat) (p : Part), ps[n]? = some p → (isStrip p = true ↔ lf ≤ n)
  two : ps.length ≤ lf + 2
  mc : ∀ p ∈ ps, match p with | .strip _ _ _ e => ∀ mv ∈ (machineOf e).mvs, mv.c ≤ 2 | _ => True
  pc : ∀ p ∈ ps, pcost p ≤ 3
  few : ∀ p ∈ ps, match p with | .strip _ _ _ e => (∀ s, ((machineOf e).mvs.filter fun mv => decide (mv.o = s)).length ≤ 8) ∧ (machineOf e).ends.length ≤ 100 | _ => True
/-- what a region's dict of spots holds -/
def SpotsOk (ps : List Part) (lf : Nat) (r : Rg) (sp : List (List L2.Key × V)) : Prop := match ps[r.n]? with
  | some (.strip ac _ _ e) => ∀ s o, s < (machineOf e).ends.length → o ≤ ext ac r → ∃ n : Nat, valV sp (skK s o) = some (.int (n : Nat)) ∧ CardR (Rst ps ac (machineOf e) r s o) n ∧ n ≤ (801 * BD (r.n - lf)) ^ (ext ac r - o)
  | some _ => ∃ n : Nat, valV sp (skK 0 0) = some (.int (n : Nat)) ∧ CardR (Fil ps r) n ∧ n ≤ 1
  | none => False
structure TabI (N : Addr → Prop) (ps : List Part) (lf : Nat) (R0 : Rg) (H : Hp) (tbl : Addr) (ks : List Rg) : Prop where
  ex : ∃ kvs, H tbl = some (.dT kvs) ∧ kvs.map (·.1) = ks.map rgK ∧ ∀ r ∈ ks, ∃ d sp, valV kvs (rgK r) = some (.ref d) ∧ (d ≠ tbl ∧ ¬ N d) ∧ H d = some (.dT sp) ∧ SpotsOk ps lf r sp
  nd : ks.Nodup
  ins : ∀ r ∈ ks, InR ps.length R0 r
theorem TabI.gr {N : Addr → Prop} {ps : List Part} {lf : Nat} {R0 : Rg} {H H' : Hp} {tbl : Addr} {ks : List Rg} (h : TabI N ps lf R0 H tbl ks) (g : Gr S0 H H') : TabI N ps lf R0 H' tbl ks := by
  obtain ⟨kvs, h1, h2, h3⟩ := h.ex
  refine ⟨⟨kvs, g.dT id h1, h2, fun r hr => ?_⟩, h.nd, h.ins⟩
  obtain ⟨d, sp, a1, a2, a3, a4⟩ := h3 r hr
  exact ⟨d, sp, a1, a2, g.dT id a3, a4⟩
theorem join_h {A : Hp → Prop} {G : Prop} (T : Hp → Prop) (use : (∀ H, A H → T H) → G) (pf : ∀ H, A H → T H) : G := use pf
theorem TabI.put {N : Addr → Prop} {ps : List Part} {lf : Nat} {R0 r : Rg} {H : Hp} {tbl d : Addr} {ks : List Rg} {kvs : List (List L2.Key × V)} {sp : List (List L2.Key × V)} (h : TabI N ps lf R0 H tbl ks) (hr : r ∉ ks) (hin : InR ps.length R0 r)
    (hk : H tbl = some (.dT kvs)) (hd : H d = some (.dT sp)) (hne : d ≠ tbl ∧ ¬ N d) (hok : SpotsOk ps lf r sp) : TabI N ps lf R0 (upd H tbl (.dT (putK kvs (rgK r) (.ref d)))) tbl (ks ++ [r]) := by
  obtain ⟨kvs', h1, h2, h3⟩ := h.ex
  rw [hk] at h1
  cases h1
  have hnk : rgK r ∉ kvs.map (·.1) := fun z => hr ((mem_keys h2 r).mp z)
  refine ⟨⟨_, upd_same, by rw [Sr.putK_new hnk, List.map_append, List.map_append, h2]; rfl, fun x hx => ?_⟩, List.nodup_append.mpr ⟨h.nd, by simp, fun a ha b hb e => by rw [List.mem_singleton.mp hb] at e; subst e; exact hr ha⟩, fun x hx => ?_⟩
  · rw [valV_put]
    by_cases hxr : rgK x = rgK r
    · rw [rgK_inj hxr, if_pos rfl]
      exact ⟨d, sp, rfl, hne, by rw [upd_ne hne.1]; exact hd, hok⟩
    · rw [if_neg hxr]
      rcases List.mem_append.mp hx with hx | hx
      · obtain ⟨d', sp', a1, a2, a3, a4⟩ := h3 x hx
        exact ⟨d', sp', a1, a2, by rw [upd_ne a2.1]; exact a3, a4⟩
      · rw [List.mem_singleton.mp hx] at hxr
        exact absurd rfl hxr
  · rcases List.mem_append.mp hx with hx | hx
    · exact h.ins x hx
    · rw [List.mem_singleton.mp hx]; exact hin
/-- the count of a region, by its part -/
theorem spots_count {ps : List Part} {lf : Nat} {r : Rg} {sp : List (List L2.Key × V)} (gd : GoodL ps lf) (h : SpotsOk ps lf r sp) (hw : r.w ≤ 6) (hh : r.h ≤ 6) : ∃ n : Nat, valV sp (skK 0 0) = some (.int (n : Nat)) ∧ CardR (Fil ps r) n ∧ n ≤ BD (r.n + 1 - lf) := by
  unfold SpotsOk at h
  cases e : ps[r.n]? with
  | none => rw [e] at h; exact absurd h id
  | some p =>
    rw [e] at h
    cases p with
    | plain nm lb c b =>
      obtain ⟨n, h1, h2, h3⟩ := h
      exact ⟨n, h1, h2, Nat.le_trans h3 (BD_pos _)⟩
    | shape nm lb c rows =>
      obtain ⟨n, h1, h2, h3⟩ := h
      exact ⟨n, h1, h2, Nat.le_trans h3 (BD_pos _)⟩
    | strip ac nm jt ex =>
      have hlf := (gd.ls _ _ e).mp rfl
      have hen := gd.ends _ (List.mem_of_getElem? e)
      obtain ⟨n, h1, h2, h3⟩ := h 0 0 hen.2 (Nat.zero_le _)
      refine ⟨n, h1, h2.iff fun row => ?_, Nat.le_trans h3 ?_⟩
      · unfold Fil FillR Rst
        rw [e]
      · have er : r.n + 1 - lf = (r.n - lf) + 1 := by omega
        rw [er]
        have : ext ac r ≤ 6 := by
          unfold ext
          cases ac
          · exact hh
          · exact hw
        exact Nat.pow_le_pow_right (Nat.mul_pos (by decide) (BD_pos _)) (by omega)
section
variable {P : Program} {w : World} {K : PySem.W.Frag} {mg : Str → Option Value} {base : Heap}
def spCount (d : Nat) : Sp := fun vs H Q _ => ∃ (v0 v1 v2 : V) (tbl : Addr) (ps : List Part) (N : Addr → Prop) (lf : Nat) (r R0 : Rg) (ks : List Rg), vs = [v0, v1, v2, .ref tbl] ∧ Rep H (partsD ps) v0 ∧ Rep H (waysD ps) v1 ∧ Rep H (encRg r) v2 ∧ GoodL ps lf ∧ InR ps.length R0 r ∧ R0.w ≤ 6 ∧ R0.h ≤ 6 ∧
  r.n + 1 - lf < d ∧ TabI N ps lf R0 H tbl ks ∧ (∀ a, N a → H a ≠ none) ∧
  ∀ (n : Nat) (H' : Hp) (ks' : List Rg), Gr (S1 tbl) H H' → TabI N ps lf R0 H' tbl ks' → (∀ x ∈ ks, x ∈ ks') → (∀ x ∈ ks', x ∈ ks ∨ x.n ≤ r.n) → r ∈ ks' → CardR (Fil ps r) n → n ≤ BD (r.n + 1 - lf) → Q (.int (n : Nat)) H'
def spSpots (d : Nat) : Sp := fun vs H Q _ => ∃ (v0 v1 v2 : V) (tbl : Addr) (ps : List Part) (N : Addr → Prop) (lf : Nat) (r R0 : Rg) (ks : List Rg) (ac : Bool) (nm jt : Str) (e : Ex), vs = [v0, v1, v2, .ref tbl] ∧ Rep H (partsD ps) v0 ∧ Rep H (waysD ps) v1 ∧ Rep H (encRg r) v2 ∧ GoodL ps lf ∧ InR ps.length R0 r ∧ R0.w ≤ 6 ∧ R0.h ≤ 6 ∧
  r.n + 1 - lf ≤ d ∧ TabI N ps lf R0 H tbl ks ∧ (∀ a, N a → H a ≠ none) ∧ ps[r.n]? = some (.strip ac nm jt e) ∧
  ∀ (sa : Addr) (sp : List (List L2.Key × V)) (H' : Hp) (ks' : List Rg), Gr (S1 tbl) H H' → H sa = none → H' sa = some (.dT sp) → (sa ≠ tbl ∧ ¬ N sa) → SpotsOk ps lf r sp → TabI N ps lf R0 H' tbl ks' → (∀ x ∈ ks, x ∈ ks') → (∀ x ∈ ks', x ∈ ks ∨ x.n < r.n) → Q (.ref sa) H'
theorem sc_l_count : FnScope ["_law_parts_here", "_law_ways", "_law_region", "_law_table"] ["_law_parts_here", "_law_ways", "_law_region", "_law_table"] (defScope (top 46)) := ⟨rfl, rfl, rfl, by decide +kernel, rfl, by decide +kernel, by decide +kernel⟩
theorem ok_l_count (d : Nat) (R : Raw K mg "_law_count" (top 46) ["_law_parts_here", "_law_ways", "_law_region", "_law_table"]) (B : Bi mg) (D_l_strip : Def P w K mg base (2 * d + 2) "_law_strip" ["_law_part"] spLStrip) (D_l_fits : Def P w K mg base (2 * d + 2) "_law_fits" ["_law_part", "_law_region"] spFits) (D_l_spots : Def P w K mg base (2 * d + 2) "_law_spots" ["_law_parts_here", "_law_ways", "_law_region", "_law_table"] (spSpots d)) : Def P w K mg base (2 * d + 3) "_law_count" ["_law_parts_here", "_law_ways", "_law_region", "_law_table"] (spCount (d + 1)) := by
  refine R.ok sc_l_count (fun vs H Q E h => ?_) (fun f cdv A outer s H vs Q E hr h => ?_)
  · obtain ⟨_, _, _, _, _, _, _, _, _, _, rfl, _⟩ := h; rfl
  obtain ⟨v0, v1, v2, tbl, ps, N, lf, r, R0, ks, rfl, h0, h1, h2, gd, hin, hrw, hrh, hd, ht, hN, q⟩ := h
  refine ⟨_, (pss_cons (ps_if (pt_cmp (pc_dnotin (hu_of hr) (pv 2) (pv 3)))
      (pss_one (ps_if (pt_val (pe_d D_l_strip hr (by rfl) (pa_cons (pe_ix (ix_sq (K := K) rfl) (pv 0) (pe_ix (ix_sq (K := K) rfl) (pv 2) pe_int (fun _ _ => rfl)) (fun _ _ => rfl)) pa_nil)))
        (pss_one (ps_dput (hu_of hr) (pv 3) (pv 2) (pe_d D_l_spots hr (by rfl) (pa_cons (pv 0) (pa_cons (pv 1) (pa_cons (pv 2) (pa_cons (pv 3) pa_nil))))) rfl))
        (pss_one (ps_dput (hu_of hr) (pv 3) (pv 2) (pe_disp1T (hu_of hr) (pe_tup (pa_cons pe_int (pa_cons pe_int pa_nil))) (pe_callTy cx_int (by rfl) B.int bo_int (pa_cons (pe_d D_l_fits hr (by rfl) (pa_cons (pe_ix (ix_sq (K := K) rfl) (pv 0) (pe_ix (ix_sq (K := K) rfl) (pv 2) pe_int (fun _ _ => rfl)) (fun _ _ => rfl)) (pa_cons (pv 2) pa_nil))) pa_nil))) rfl))))
      pss_nil)
    (pss_one (ps_ret (pe_dget (hu_of hr) (pe_dget (hu_of hr) (pv 3) (pv 2) (fun _ _ => rfl)) (pe_tup (pa_cons pe_int (pa_cons pe_int pa_nil))) (fun _ _ => rfl))))), ?_⟩
  walk_at "go"
  obtain ⟨kvs, hkv, hkk, hks⟩ := ht.ex
  obtain ⟨b2, rfl, hb2⟩ := rgAt h2
  have hrwl : r.w ≤ 6 := by have := hin.x1; have := hin.x2; omega
  have hrhl : r.h ≤ 6 := by have := hin.y1; have := hin.y2; omega
  have h2' := h2
  change Rep H (.tuple [.int r.n, .int r.x, .int r.y, .int r.w, .int r.h]) (.ref b2) at h2'
  have hpn : ps[r.n]? = some (ps[r.n]'hin.n) := List.getElem?_eq_getElem _
  have hpm : ps[r.n]'hin.n ∈ ps := List.getElem_mem _
  refine join_h (A := fun (H4 : Hp) => ∃ ks', Gr (S1 tbl) H H4 ∧ TabI N ps lf R0 H4 tbl ks' ∧ (∀ x ∈ ks, x ∈ ks') ∧ (∀ x ∈ ks', x ∈ ks ∨ x.n ≤ r.n) ∧ r ∈ ks') ?T (fun key => ?use) ?pf
  case use =>
    refine ⟨tbl, _, rfl, DGet.t hkv hb2, ?_⟩
    rw [valV_rg hkk]
    refine ⟨_, rfl, if_of (fun h => ?_) (fun h => ?_)⟩
    · have hni : r ∉ ks := by simpa using h
      change Rep H (.tuple (ps.map encPart)) v0 at h0
      walk_at "go"
      refine w_ix h0 (Tp.refl _) (by omega) (by rw [Int.toNat_natCast, List.getElem?_map, hpn]; rfl) (fun y hy => ?_)
      walk_at "go"
      refine ⟨y, ps[r.n]'hin.n, rfl, hy, ?_⟩
      have hlf := gd.ls _ _ hpn
      have fin : ∀ (sa : Addr) (sp : List (List L2.Key × V)) (H1 : Hp) (ks1 : List Rg) (kvs1 : List (List L2.Key × V)), Gr (S1 tbl) H H1 → H1 sa = some (.dT sp) → (sa ≠ tbl ∧ ¬ N sa) → SpotsOk ps lf r sp → TabI N ps lf R0 H1 tbl ks1 → (∀ x ∈ ks, x ∈ ks1) → (∀ x ∈ ks1, x ∈ ks ∨ x.n < r.n) → H1 tbl = some (.dT kvs1) →
          DPut H1 tbl (.ref b2) (.ref sa) (upd H1 tbl (.dT (putK kvs1 (rgK r) (.ref sa)))) ∧ ∃ ks', Gr (S1 tbl) H (upd H1 tbl (.dT (putK kvs1 (rgK r) (.ref sa)))) ∧ TabI N ps lf R0 (upd H1 tbl (.dT (putK kvs1 (rgK r) (.ref sa)))) tbl ks' ∧ (∀ x ∈ ks, x ∈ ks') ∧ (∀ x ∈ ks', x ∈ ks ∨ x.n ≤ r.n) ∧ r ∈ ks' := by
        intro sa sp H1 ks1 kvs1 g hsa hne hok ht1 hs1 hk1 hkv1
        have hr1 : r ∉ ks1 := fun z => (hk1 r z).elim hni (fun z => Nat.lt_irrefl _ z)
        obtain ⟨kvs2, e1, e2, _⟩ := ht1.ex
        rw [hkv1] at e1
        cases e1
        have hl := few_in gd.len (by omega) (by omega) ht1.nd ht1.ins
        have hl2 : kvs1.length = ks1.length := by
          have := congrArg List.length e2
          rwa [List.length_map, List.length_map] at this
        refine ⟨DPut.t hkv1 (g.tp _ _ hb2) (small6 (by omega)), _, g.setT (.inr rfl) hkv1, ht1.put hr1 hin hkv1 hsa hne hok, fun x hx => List.mem_append_left _ (hs1 x hx), fun x hx => ?_, List.mem_append_right _ (List.mem_singleton.mpr rfl)⟩
        rcases List.mem_append.mp hx with hx | hx
        · exact (hk1 x hx).imp id Nat.le_of_lt
        · rw [List.mem_singleton.mp hx]; exact .inr (Nat.le_refl _)
      have leaf : ∀ (p : Part), ps[r.n]? = some p → isStrip p = false → ∀ sp, valV sp (skK 0 0) = some (V.int (Sr.b2 (fitsB p r) : Nat)) → SpotsOk ps lf r sp := by
        intro p hp hs sp hv
        have hfr : ∀ row, Fil ps r row ↔ row = .nil ∧ fitsB p r = true := fun row => by
          unfold Fil FillR
          rw [hp]
          cases p with
          | strip => cases hs
          | plain => exact ⟨fun ⟨c, h⟩ => ⟨h.1, h.2.1⟩, fun h => ⟨_, h.1, h.2, rfl⟩⟩
          | shape => exact ⟨fun ⟨c, h⟩ => ⟨h.1, h.2.1⟩, fun h => ⟨_, h.1, h.2, rfl⟩⟩
        have hc : CardR (Fil ps r) (Sr.b2 (fitsB p r)) := by
          cases hf : fitsB p r with
          | true => exact CardR.one .nil fun row => by rw [hfr, hf]; simp
          | false =>
            exact CardR.none fun row h => by
              have := ((hfr row).mp h).2
              rw [hf] at this
              cases this
        have hb : Sr.b2 (fitsB p r) ≤ 1 := by cases fitsB p r <;> decide
        unfold SpotsOk
        rw [hp]
        cases p with
        | strip => cases hs
        | plain => exact ⟨_, hv, hc, hb⟩
        | shape => exact ⟨_, hv, hc, hb⟩
      cases hs : isStrip (ps[r.n]'hin.n) with
      | true =>
        cases ep : ps[r.n]'hin.n with
        | plain => rw [ep] at hs; cases hs
        | shape => rw [ep] at hs; cases hs
        | strip ac nm jt e =>
          refine ⟨_, rfl, if_of (fun _ => ?_) (fun h => by cases h)⟩
          walk_at "go"
          refine ⟨v0, v1, .ref b2, tbl, ps, N, lf, r, R0, ks, ac, nm, jt, e, rfl, h0, h1, h2, gd, hin, hrw, hrh, by omega, ht, hN, by rw [hpn, ep], fun sa sp H1 ks1 g sn hsa hne hok ht1 hs1 hk1 => ?_⟩
          obtain ⟨kvs1, hkv1, _⟩ := ht1.ex
          obtain ⟨f1, f2⟩ := fin sa sp H1 ks1 kvs1 g hsa hne hok ht1 hs1 hk1 hkv1
          walk_at "go"
          refine ⟨tbl, _, rfl, f1, ?_⟩
          generalize upd H1 tbl _ = H4 at f2 ⊢
          walk_at "go"
          exact key H4 f2
      | false =>
        refine ⟨_, rfl, if_of (fun h => by cases h) (fun _ => ?_)⟩
        walk_at "go"
        refine w_disp1T fun da dan => ?_
        walk_at "go"
        have g1 : Gr S0 H (upd H da (.dT [])) := Gr.new dan
        have hda : upd H da (.dT []) da = some (.dT []) := upd_same
        generalize upd H da (.dT []) = H1 at g1 hda ⊢
        refine tup_new (ds := [.int (0 : Nat), .int (0 : Nat)]) (by walk_at "repl") (by simp) fun p8 H8 _ _ g8 hp8 => ?_
        obtain ⟨b8, e8, hb8⟩ := skAt hp8
        cases e8
        have T8 := g1.tp.trans g8.tp
        have h08 := h0.mono T8
        have h28 := h2'.mono T8
        have h28' := h2.mono T8
        walk_at "go"
        refine w_ix h08 (Tp.refl _) (by omega) (by rw [Int.toNat_natCast, List.getElem?_map, hpn]; rfl) (fun y2 hy2 => ?_)
        walk_at "go"
        refine ⟨y2, .ref b2, _, r, rfl, hy2, h28', gd.leaf _ hpm hs, ?_⟩
        walk_at "go"
        refine ⟨g8.dT id hda, _, skK 0 0, rfl, hb8, ?_⟩
        walk_at "go"
        have hda8 := g8.dT id hda
        have g9 : Gr S0 H (upd H8 da (.dT [(skK 0 0, V.int (Sr.b2 (fitsB (ps[r.n]'hin.n) r) : Nat))])) := (g1.trans g8).setT (.inl dan) hda8
        have hda9 : upd H8 da (.dT [(skK 0 0, V.int (Sr.b2 (fitsB (ps[r.n]'hin.n) r) : Nat))]) da = some (.dT [(skK 0 0, V.int (Sr.b2 (fitsB (ps[r.n]'hin.n) r) : Nat))]) := upd_same
        generalize upd H8 da (.dT [(skK 0 0, V.int (Sr.b2 (fitsB (ps[r.n]'hin.n) r) : Nat))]) = H9 at g9 hda9 ⊢
        have hne : da ≠ tbl ∧ ¬ N da := ⟨(fun z => by subst z; rw [hkv] at dan; cases dan), fun z => hN da z dan⟩
        have hok := leaf _ hpn hs [(skK 0 0, V.int (Sr.b2 (fitsB (ps[r.n]'hin.n) r) : Nat))] (by
          unfold valV
          simp)
        obtain ⟨f1, f2⟩ := fin da _ H9 ks kvs g9.any hda9 hne hok (ht.gr g9) (fun x hx => hx) (fun x hx => .inl hx) (g9.dT id hkv)
        refine ⟨tbl, _, rfl, f1, ?_⟩
        generalize upd H9 tbl _ = H4 at f2 ⊢
        walk_at "go"
        exact key H4 f2
    · have hii : r ∈ ks := by simpa using h
      walk_at "go"
      exact key H ⟨ks, Gr.refl _ _, ht, fun x hx => hx, fun x hx => .inl hx, hii⟩
  case pf =>
    intro H4 ⟨ks', g4, ht4, hs4, hk4, hr4⟩
    obtain ⟨kvs4, hkv4, hkk4, hks4⟩ := ht4.ex
    obtain ⟨da, sp, a1, a2, a3, a4⟩ := hks4 r hr4
    obtain ⟨n, n1, n2, n3⟩ := spots_count gd a4 hrwl hrhl
    walk_at "go"
    refine ⟨tbl, _, rfl, by rw [← a1]; exact DGet.t hkv4 (g4.tp _ _ hb2), ?_⟩
    walk_at "go"
    refine tup_new (ds := [.int (0 : Nat), .int (0 : Nat)]) (by walk_at "repl") (by simp) fun p8 H8 _ _ g8 hp8 => ?_
    obtain ⟨b8, e8, hb8⟩ := skAt hp8
    cases e8
    refine ⟨da, _, rfl, by rw [← n1]; exact DGet.t (g8.dT id a3) hb8, ?_⟩
    exact q n H8 ks' (g4.trans g8.any) (ht4.gr g8) hs4 hk4 hr4 n2 n3
/-- one spot's entry -/
def SpotAt (ps : List Part) (lf : Nat) (r : Rg) (ac : Bool) (m : Mach) (sp : List (List L2.Key × V)) (s o : Nat) : Prop :=
  ∃ n : Nat, valV sp (skK s o) = some (.int (n : Nat)) ∧ CardR (Rst ps ac m r s o) n ∧ n ≤ (801 * BD (r.n - lf)) ^ (ext ac r - o)
theorem SpotAt.put {ps : List Part} {lf : Nat} {r : Rg} {ac : Bool} {m : Mach} {sp : List (List L2.Key × V)} {s o s' o' : Nat} {v : V} (h : SpotAt ps lf r ac m sp s' o') (hne : ¬ (s' = s ∧ o' = o)) : SpotAt ps lf r ac m (putK sp (skK s o) v) s' o' := by
  obtain ⟨n, h1, h2, h3⟩ := h
  refine ⟨n, ?_, h2, h3⟩
  rw [valV_put, if_neg (fun e => hne (skK_inj e))]
  exact h1
theorem sc_l_spots : FnScope ["_law_parts_here", "_law_ways", "_law_region", "_law_table", "_law_ends", "_law_moves", "_law_part", "_law_far", "_law_spots_here", "_law_back", "_law_offset", "_law_state", "_law_many", "_law_move", "_law_size", "_law_later"] ["_law_parts_here", "_law_ways", "_law_region", "_law_table"] (defScope (top 45)) := ⟨rfl, rfl, rfl, by decide +kernel, rfl, by decide +kernel, by decide +kernel⟩
theorem ok_l_spots (d : Nat) (R : Raw K mg "_law_spots" (top 45) ["_law_parts_here", "_law_ways", "_law_region", "_law_table"]) (B : Bi mg) (D_l_extent : Def P w K mg base (2 * d + 1) "_law_extent" ["_law_part", "_law_region"] spExtent) (D_l_piece : Def P w K mg base (2 * d + 1) "_law_piece" ["_law_part", "_law_region", "_law_number", "_law_offset", "_law_size"] spLPiece) (D_l_count : Def P w K mg base (2 * d + 1) "_law_count" ["_law_parts_here", "_law_ways", "_law_region", "_law_table"] (spCount d)) : Def P w K mg base (2 * d + 2) "_law_spots" ["_law_parts_here", "_law_ways", "_law_region", "_law_table"] (spSpots d) := by
  refine R.ok sc_l_spots (fun vs H Q E h => ?_) (fun f cdv A outer s H vs Q E hr h => ?_)
  · obtain ⟨_, _, _, _, _, _, _, _, _, _, _, _, _, _, rfl, _⟩ := h; rfl
  obtain ⟨v0, v1, v2, tbl, ps, N, lf, r, R0, ks, ac, nm, jt, e, rfl, h0, h1, h2, gd, hin, hrw, hrh, hd, ht, hN, hpn, q⟩ := h
  refine ⟨_, (pss_cons (ps_asg (pe_ix (ix_sq (K := K) rfl) (pv 1) (pe_ix (ix_sq (K := K) rfl) (pv 2) pe_int (fun _ _ => rfl)) (fun _ _ => rfl)) (pg_tup rfl (pgs_cons (pg_name (i := 4) sc_l_spots.nd rfl (.inl rfl)) (pgs_cons (pg_name (i := 5) sc_l_spots.nd rfl (.inl rfl)) pgs_nil))))
    (pss_cons (ps_set (i := 6) sc_l_spots.nd rfl (.inl rfl) (pe_ix (ix_sq (K := K) rfl) (pv 0) (pe_ix (ix_sq (K := K) rfl) (pv 2) pe_int (fun _ _ => rfl)) (fun _ _ => rfl)))
    (pss_cons (ps_set (i := 7) sc_l_spots.nd rfl (.inl rfl) (pe_d D_l_extent hr (by rfl) (pa_cons (pv 6) (pa_cons (pv 2) pa_nil))))
    (pss_cons (ps_set (i := 8) sc_l_spots.nd rfl (.inl rfl) pe_dnewT)
    (pss_cons (ps_for PassesOwn.never rfl (pi_range1 (by rfl) B.range (pa_cons (pe_op op_add (pv 7) pe_int) pa_nil)) (pg_name (i := 9) sc_l_spots.nd rfl (.inl rfl))
      (pss_cons (ps_set (i := 10) sc_l_spots.nd rfl (.inl rfl) (pe_op op_sub (pv 7) (pv 9)))
      (pss_one (ps_for PassesOwn.never rfl (pi_range1 (by rfl) B.range (pa_cons (pe_callB (ck_len (K := K) rfl) (by rfl) B.len bo_len (pa_cons (pv 4) pa_nil)) pa_nil)) (pg_name (i := 11) sc_l_spots.nd rfl (.inl rfl))
        (pss_cons (ps_set (i := 12) sc_l_spots.nd rfl (.inl rfl) (pe_callTy cx_int (by rfl) B.int bo_int (pa_cons (pe_and (pe_cmpR op_eq (pv 9) pe_int (nomark _)) (pe_one (pe_ix (ix_sq (K := K) rfl) (pv 4) (pv 11) (fun _ _ => rfl)))) pa_nil)))
        (pss_cons (ps_for PassesOwn.never rfl (pi_tup (pv 5)) (pg_name (i := 13) sc_l_spots.nd rfl (.inl rfl))
          (pss_one (ps_if (pt_cmpR op_eq (pe_ix (ix_sq (K := K) rfl) (pv 13) pe_int (fun _ _ => rfl)) (pv 11) (nomark _))
            (pss_one (ps_for PassesOwn.never rfl (pi_range2 (by rfl) B.range (pa_cons (pe_ix (ix_sq (K := K) rfl) (pv 13) pe_int (fun _ _ => rfl)) (pa_cons (pe_op op_add (pe_callB (cx_min rfl) (by rfl) B.min bo_min (pa_cons (pe_ix (ix_sq (K := K) rfl) (pv 13) pe_int (fun _ _ => rfl)) (pa_cons (pv 9) pa_nil))) pe_int) pa_nil))) (pg_name (i := 14) sc_l_spots.nd rfl (.inl rfl))
              (pss_cons (ps_set (i := 15) sc_l_spots.nd rfl (.inl rfl) (pe_dget (hu_of hr) (pv 8) (pe_tup (pa_cons (pe_ix (ix_sq (K := K) rfl) (pv 13) pe_int (fun _ _ => rfl)) (pa_cons (pe_op op_add (pv 10) (pv 14)) pa_nil))) (fun _ _ => rfl)))
              (pss_one (ps_if (pt_cmpR op_gt (pv 15) pe_int (nomark _))
                (pss_one (ps_set (i := 12) sc_l_spots.nd rfl (.inl rfl) (pe_op op_add (pv 12) (pe_op op_mul (pv 15) (pe_d D_l_count hr (by rfl) (pa_cons (pv 0) (pa_cons (pv 1) (pa_cons (pe_d D_l_piece hr (by rfl) (pa_cons (pv 6) (pa_cons (pv 2) (pa_cons (pe_ix (ix_sq (K := K) rfl) (pv 13) pe_int (fun _ _ => rfl)) (pa_cons (pv 10) (pa_cons (pv 14) pa_nil)))))) (pa_cons (pv 3) pa_nil)))))))))
                pss_nil)))))
            pss_nil)))
        (pss_one (ps_dput (hu_of hr) (pv 8) (pe_tup (pa_cons (pv 11) (pa_cons (pv 10) pa_nil))) (pv 12) rfl))))))))
    (pss_one (ps_ret (pv 8)))))))), ?_⟩
  have h0' := h0
  have h1' := h1
  have h2' := h2
  change Rep H (.tuple (ps.map encPart)) v0 at h0'
  change Rep H (.tuple (ps.map encWay)) v1 at h1'
  change Rep H (.tuple [.int r.n, .int r.x, .int r.y, .int r.w, .int r.h]) v2 at h2'
  have hlf := (gd.ls _ _ hpn).mp rfl
  have hpm := List.mem_of_getElem? hpn
  have hml : MvL (machineOf e).mvs := gd.way _ hpm
  have hen : (∀ mv ∈ (machineOf e).mvs, mv.t < (machineOf e).ends.length) ∧ 0 < (machineOf e).ends.length := gd.ends _ hpm
  have htwo := gd.two
  have hel : (machineOf e).ends.length ≤ 100 := (gd.few _ hpm).2
  have hrn := hin.n
  have hfar : ext ac r ≤ 6 := by
    unfold ext
    have := hin.x1; have := hin.x2; have := hin.y1; have := hin.y2
    cases ac
    · rw [if_neg (by decide)]; omega
    · rw [if_pos rfl]; omega
  have hso : ∀ sp, (∀ s o, s < (machineOf e).ends.length → o ≤ ext ac r → SpotAt ps lf r ac (machineOf e) sp s o) → SpotsOk ps lf r sp := fun sp h => by
    unfold SpotsOk
    rw [hpn]
    exact h
  have hpcs : ∀ (o : Nat) (mv : Mv) (z : Nat), mv ∈ (machineOf e).mvs → mv.l ≤ z → z ≤ mv.m → o + z ≤ ext ac r → InR ps.length R0 (piece ac r mv.p o z) ∧ mv.p < r.n := fun o mv z hmv hz1 hz2 hz3 => by
    have hup := gd.up _ _ hpn mv hmv
    obtain ⟨a1, a2, a3, a4, a5⟩ := hin
    unfold ext at hz3
    unfold piece
    cases ac
    · rw [if_neg (by decide)] at hz3 ⊢
      exact ⟨⟨by show mv.p < _; omega, a2, a3, by show R0.y ≤ r.y + o; omega, by show r.y + o + z ≤ _; omega⟩, hup⟩
    · rw [if_pos rfl] at hz3 ⊢
      exact ⟨⟨by show mv.p < _; omega, by show R0.x ≤ r.x + o; omega, by show r.x + o + z ≤ _; omega, a4, a5⟩, hup⟩
  have hBp := BD_pos (r.n - lf)
  have hBs : BD (r.n - lf) < 2 ^ 64 := by
    rcases Nat.lt_or_ge (r.n - lf) 1 with h | h
    · have : r.n - lf = 0 := by omega
      rw [this]; decide
    · have : r.n - lf = 1 := by omega
      rw [this]; exact BD_one
  have hencm : encWay (.strip ac nm jt e) = encMach (machineOf e) := rfl
  generalize machineOf e = m at *
  walk_at "go"
  refine w_ix h1' (Tp.refl _) (by omega) (by rw [Int.toNat_natCast, List.getElem?_map, hpn]; rfl) (fun y hy => ?_)
  rw [hencm] at hy
  refine w_gtupD (ds := [.tuple (m.ends.map PyData.bool), .tuple (m.mvs.map encMv)]) hy (Tp.refl _) rfl (fun us hus => ?_)
  cases hus with
  | cons hve hus => cases hus with
  | cons hvm hus => cases hus with
  | nil =>
  rename_i ve vm
  walk_at "go"
  refine w_ix h0' (Tp.refl _) (by omega) (by rw [Int.toNat_natCast, List.getElem?_map, hpn]; rfl) (fun vp hvp => ?_)
  walk_at "go"
  refine ⟨vp, v2, ac, nm, jt, e, r, rfl, hvp, h2, ?_⟩
  walk_at "go"
  refine w_dnewT fun sa H1 san hsa g1 => ?_
  walk_at "go"
  obtain ⟨kvs0, hkv0, _⟩ := ht.ex
  have hne : sa ≠ tbl := fun z => by subst z; rw [hkv0] at san; cases san
  have htN : TabI (fun a => N a ∨ a = sa) ps lf R0 H1 tbl ks := by
    have h := ht.gr g1
    obtain ⟨kvs1, b1, b2, b3⟩ := ht.ex
    refine ⟨⟨kvs1, g1.dT id b1, b2, fun x hx => ?_⟩, h.nd, h.ins⟩
    obtain ⟨d', sp', c1, c2, c3, c4⟩ := b3 x hx
    exact ⟨d', sp', c1, ⟨c2.1, fun z => z.elim c2.2 (fun z => by subst z; rw [san] at c3; cases c3)⟩, g1.dT id c3, c4⟩
  have hNn : ∀ {H' : Hp}, Gr (SK tbl sa) H1 H' → ∀ a, (N a ∨ a = sa) → H' a ≠ none := fun {H'} g a h z => by
    have h1 := g.nn a z
    rcases h with h | h
    · exact hN a h (g1.nn a h1)
    · subst h; rw [hsa] at h1; cases h1
  have GH : ∀ {H' : Hp}, Gr (SK tbl sa) H1 H' → Gr (S1 tbl) H H' := fun {H'} g => by
    refine ⟨fun a o hs ho h => g.st a o (fun z => z.elim hs (fun z => ?_)) ho (g1.st a o id ho h), g1.tp.trans g.tp, fun a h => g.tb a (g1.tb a h), fun a h => g1.nn a (g.nn a h)⟩
    subst z
    rw [san] at h
    cases h
  have e0 : ((ext ac r : Nat) : Int) + 1 = ((ext ac r + 1 : Nat) : Int) := by omega
  rw [e0]
  refine rng1 (n := ext ac r + 1) (by omega) (fun i σ H' => ∃ (d9 d10 d11 d12 d13 d14 d15 : Option V) (sp : List (List L2.Key × V)) (ks' : List Rg), σ = [some v0, some v1, some v2, some (.ref tbl), some ve, some vm, some vp, some (.int (ext ac r : Nat)), some (.ref sa), d9, d10, d11, d12, d13, d14, d15] ∧ Gr (SK tbl sa) H1 H' ∧ H' sa = some (.dT sp) ∧ sp.length ≤ 200 * i ∧
    TabI (fun a => N a ∨ a = sa) ps lf R0 H' tbl ks' ∧ (∀ x ∈ ks, x ∈ ks') ∧ (∀ x ∈ ks', x ∈ ks ∨ x.n < r.n) ∧ ∀ s o, s < m.ends.length → o ≤ ext ac r → ext ac r < o + i → SpotAt ps lf r ac m sp s o) ⟨_, _, _, _, _, _, _, [], ks, rfl, Gr.refl _ _, hsa, Nat.le_refl _, htN, fun x hx => hx, fun x hx => .inl hx, fun s o _ h1 h2 => by omega⟩ (fun i σ H2 hi hp => ?_) (fun σ H2 hp => ?_)
  · obtain ⟨d9, d10, d11, d12, d13, d14, d15, sp, ks', rfl, g2, hsa2, hspl, ht2, hs2, hk2, hok2⟩ := hp
    have il : i ≤ ext ac r := by omega
    have e1 : (ext ac r : Int) - (i : Int) = ((ext ac r - i : Nat) : Int) := by omega
    walk_at "go"
    rw [e1]
    have hve1 := hve.mono g1.tp
    have hve2 := hve1.mono g2.tp
    rw [List.length_map]
    refine rng1 (n := m.ends.length) (by omega) (fun j σ H' => ∃ (d11 d12 d13 d14 d15 : Option V) (sp : List (List L2.Key × V)) (ks' : List Rg), σ = [some v0, some v1, some v2, some (.ref tbl), some ve, some vm, some vp, some (.int (ext ac r : Nat)), some (.ref sa), some (.int (i : Nat)), some (.int (ext ac r - i : Nat)), d11, d12, d13, d14, d15] ∧ Gr (SK tbl sa) H1 H' ∧ H' sa = some (.dT sp) ∧ sp.length ≤ 200 * i + j ∧
      TabI (fun a => N a ∨ a = sa) ps lf R0 H' tbl ks' ∧ (∀ x ∈ ks, x ∈ ks') ∧ (∀ x ∈ ks', x ∈ ks ∨ x.n < r.n) ∧ ∀ s o, s < m.ends.length → o ≤ ext ac r → (ext ac r < o + i ∨ (o = ext ac r - i ∧ s < j)) → SpotAt ps lf r ac m sp s o) ⟨_, _, _, _, _, sp, ks', rfl, g2, hsa2, hspl, ht2, hs2, hk2, fun s o h1 h2 h3 => hok2 s o h1 h2 (h3.elim id fun h => absurd h.2 (Nat.not_lt_zero _))⟩ (fun j σ H3 hj hp => ?_) (fun σ H3 hp => ?_)
    · obtain ⟨d11, d12, d13, d14, d15, sp, ks', rfl, g3, hsa3, hspl3, ht3, hs3, hk3, hok3⟩ := hp
      have hve3 := hve1.mono g3.tp
      have hje : m.ends[j]? = some m.ends[j] := List.getElem?_eq_getElem hj
      walk_at "go"
      refine join_at (A := fun (x : V) (H4 : Hp) => ∃ many : Nat, x = .int (many : Nat) ∧ Gr S0 H3 H4 ∧ CardR (fun row => row = Row.nil ∧ ext ac r - i = ext ac r ∧ m.ends[j]? = some true) many ∧ many ≤ 1) ?T (fun key => ?use) ?pf
      case use =>
        refine if_of (fun h => ?_) (fun h => ?_)
        · have hi0 : i = 0 := by have := of_decide_eq_true h; omega
          walk_at "go"
          refine w_ix hve3 (Tp.refl _) (by omega) (by rw [Int.toNat_natCast, List.getElem?_map, hje]; rfl) (fun y hy => ?_)
          have := Rep.blI hy
          subst this
          walk_at "go"
          generalize hx : V.int (Sr.b2 m.ends[j] : Nat) = x
          generalize hH : H3 = H4
          refine key x H4 ⟨Sr.b2 m.ends[j], hx.symm, hH ▸ Gr.refl _ _, ?_, by cases m.ends[j] <;> decide⟩
          cases he : m.ends[j] with
          | true => exact CardR.one .nil fun row => ⟨fun h => h.1, fun h => ⟨h, by omega, by rw [hje, he]⟩⟩
          | false =>
            exact CardR.none fun row h => by
              have := h.2.2
              rw [hje, he] at this
              cases this
        · have hi0 : i ≠ 0 := by have := of_decide_eq_false h; omega
          walk_at "go"
          exact key _ H3 ⟨0, rfl, Gr.refl _ _, CardR.none fun row h => by have := h.2.1; omega, Nat.zero_le _⟩
      case pf =>
        intro x H4 ⟨many, hx, g4, hc4, hm4⟩
        subst hx
        obtain ⟨T, hT0, hT1⟩ : ∃ T, (i = 0 → T = 0) ∧ (1 ≤ i → T = (801 * BD (r.n - lf)) ^ (i - 1) * BD (r.n - lf)) := by
          by_cases hi0 : i = 0
          · exact ⟨0, fun _ => rfl, fun h => by omega⟩
          · exact ⟨_, fun h => absurd h hi0, fun _ => rfl⟩
        have ht4 := ht3.gr g4
        have hsa4 := g4.dT id hsa3
        have g14 := g3.trans g4.any
        have hvm1 := hvm.mono g1.tp
        have T14 := g14.tp
        refine forT (hvm1.mono T14) (Tp.refl _) (fun k σ H' => ∃ (d13 d14 d15 : Option V) (many : Nat) (ks' : List Rg), σ = [some v0, some v1, some v2, some (.ref tbl), some ve, some vm, some vp, some (.int (ext ac r : Nat)), some (.ref sa), some (.int (i : Nat)), some (.int (ext ac r - i : Nat)), some (.int (j : Nat)), some (.int (many : Nat)), d13, d14, d15] ∧ Gr (SK tbl sa) H1 H' ∧ H' sa = some (.dT sp) ∧ Tp H4 H' ∧
          TabI (fun a => N a ∨ a = sa) ps lf R0 H' tbl ks' ∧ (∀ x ∈ ks, x ∈ ks') ∧ (∀ x ∈ ks', x ∈ ks ∨ x.n < r.n) ∧ CardR (fun row => (row = Row.nil ∧ ext ac r - i = ext ac r ∧ m.ends[j]? = some true) ∨ ∃ n z mv, n < k ∧ m.mvs[n]? = some mv ∧ mv.o = j ∧ mv.l ≤ z ∧ z ≤ mv.m ∧ z ≤ i ∧ Gp (Fil ps (piece ac r mv.p (ext ac r - i) z)) (Rst ps ac m r mv.t (ext ac r - i + z)) n z row) many ∧ many ≤ 1 + 8 * k * T) ⟨_, _, _, many, ks', rfl, g14, hsa4, Tp.refl _, ht4, hs3, hk3, hc4.iff fun row => ⟨fun h => h.elim id (fun ⟨n, z, mv, h, _⟩ => absurd h (Nat.not_lt_zero _)), .inl⟩, by omega⟩ (fun k σ H' hp => by obtain ⟨_, _, _, _, _, _, _, _, tp, _⟩ := hp; exact tp) (fun k dd u σ H5 hk hu hp => ?_) (fun σ H5 hp => ?_)
        · obtain ⟨d13, d14, d15, many, ks', rfl, g5, hsa5, tp5, ht5, hs5, hk5, hc5, hm5⟩ := hp
          have hkl : k < m.mvs.length := by
            have := (List.getElem?_eq_some_iff.mp hk).1
            rwa [List.length_map] at this
          have hmk : m.mvs[k]? = some m.mvs[k] := List.getElem?_eq_getElem hkl
          have ed : dd = encMv m.mvs[k] := by
            rw [List.getElem?_map, hmk] at hk
            cases hk; rfl
          subst ed
          have hmm : m.mvs[k] ∈ m.mvs := List.getElem_mem _
          generalize m.mvs[k] = mv at *
          obtain ⟨m1, m2, m3⟩ := hml.2 mv hmm
          have hu5 := hu.mono tp5
          change Rep H5 (.tuple [.int mv.o, .int mv.t, .int mv.p, .int mv.l, .int mv.m, .int mv.c]) u at hu5
          walk_at "go"
          refine if_of (fun h => ?_) (fun h => ?_)
          · have hms : mv.o = j := by have := of_decide_eq_true h; omega
            walk_at "go"
            refine rng2 (hi := min mv.m i + 1) (by omega) (by omega) (by omega) (fun z σ H' => ∃ (d14 d15 : Option V) (many : Nat) (ks' : List Rg), σ = [some v0, some v1, some v2, some (.ref tbl), some ve, some vm, some vp, some (.int (ext ac r : Nat)), some (.ref sa), some (.int (i : Nat)), some (.int (ext ac r - i : Nat)), some (.int (j : Nat)), some (.int (many : Nat)), some u, d14, d15] ∧ Gr (SK tbl sa) H1 H' ∧ H' sa = some (.dT sp) ∧ Tp H4 H' ∧ Tp H5 H' ∧
              TabI (fun a => N a ∨ a = sa) ps lf R0 H' tbl ks' ∧ (∀ x ∈ ks, x ∈ ks') ∧ (∀ x ∈ ks', x ∈ ks ∨ x.n < r.n) ∧ CardR (fun row => (row = Row.nil ∧ ext ac r - i = ext ac r ∧ m.ends[j]? = some true) ∨ ∃ n z' mv', (n < k ∨ (n = k ∧ z' < z)) ∧ m.mvs[n]? = some mv' ∧ mv'.o = j ∧ mv'.l ≤ z' ∧ z' ≤ mv'.m ∧ z' ≤ i ∧ Gp (Fil ps (piece ac r mv'.p (ext ac r - i) z')) (Rst ps ac m r mv'.t (ext ac r - i + z')) n z' row) many ∧ many ≤ 1 + (8 * k + (z - mv.l)) * T) ⟨_, _, many, ks', rfl, g5, hsa5, tp5, Tp.refl _, ht5, hs5, hk5, hc5.iff fun row => ⟨fun h => h.imp id (fun ⟨n, z, mv', h, h2, h3, h4, h5⟩ => ⟨n, z, mv', h.elim id (fun ⟨e1, e2⟩ => by subst e1; rw [hmk] at h2; cases h2; omega), h2, h3, h4, h5⟩), fun h => h.imp id (fun ⟨n, z, mv', h, h2⟩ => ⟨n, z, mv', .inl h, h2⟩)⟩, by rw [Nat.sub_self, Nat.add_zero]; exact hm5⟩ (fun z σ H6 hz1 hz2 hp => ?_) (fun σ H6 hp => ?_)
            · obtain ⟨d14, d15, many, ks', rfl, g6, hsa6, tp6, tp56, ht6, hs6, hk6, hc6, hm6⟩ := hp
              have hu6 := hu5.mono tp56
              have e2 : ((ext ac r - i : Nat) : Int) + (z : Int) = ((ext ac r - i + z : Nat) : Int) := by omega
              walk_at "go"
              rw [e2]
              refine tup_new (ds := [.int mv.t, .int (ext ac r - i + z : Nat)]) (by walk_at "repl") (by simp) fun p8 H8 _ _ g8 hp8 => ?_
              obtain ⟨b8, e8, hb8⟩ := skAt hp8
              cases e8
              obtain ⟨n1, a1, a2, a3⟩ := hok3 mv.t (ext ac r - i + z) (hen.1 mv hmm) (by omega) (.inl (by omega))
              obtain ⟨hpi, hpl⟩ := hpcs (ext ac r - i) mv z hmm hz1 (by omega) (by omega)
              refine ⟨sa, _, rfl, by rw [← a1]; exact DGet.t (g8.dT id hsa6) hb8, ?_⟩
              have hu8 := hu6.mono g8.tp
              have g18 := g6.trans g8.any
              have hstep : ∀ (n2 : Nat), CardR (Gp (Fil ps (piece ac r mv.p (ext ac r - i) z)) (Rst ps ac m r mv.t (ext ac r - i + z)) k z) n2 → n2 ≤ T → CardR (fun row => (row = Row.nil ∧ ext ac r - i = ext ac r ∧ m.ends[j]? = some true) ∨ ∃ n z' mv', (n < k ∨ (n = k ∧ z' < z + 1)) ∧ m.mvs[n]? = some mv' ∧ mv'.o = j ∧ mv'.l ≤ z' ∧ z' ≤ mv'.m ∧ z' ≤ i ∧ Gp (Fil ps (piece ac r mv'.p (ext ac r - i) z')) (Rst ps ac m r mv'.t (ext ac r - i + z')) n z' row) (many + n2) ∧ many + n2 ≤ 1 + (8 * k + (z + 1 - mv.l)) * T := fun n2 hn2 hle => by
                refine ⟨hc6.add hn2 (fun row hf hg => ?_) (fun row => ?_), ?_⟩
                · obtain ⟨i', r', _, _, rfl⟩ := hg
                  rcases hf with ⟨h, _⟩ | ⟨n, z', mv', h, _, _, _, _, _, i2, r2, _, _, e⟩
                  · cases h
                  · injection e with e1 e2
                    rcases h with h | ⟨_, h⟩ <;> omega
                · constructor
                  · rintro (h | ⟨n, z', mv', h, h2, h3, h4, h5, h6, h7⟩)
                    · exact .inl (.inl h)
                    · by_cases hnz : n = k ∧ z' = z
                      · obtain ⟨rfl, rfl⟩ := hnz
                        rw [hmk] at h2
                        cases h2
                        exact .inr h7
                      · exact .inl (.inr ⟨n, z', mv', h.imp id (fun ⟨e1, e2⟩ => ⟨e1, by omega⟩), h2, h3, h4, h5, h6, h7⟩)
                  · rintro ((h | ⟨n, z', mv', h, h2⟩) | h)
                    · exact .inl h
                    · exact .inr ⟨n, z', mv', h.imp id (fun ⟨e1, e2⟩ => ⟨e1, by omega⟩), h2⟩
                    · exact .inr ⟨k, z, mv, .inr ⟨rfl, Nat.lt_succ_self _⟩, hmk, hms, hz1, by omega, by omega, h⟩
                · have e3 : 8 * k + (z + 1 - mv.l) = (8 * k + (z - mv.l)) + 1 := by omega
                  rw [e3, Nat.succ_mul]
                  omega
              walk_at "go"
              refine if_of (fun h => ?_) (fun h => ?_)
              · have hn1 : 0 < n1 := by have := of_decide_eq_true h; omega
                walk_at "go"
                refine ⟨vp, v2, ac, nm, jt, e, r, ext ac r - i, mv.p, z, rfl, hvp.mono (g1.tp.trans g18.tp), h2.mono (g1.tp.trans g18.tp), fun y9 H9 g9 hy9 => ?_⟩
                walk_at "go"
                have g19 := g18.trans g9.any
                refine ⟨v0, v1, y9, tbl, ps, (fun a => N a ∨ a = sa), lf, piece ac r mv.p (ext ac r - i) z, R0, ks', rfl, h0.mono (g1.tp.trans g19.tp), h1.mono (g1.tp.trans g19.tp), hy9, gd, hpi, hrw, hrh, ?_, (ht6.gr g8).gr g9, hNn g19, fun n2 H10 ks2 g10 ht10 hs10 hk10 _ hc10 hm10 => ?_⟩
                · have : (piece ac r mv.p (ext ac r - i) z).n = mv.p := by unfold piece; cases ac <;> rfl
                  rw [this]; omega
                have hpn' : (piece ac r mv.p (ext ac r - i) z).n = mv.p := by unfold piece; cases ac <;> rfl
                rw [hpn'] at hm10 hk10
                have hmB : n2 ≤ BD (r.n - lf) := by
                  exact Nat.le_trans hm10 (BD_mono (by omega))
                have g110 : Gr (SK tbl sa) H1 H10 := g19.trans (g10.mono fun a z => .inl z)
                have hsa10 : H10 sa = some (.dT sp) := g10.dT (fun z => hne z) (g9.dT id (g8.dT id hsa6))
                walk_at "go"
                refine w_I (C := CMul) (.inr ⟨by omega, by omega⟩) ?_
                have e4 : (n1 : Int) * (n2 : Int) = ((n1 * n2 : Nat) : Int) := by rw [Int.natCast_mul]
                rw [e4]
                walk_at "go"
                have e5 : (many : Int) + ((n1 * n2 : Nat) : Int) = ((many + n1 * n2 : Nat) : Int) := by omega
                rw [e5]
                obtain ⟨f1, f2⟩ := hstep (n1 * n2) (CardR.prod hc10 a2) (by
                  rw [hT1 (by omega)]
                  refine Nat.mul_le_mul (Nat.le_trans a3 ?_) hmB
                  exact Nat.pow_le_pow_right (Nat.mul_pos (by decide) hBp) (by omega))
                exact ⟨_, _, _, ks2, rfl, g110, hsa10, tp6.trans (g8.tp.trans (g9.tp.trans g10.tp)), tp56.trans (g8.tp.trans (g9.tp.trans g10.tp)), ht10, fun x hx => hs10 x (hs6 x hx), fun x hx => (hk10 x hx).elim (fun h => hk6 x h) (fun h => .inr (by omega)), f1, f2⟩
              · have hn1 : n1 = 0 := by have := of_decide_eq_false h; omega
                subst hn1
                obtain ⟨f1, f2⟩ := hstep 0 (CardR.none fun row ⟨i', r', _, h, _⟩ => a2.zero r' h) (Nat.zero_le _)
                walk_at "go"
                exact ⟨_, _, _, ks', rfl, g18, g8.dT id hsa6, tp6.trans g8.tp, tp56.trans g8.tp, ht6.gr g8, hs6, hk6, f1, f2⟩
            · obtain ⟨d14, d15, many, ks', rfl, g6, hsa6, tp6, tp56, ht6, hs6, hk6, hc6, hm6⟩ := hp
              have hA : CardR (fun row => (row = Row.nil ∧ ext ac r - i = ext ac r ∧ m.ends[j]? = some true) ∨ ∃ n z mv, n < k + 1 ∧ m.mvs[n]? = some mv ∧ mv.o = j ∧ mv.l ≤ z ∧ z ≤ mv.m ∧ z ≤ i ∧ Gp (Fil ps (piece ac r mv.p (ext ac r - i) z)) (Rst ps ac m r mv.t (ext ac r - i + z)) n z row) many := hc6.iff fun row => by
                constructor
                · rintro (h | ⟨n, z, mv', h, h2, h3, h4, h5, h6, h7⟩)
                  · exact .inl h
                  · refine .inr ⟨n, z, mv', ?_, h2, h3, h4, h5, h6, h7⟩
                    by_cases hnk : n = k
                    · subst hnk
                      rw [hmk] at h2
                      cases h2
                      exact .inr ⟨rfl, by omega⟩
                    · exact .inl (by omega)
                · rintro (h | ⟨n, z, mv', h, h2⟩)
                  · exact .inl h
                  · exact .inr ⟨n, z, mv', by rcases h with h | ⟨h, _⟩ <;> omega, h2⟩
              refine ⟨_, _, _, many, ks', rfl, g6, hsa6, tp6, ht6, hs6, hk6, hA, ?_⟩
              refine Nat.le_trans hm6 (Nat.add_le_add_left (Nat.mul_le_mul_right _ ?_) _)
              omega
          · have hms : ¬ mv.o = j := by have := of_decide_eq_false h; omega
            have hA : CardR (fun row => (row = Row.nil ∧ ext ac r - i = ext ac r ∧ m.ends[j]? = some true) ∨ ∃ n z mv, n < k + 1 ∧ m.mvs[n]? = some mv ∧ mv.o = j ∧ mv.l ≤ z ∧ z ≤ mv.m ∧ z ≤ i ∧ Gp (Fil ps (piece ac r mv.p (ext ac r - i) z)) (Rst ps ac m r mv.t (ext ac r - i + z)) n z row) many := hc5.iff fun row => by
              constructor
              · rintro (h | ⟨n, z, mv', h, h2, h3, h4⟩)
                · exact .inl h
                · refine .inr ⟨n, z, mv', ?_, h2, h3, h4⟩
                  by_cases hnk : n = k
                  · subst hnk
                    rw [hmk] at h2
                    cases h2
                    exact absurd h3 hms
                  · omega
              · rintro (h | ⟨n, z, mv', h, h2⟩)
                · exact .inl h
                · exact .inr ⟨n, z, mv', by omega, h2⟩
            refine ⟨_, _, _, many, ks', rfl, g5, hsa5, tp5, ht5, hs5, hk5, hA, ?_⟩
            refine Nat.le_trans hm5 (Nat.add_le_add_left (Nat.mul_le_mul_right _ ?_) _)
            omega
        · obtain ⟨d13, d14, d15, many, ks', rfl, g5, hsa5, tp5, ht5, hs5, hk5, hc5, hm5⟩ := hp
          rw [List.length_map] at hc5 hm5
          walk_at "go"
          refine tup_new (ds := [.int (j : Nat), .int (ext ac r - i : Nat)]) (by walk_at "repl") (by simp) fun p8 H8 _ _ g8 hp8 => ?_
          obtain ⟨b8, e8, hb8⟩ := skAt hp8
          cases e8
          have hsa8 := g8.dT id hsa5
          have hlen := length_putK sp (skK j (ext ac r - i)) (V.int (many : Nat))
          refine ⟨sa, _, rfl, DPut.t hsa8 hb8 (small6 (by omega)), ?_⟩
          have hcj : CardR (Rst ps ac m r j (ext ac r - i)) many := hc5.iff fun row => by
            cases row with
            | nil =>
              rw [rst_nil]
              constructor
              · exact fun h => .inl ⟨rfl, h⟩
              · rintro (⟨_, h⟩ | ⟨n, z, mv, _, _, _, _, _, _, i', r', _, _, h⟩)
                · exact h
                · cases h
            | cons n z i' rest =>
              rw [rst_cons]
              constructor
              · rintro ⟨mv, h1, h2, h3, h4, h5, h6, h7⟩
                exact .inr ⟨n, z, mv, (List.getElem?_eq_some_iff.mp h1).1, h1, h2, h3, h4, by omega, i', rest, h6, h7, rfl⟩
              · rintro (⟨h, _⟩ | ⟨n', z', mv, _, h1, h2, h3, h4, h5, i2, r2, h6, h7, h⟩)
                · cases h
                · injection h with e1 e2 e3 e4
                  subst e1 e2 e3 e4
                  exact ⟨mv, h1, h2, h3, h4, by omega, h6, h7⟩
          have hbj : many ≤ (801 * BD (r.n - lf)) ^ (ext ac r - (ext ac r - i)) := by
            have ei : ext ac r - (ext ac r - i) = i := by omega
            rw [ei]
            have hmvl := hml.1
            by_cases hi0 : i = 0
            · rw [hT0 hi0] at hm5
              subst hi0
              exact hm5
            · rw [hT1 (by omega)] at hm5
              obtain ⟨i', rfl⟩ : ∃ i', i = i' + 1 := ⟨i - 1, by omega⟩
              rw [Nat.add_sub_cancel] at hm5
              have hX : 1 ≤ (801 * BD (r.n - lf)) ^ i' := Nat.one_le_iff_ne_zero.mpr (Nat.pos_iff_ne_zero.mp (Nat.pow_pos (Nat.mul_pos (by decide) hBp)))
              rw [Nat.pow_succ, Nat.mul_left_comm]
              have hY : 1 ≤ (801 * BD (r.n - lf)) ^ i' * BD (r.n - lf) := Nat.mul_le_mul hX hBp
              generalize (801 * BD (r.n - lf)) ^ i' * BD (r.n - lf) = Y at *
              have : 8 * m.mvs.length * Y ≤ 800 * Y := Nat.mul_le_mul_right _ (by omega)
              omega
          refine ⟨_, _, _, _, _, _, ks', rfl, (g5.trans g8.any).setT (.inr (.inr rfl)) hsa8, upd_same, by omega, ?_, hs5, hk5, fun s' o' h1 h2 h3 => ?_⟩
          · obtain ⟨kvs8, b1, b2, b3⟩ := (ht5.gr g8).ex
            refine ⟨⟨kvs8, by rw [upd_ne hne.symm]; exact b1, b2, fun x hx => ?_⟩, ht5.nd, ht5.ins⟩
            obtain ⟨d', sp', c1, c2, c3, c4⟩ := b3 x hx
            refine ⟨d', sp', c1, c2, ?_, c4⟩
            rw [upd_ne (fun z => c2.2 (.inr z))]
            exact c3
          · by_cases hk : s' = j ∧ o' = ext ac r - i
            · obtain ⟨rfl, rfl⟩ := hk
              exact ⟨many, by rw [valV_put, if_pos rfl], hcj, hbj⟩
            · exact (hok3 s' o' h1 h2 (by omega)).put hk
    · obtain ⟨d11, d12, d13, d14, d15, sp, ks', rfl, g3, hsa3, hspl3, ht3, hs3, hk3, hok3⟩ := hp
      exact ⟨_, _, _, _, _, _, _, sp, ks', rfl, g3, hsa3, by omega, ht3, hs3, hk3, fun s o h1 h2 h3 => hok3 s o h1 h2 (by omega)⟩
  · obtain ⟨d9, d10, d11, d12, d13, d14, d15, sp, ks', rfl, g2, hsa2, hspl, ht2, hs2, hk2, hok2⟩ := hp
    walk_at "go"
    obtain ⟨kvs2, b1, b2, b3⟩ := ht2.ex
    refine q sa sp H2 ks' (GH g2) san hsa2 ⟨hne, fun z => hN sa z san⟩ (hso sp fun s o h1 h2 => hok2 s o h1 h2 (by omega)) ⟨⟨kvs2, b1, b2, fun x hx => ?_⟩, ht2.nd, ht2.ins⟩ hs2 hk2
    obtain ⟨d', sp', c1, c2, c3, c4⟩ := b3 x hx
    exact ⟨d', sp', c1, ⟨c2.1, fun z => c2.2 (.inl z)⟩, c3, c4⟩
end
end Sr
/-! SrF: all readings. -/
namespace Sr
open PySem PySem.Spec PyProof.Rows L2
local macro_rules | `(tactic| walk_at "tp") => `(tactic| first
  | exact Tp.refl _
  | assumption
  | exact Gr.tp (by assumption)
  | (refine Tp.trans ?_ (by first | assumption | exact Gr.tp (by assumption)); walk_at "tp"))
local macro_rules | `(tactic| walk_at "gr") => `(tactic| first
  | exact Gr.refl _ _
  | assumption
  | exact Gr.any (by assumption)
  | (refine Gr.trans ?_ (by first | assumption | exact Gr.any (by assumption)); walk_at "gr"))
local macro_rules | `(tactic| walk_at "rep") => `(tactic| first
  | exact Rep.int _ | exact Rep.str _ | exact Rep.bl _ | exact Rep.non
  | assumption
  | (refine Rep.mono ?_ (by assumption); walk_at "tp"))
local macro_rules | `(tactic| walk_at "repl") => `(tactic| repeat first
  | exact RepL.nil
  | (apply RepL.cons; (· walk_at "rep")))
local macro_rules | `(tactic| walk_at "step") => `(tactic| first
  | ((with_reducible apply w_var); rfl)
  | (with_reducible apply w_c)
  | (with_reducible apply w_op)
  | (with_reducible apply w_I0)
  | ((with_reducible apply w_ix); (· assumption); (· walk_at "tp"); (· decide); (· rfl); (intro x hx; first | (have e := Rep.intI hx; subst e; clear hx) | (have e := Rep.strI hx; subst e; clear hx) | (have e := Rep.blI hx; subst e; clear hx) | skip))
  | ((with_reducible apply w_ixU); (· assumption); (· walk_at "tp"); (· decide); (· rfl))
  | (with_reducible apply w_eqS)
  | (with_reducible apply w_eqI)
  | (with_reducible apply w_eqB)
  | (with_reducible apply w_neB)
  | (with_reducible apply w_test)
  | (with_reducible apply w_tB)
  | (with_reducible apply w_and)
  | (with_reducible apply w_or)
  | (with_reducible apply w_not)
  | (with_reducible apply w_nil)
  | (with_reducible apply w_cons)
  | (with_reducible apply w_CB)
  | (with_reducible apply w_call)
  | (with_reducible apply w_seq)
  | (with_reducible apply w_asg)
  | (with_reducible apply w_gname)
  | (with_reducible apply w_drop)
  | (with_reducible apply w_ret)
  | (with_reducible apply w_ifS)
  | (with_reducible apply w_next)
  | (with_reducible apply w_ifE)
  | (with_reducible apply w_andV)
  | (with_reducible apply w_orV)
  | (with_reducible apply w_notV)
  | (with_reducible apply w_tupE)
  | (with_reducible apply w_lstE)
  | (with_reducible apply w_bl)
  | ((with_reducible apply w_aug); rfl)
  | (with_reducible apply w_ip)
  | (with_reducible apply w_for1)
  | (with_reducible apply w_for2)
  | (with_reducible apply w_forT)
  | (with_reducible apply w_forL)
  | ((with_reducible apply w_lenD); (· assumption); (· walk_at "tp"))
  | (with_reducible apply w_min)
  | (with_reducible apply w_intI)
  | (with_reducible apply w_intB)
  | ((with_reducible apply w_I); (· first | decide | exact (by decide : (1000 : Int) ≠ 0) | exact ⟨by decide, by decide⟩ | exact ⟨by decide, by decide, by decide⟩ | exact .inr ⟨by decide, by decide⟩ | exact .inl ⟨by decide, by decide⟩))
  | (with_reducible apply w_bm)
  | (with_reducible apply w_bm0)
  | ((with_reducible apply w_tyL); (· assumption))
  | (with_reducible apply w_gsub)
  | (with_reducible apply w_fld)
  | (with_reducible apply w_gcons)
  | (with_reducible apply w_gnil)
  | ((with_reducible apply w_gtup); (· assumption); (· walk_at "tp"); (· rfl))
  | (with_reducible apply w_meth)
  | (with_reducible apply w_lc1)
  | (with_reducible apply w_lcL)
  | (with_reducible apply w_lcT)
  | (with_reducible apply w_yes)
  | (with_reducible apply w_m1)
  | (with_reducible apply w_dnotin)
  | (with_reducible apply w_din)
  | (with_reducible apply w_dget)
  | (with_reducible apply w_dput)
  | ((with_reducible apply w_ixL); (· assumption); (· decide); (· rfl)))
local macro_rules | `(tactic| walk_at "go") => `(tactic| repeat walk_at "step")
local macro_rules | `(tactic| walk_at "set") => `(tactic| dsimp only [List.set_cons_succ, List.set_cons_zero])

section
variable {P : Program} {w : World} {K : PySem.W.Frag} {mg : Str → Option Value} {base : Heap}
def NB : Nat := 100000
def spRests (d b : Nat) : Sp := fun vs H Q _ => ∃ (v0 v1 v2 v3 : V) (tbl : Addr) (ps : List Part) (N : Addr → Prop) (lf : Nat) (r R0 : Rg) (ks : List Rg) (ac : Bool) (nm jt : Str) (e : Ex) (s o NN : Nat), vs = [v0, v1, v2, v3, .ref tbl] ∧ Rep H (partsD ps) v0 ∧ Rep H (waysD ps) v1 ∧ Rep H (encRg r) v2 ∧ Rep H (.tuple [.int s, .int o]) v3 ∧ GoodL ps lf ∧ InR ps.length R0 r ∧ R0.w ≤ 6 ∧ R0.h ≤ 6 ∧
  r.n + 1 - lf ≤ d ∧ TabI N ps lf R0 H tbl ks ∧ (∀ a, N a → H a ≠ none) ∧ ps[r.n]? = some (.strip ac nm jt e) ∧ r ∈ ks ∧ s < (machineOf e).ends.length ∧ o ≤ ext ac r ∧ ext ac r - o < b ∧ CardR (Rst ps ac (machineOf e) r s o) NN ∧ NN ≤ NB ∧
  ∀ (a : Addr) (L : List Row) (H' : Hp) (ks' : List Rg), Gr (S1 tbl) H H' → H a = none → LD H' a (L.map encRow) → L.Nodup → (∀ row, row ∈ L ↔ Rst ps ac (machineOf e) r s o row) → TabI N ps lf R0 H' tbl ks' → (∀ x ∈ ks, x ∈ ks') → (∀ x ∈ ks', x ∈ ks ∨ x.n < r.n) → Q (.ref a) H'
def spAll (d : Nat) : Sp := fun vs H Q _ => ∃ (v0 v1 v2 : V) (tbl : Addr) (ps : List Part) (N : Addr → Prop) (lf : Nat) (r R0 : Rg) (ks : List Rg) (NN : Nat), vs = [v0, v1, v2, .ref tbl] ∧ Rep H (partsD ps) v0 ∧ Rep H (waysD ps) v1 ∧ Rep H (encRg r) v2 ∧ GoodL ps lf ∧ InR ps.length R0 r ∧ R0.w ≤ 6 ∧ R0.h ≤ 6 ∧
  r.n + 1 - lf < d ∧ TabI N ps lf R0 H tbl ks ∧ (∀ a, N a → H a ≠ none) ∧ CardR (Fil ps r) NN ∧ NN ≤ NB ∧
  ∀ (a : Addr) (L : List Row) (H' : Hp) (ks' : List Rg), Gr (S1 tbl) H H' → H a = none → LD H' a (L.map encRow) → L.Nodup → (∀ row, row ∈ L ↔ Fil ps r row) → TabI N ps lf R0 H' tbl ks' → (∀ x ∈ ks, x ∈ ks') → (∀ x ∈ ks', x ∈ ks ∨ x.n ≤ r.n) → Q (.ref a) H'
theorem sc_l_all : FnScope ["_law_parts_here", "_law_ways", "_law_region", "_law_table", "_law_many"] ["_law_parts_here", "_law_ways", "_law_region", "_law_table"] (defScope (top 48)) := ⟨rfl, rfl, rfl, by decide +kernel, rfl, by decide +kernel, by decide +kernel⟩
theorem ok_l_all (d k : Nat) (R : Raw K mg "_law_all" (top 48) ["_law_parts_here", "_law_ways", "_law_region", "_law_table"]) (B : Bi mg) (D_l_strip : Def P w K mg base k "_law_strip" ["_law_part"] spLStrip) (D_l_count : Def P w K mg base k "_law_count" ["_law_parts_here", "_law_ways", "_law_region", "_law_table"] (spCount 3)) (D_l_rests : Def P w K mg base k "_law_rests" ["_law_parts_here", "_law_ways", "_law_region", "_law_spot", "_law_table"] (spRests d 7)) : Def P w K mg base (k + 1) "_law_all" ["_law_parts_here", "_law_ways", "_law_region", "_law_table"] (spAll (d + 1)) := by
  refine R.ok sc_l_all (fun vs H Q E h => ?_) (fun f cdv A outer s H vs Q E hr h => ?_)
  · obtain ⟨_, _, _, _, _, _, _, _, _, _, _, rfl, _⟩ := h; rfl
  obtain ⟨v0, v1, v2, tbl, ps, N, lf, r, R0, ks, NN, rfl, h0, h1, h2, gd, hin, hrw, hrh, hd, ht, hN, hc, hNN, q⟩ := h
  refine ⟨_, (pss_cons (ps_set (i := 4) sc_l_all.nd rfl (.inl rfl) (pe_d D_l_count hr (by rfl) (pa_cons (pv 0) (pa_cons (pv 1) (pa_cons (pv 2) (pa_cons (pv 3) pa_nil))))))
    (pss_cons (ps_if (pt_val (pe_d D_l_strip hr (by rfl) (pa_cons (pe_ix (ix_sq (K := K) rfl) (pv 0) (pe_ix (ix_sq (K := K) rfl) (pv 2) pe_int (fun _ _ => rfl)) (fun _ _ => rfl)) pa_nil)))
      (pss_one (ps_ret (pe_d D_l_rests hr (by rfl) (pa_cons (pv 0) (pa_cons (pv 1) (pa_cons (pv 2) (pa_cons (pe_tup (pa_cons pe_int (pa_cons pe_int pa_nil))) (pa_cons (pv 3) pa_nil))))))))
      pss_nil)
    (pss_one (ps_ret (pe_op op_rep (pe_lst (pa_cons (pe_tup pa_nil) pa_nil)) (pv 4)))))), ?_⟩
  walk_at "go"
  have hrn := hin.n
  have htwo := gd.two
  refine ⟨v0, v1, v2, tbl, ps, N, lf, r, R0, ks, rfl, h0, h1, h2, gd, hin, hrw, hrh, by omega, ht, hN, fun n H1 ks1 g1 ht1 hs1 hk1 hr1 hc1 hn1 => ?_⟩
  obtain rfl := hc.inj hc1
  have h01 := h0.mono g1.tp
  have h21 := h2.mono g1.tp
  change Rep H1 (.tuple (ps.map encPart)) v0 at h01
  change Rep H1 (.tuple [.int r.n, .int r.x, .int r.y, .int r.w, .int r.h]) v2 at h21
  have hpn : ps[r.n]? = some (ps[r.n]'hin.n) := List.getElem?_eq_getElem _
  have hlf := gd.ls _ _ hpn
  walk_at "go"
  refine w_ix h01 (Tp.refl _) (by omega) (by rw [Int.toNat_natCast, List.getElem?_map, hpn]; rfl) (fun y hy => ?_)
  walk_at "go"
  refine ⟨y, ps[r.n]'hin.n, rfl, hy, ?_⟩
  have hN1 : ∀ a, N a → H1 a ≠ none := fun a h z => hN a h (g1.nn a z)
  cases hs : isStrip (ps[r.n]'hin.n) with
  | true =>
    cases ep : ps[r.n]'hin.n with
    | plain => rw [ep] at hs; cases hs
    | shape => rw [ep] at hs; cases hs
    | strip ac nm jt e =>
      refine ⟨_, rfl, if_of (fun _ => ?_) (fun h => by cases h)⟩
      have hen : (∀ mv ∈ (machineOf e).mvs, mv.t < (machineOf e).ends.length) ∧ 0 < (machineOf e).ends.length := by
        have := gd.ends _ (List.mem_of_getElem? hpn)
        rw [ep] at this
        exact this
      walk_at "go"
      refine tup_new (ds := [.int (0 : Nat), .int (0 : Nat)]) (by walk_at "repl") (by simp) fun p8 H8 _ _ g8 hp8 => ?_
      walk_at "go"
      have hfr : ∀ row, Rst ps ac (machineOf e) r 0 0 row ↔ Fil ps r row := fun row => by
        unfold Fil FillR Rst
        rw [hpn, ep]
      have hx : ext ac r ≤ 6 := by
        unfold ext
        have := hin.x1; have := hin.x2; have := hin.y1; have := hin.y2
        cases ac
        · rw [if_neg (by decide)]; omega
        · rw [if_pos rfl]; omega
      refine ⟨v0, v1, v2, .ref p8, tbl, ps, N, lf, r, R0, ks1, ac, nm, jt, e, 0, 0, NN, rfl, h0.mono (g1.tp.trans g8.tp), h1.mono (g1.tp.trans g8.tp), h2.mono (g1.tp.trans g8.tp), hp8, gd, hin, hrw, hrh, by omega, ht1.gr g8, fun a h z => hN1 a h (g8.nn a z), by rw [hpn, ep], hr1, hen.2, Nat.zero_le _, by omega, hc.iff hfr, hNN, fun a L H' ks' g an hL hLn hLm ht' hs' hk' => ?_⟩
      exact q a L H' ks' (g1.trans (g8.any.trans g)) (g1.nn _ (g8.nn _ an)) hL hLn (fun row => (hLm row).trans (hfr row)) ht' (fun x hx => hs' x (hs1 x hx)) (fun x hx => (hk' x hx).elim (fun h => hk1 x h) (fun h => .inr (Nat.le_of_lt h)))
  | false =>
    refine ⟨_, rfl, if_of (fun h => by cases h) (fun _ => ?_)⟩
    walk_at "go"
    refine tup_new .nil (Nat.zero_le _) fun p8 H8 _ _ g8 hp8 => ?_
    walk_at "go"
    refine lst_new (by show 1 ≤ sizeLine; decide) fun p9 H9 p9n hp9 g9 => ?_
    walk_at "go"
    have hfr : ∀ row, Fil ps r row ↔ row = .nil ∧ fitsB (ps[r.n]'hin.n) r = true := fun row => by
      unfold Fil FillR
      rw [hpn]
      cases ep : ps[r.n]'hin.n with
      | strip => rw [ep] at hs; cases hs
      | plain => exact ⟨fun ⟨c, h⟩ => ⟨h.1, h.2.1⟩, fun h => ⟨_, h.1, h.2, rfl⟩⟩
      | shape => exact ⟨fun ⟨c, h⟩ => ⟨h.1, h.2.1⟩, fun h => ⟨_, h.1, h.2, rfl⟩⟩
    have hN01 : NN ≤ 1 ∧ (NN = 1 ↔ fitsB (ps[r.n]'hin.n) r = true) := by
      cases hf : fitsB (ps[r.n]'hin.n) r with
      | true =>
        have := hc.inj (CardR.one .nil fun row => by rw [hfr, hf]; simp)
        subst this
        exact ⟨Nat.le_refl _, by simp⟩
      | false =>
        have := hc.inj (CardR.none fun row h => by
          have := ((hfr row).mp h).2
          rw [hf] at this
          cases this)
        subst this
        exact ⟨Nat.zero_le _, by simp⟩
    refine ⟨p9, NN, [.ref p8], rfl, rfl, hp9, by omega, by omega, ?_, fun p pn => ?_⟩
    · rw [Int.toNat_natCast]
      show 1 * NN ≤ sizeLine
      exact Nat.le_trans (by omega : 1 * NN ≤ 1) (by decide)
    rw [Int.toNat_natCast]
    have g10 : Gr S0 H9 (upd H9 p (.lst (List.replicate NN [V.ref p8]).flatten)) := Gr.new pn
    refine q p (List.replicate NN .nil) _ ks1 (g1.trans (g8.any.trans (g9.any.trans g10.any))) (g1.nn _ (g8.nn _ (g9.nn _ pn))) ?_ ?_ (fun row => ?_) (((ht1.gr g8).gr g9).gr g10) hs1 hk1
    · refine ⟨_, upd_same, ?_⟩
      have hp8' := hp8.mono (g9.tp.trans g10.tp)
      rcases Nat.lt_or_ge NN 1 with h | h
      · have : NN = 0 := by omega
        subst this
        exact .nil
      · have : NN = 1 := by omega
        subst this
        exact .cons hp8' .nil
    · rcases Nat.lt_or_ge NN 1 with h | h
      · have : NN = 0 := by omega
        subst this
        exact List.nodup_nil
      · have : NN = 1 := by omega
        subst this
        exact List.pairwise_singleton ..
    · rw [hfr, List.mem_replicate, ← hN01.2]
      constructor
      · rintro ⟨h1, h2⟩; exact ⟨h2, by omega⟩
      · rintro ⟨h1, h2⟩; exact ⟨by omega, h1⟩
/-- the rows found so far: moves before k, of k the sizes before z -/
def Pk (ps : List Part) (ac : Bool) (m : Mach) (r : Rg) (s o k z : Nat) (row : Row) : Prop := Rst ps ac m r s o row ∧ match row with
  | .nil => True
  | .cons n z' _ _ => n < k ∨ (n = k ∧ z' < z)
theorem Pk.step {ps : List Part} {ac : Bool} {m : Mach} {r : Rg} {s o k z : Nat} {mv : Mv} (hk : m.mvs[k]? = some mv) (hs : mv.o = s) (h1 : mv.l ≤ z) (h2 : z ≤ mv.m) (h3 : o + z ≤ ext ac r) (row : Row) :
    Pk ps ac m r s o k (z + 1) row ↔ Pk ps ac m r s o k z row ∨ Gp (Fil ps (piece ac r mv.p o z)) (Rst ps ac m r mv.t (o + z)) k z row := by
  unfold Pk
  cases row with
  | nil =>
    constructor
    · exact .inl
    · rintro (h | ⟨_, _, _, _, h⟩)
      · exact h
      · cases h
  | cons n z' i rest =>
    constructor
    · rintro ⟨h, hn⟩
      by_cases hnz : n = k ∧ z' = z
      · obtain ⟨rfl, rfl⟩ := hnz
        obtain ⟨mv', a1, a2, a3, a4, a5, a6, a7⟩ := rst_cons.mp h
        rw [hk] at a1
        cases a1
        exact .inr ⟨i, rest, a6, a7, rfl⟩
      · exact .inl ⟨h, by omega⟩
    · rintro (⟨h, hn⟩ | ⟨i', r', a6, a7, h⟩)
      · exact ⟨h, by omega⟩
      · injection h with e1 e2 e3 e4
        subst e1 e2 e3 e4
        exact ⟨rst_cons.mpr ⟨mv, hk, hs, h1, h2, h3, a6, a7⟩, .inr ⟨rfl, Nat.lt_succ_self _⟩⟩
theorem sc_l_rests : FnScope ["_law_parts_here", "_law_ways", "_law_region", "_law_spot", "_law_table", "_law_ends", "_law_moves", "_law_part", "_law_state", "_law_offset", "_law_back", "_law_found", "_law_number", "_law_move", "_law_size", "_law_inner", "_law_rests_here", "_law_reading", "_law_rest"] ["_law_parts_here", "_law_ways", "_law_region", "_law_spot", "_law_table"] (defScope (top 47)) := ⟨rfl, rfl, rfl, by decide +kernel, rfl, by decide +kernel, by decide +kernel⟩
theorem ok_l_rests (d b k : Nat) (R : Raw K mg "_law_rests" (top 47) ["_law_parts_here", "_law_ways", "_law_region", "_law_spot", "_law_table"]) (B : Bi mg) (D_l_extent : Def P w K mg base k "_law_extent" ["_law_part", "_law_region"] spExtent) (D_l_piece : Def P w K mg base k "_law_piece" ["_law_part", "_law_region", "_law_number", "_law_offset", "_law_size"] spLPiece) (D_l_count : Def P w K mg base k "_law_count" ["_law_parts_here", "_law_ways", "_law_region", "_law_table"] (spCount 3)) (D_l_rests : Def P w K mg base k "_law_rests" ["_law_parts_here", "_law_ways", "_law_region", "_law_spot", "_law_table"] (spRests d b)) (D_l_all : Def P w K mg base k "_law_all" ["_law_parts_here", "_law_ways", "_law_region", "_law_table"] (spAll d)) : Def P w K mg base (k + 1) "_law_rests" ["_law_parts_here", "_law_ways", "_law_region", "_law_spot", "_law_table"] (spRests d (b + 1)) := by
  refine R.ok sc_l_rests (fun vs H Q E h => ?_) (fun f cdv A outer s H vs Q E hr h => ?_)
  · obtain ⟨_, _, _, _, _, _, _, _, _, _, _, _, _, _, _, _, _, _, rfl, _⟩ := h; rfl
  obtain ⟨v0, v1, v2, v3, tbl, ps, N, lf, r, R0, ks, ac, nm, jt, e, st, o, NN, rfl, h0, h1, h2, h3, gd, hin, hrw, hrh, hd, ht, hN, hpn, hrk, hst, hol, hob, hc, hNN, q⟩ := h
  refine ⟨_, (pss_cons (ps_asg (pe_ix (ix_sq (K := K) rfl) (pv 1) (pe_ix (ix_sq (K := K) rfl) (pv 2) pe_int (fun _ _ => rfl)) (fun _ _ => rfl)) (pg_tup rfl (pgs_cons (pg_name (i := 5) sc_l_rests.nd rfl (.inl rfl)) (pgs_cons (pg_name (i := 6) sc_l_rests.nd rfl (.inl rfl)) pgs_nil))))
    (pss_cons (ps_set (i := 7) sc_l_rests.nd rfl (.inl rfl) (pe_ix (ix_sq (K := K) rfl) (pv 0) (pe_ix (ix_sq (K := K) rfl) (pv 2) pe_int (fun _ _ => rfl)) (fun _ _ => rfl)))
    (pss_cons (ps_asg (pv 3) (pg_tup rfl (pgs_cons (pg_name (i := 8) sc_l_rests.nd rfl (.inl rfl)) (pgs_cons (pg_name (i := 9) sc_l_rests.nd rfl (.inl rfl)) pgs_nil))))
    (pss_cons (ps_set (i := 10) sc_l_rests.nd rfl (.inl rfl) (pe_op op_sub (pe_d D_l_extent hr (by rfl) (pa_cons (pv 7) (pa_cons (pv 2) pa_nil))) (pv 9)))
    (pss_cons (ps_set (i := 11) sc_l_rests.nd rfl (.inl rfl) (pe_lst pa_nil))
    (pss_cons (ps_if (PW.pt (pw_and (pt_cmpR op_eq (pv 10) pe_int (nomark _)) (pw_and1 (pt_val (pe_ix (ix_sq (K := K) rfl) (pv 5) (pv 8) (fun _ _ => rfl))))))
      (pss_one (ps_expr (pe_bm PySem.F.plainAttrs_list PySem.F.slot_list_append PySem.F.type_list_append mt_append (pv 11) (pa_cons (pe_tup pa_nil) pa_nil))))
      pss_nil)
    (pss_cons (ps_for PassesOwn.never rfl (pi_range1 (by rfl) B.range (pa_cons (pe_callB (ck_len (K := K) rfl) (by rfl) B.len bo_len (pa_cons (pv 6) pa_nil)) pa_nil)) (pg_name (i := 12) sc_l_rests.nd rfl (.inr rfl))
      (pss_cons (ps_set (i := 13) sc_l_rests.nd rfl (.inl rfl) (pe_ix (ix_sq (K := K) rfl) (pv 6) (pv 12) (fun _ _ => rfl)))
      (pss_one (ps_if (pt_cmpR op_eq (pe_ix (ix_sq (K := K) rfl) (pv 13) pe_int (fun _ _ => rfl)) (pv 8) (nomark _))
        (pss_one (ps_for PassesOwn.never rfl (pi_range2 (by rfl) B.range (pa_cons (pe_ix (ix_sq (K := K) rfl) (pv 13) pe_int (fun _ _ => rfl)) (pa_cons (pe_op op_add (pe_callB (cx_min rfl) (by rfl) B.min bo_min (pa_cons (pe_ix (ix_sq (K := K) rfl) (pv 13) pe_int (fun _ _ => rfl)) (pa_cons (pv 10) pa_nil))) pe_int) pa_nil))) (pg_name (i := 14) sc_l_rests.nd rfl (.inr rfl))
          (pss_cons (ps_set (i := 15) sc_l_rests.nd rfl (.inl rfl) (pe_d D_l_piece hr (by rfl) (pa_cons (pv 7) (pa_cons (pv 2) (pa_cons (pe_ix (ix_sq (K := K) rfl) (pv 13) pe_int (fun _ _ => rfl)) (pa_cons (pv 9) (pa_cons (pv 14) pa_nil)))))))
          (pss_one (ps_if (PW.pt (pw_and (pt_cmpR op_gt (pe_dget (hu_of hr) (pe_dget (hu_of hr) (pv 4) (pv 2) (fun _ _ => rfl)) (pe_tup (pa_cons (pe_ix (ix_sq (K := K) rfl) (pv 13) pe_int (fun _ _ => rfl)) (pa_cons (pe_op op_add (pv 9) (pv 14)) pa_nil))) (fun _ _ => rfl)) pe_int (nomark _)) (pw_and1 (pt_cmpR op_gt (pe_d D_l_count hr (by rfl) (pa_cons (pv 0) (pa_cons (pv 1) (pa_cons (pv 15) (pa_cons (pv 4) pa_nil))))) pe_int (nomark _)))))
            (pss_cons (ps_set (i := 16) sc_l_rests.nd rfl (.inl rfl) (pe_d D_l_rests hr (by rfl) (pa_cons (pv 0) (pa_cons (pv 1) (pa_cons (pv 2) (pa_cons (pe_tup (pa_cons (pe_ix (ix_sq (K := K) rfl) (pv 13) pe_int (fun _ _ => rfl)) (pa_cons (pe_op op_add (pv 9) (pv 14)) pa_nil))) (pa_cons (pv 4) pa_nil)))))))
            (pss_one (ps_for PassesOwn.never rfl (pi_list (pe_d D_l_all hr (by rfl) (pa_cons (pv 0) (pa_cons (pv 1) (pa_cons (pv 15) (pa_cons (pv 4) pa_nil)))))) (pg_name (i := 17) sc_l_rests.nd rfl (.inr rfl))
              (pss_one (ps_set (i := 11) sc_l_rests.nd rfl (.inl rfl) (pe_op op_cat (pv 11) (pe_lc (own := [("_law_rest", 18)]) (g := gName 18) rfl sc_l_rests.nd (pi_list (pv 16)) (blkOk_by (N := ["_law_parts_here", "_law_ways", "_law_region", "_law_spot", "_law_table", "_law_ends", "_law_moves", "_law_part", "_law_state", "_law_offset", "_law_back", "_law_found", "_law_number", "_law_move", "_law_size", "_law_inner", "_law_rests_here", "_law_reading", "_law_rest"]) (sc := defScope (top 47)) (by decide +kernel)) (fun _ _ _ _ _ => pg_name (i := 18) sc_l_rests.nd rfl (.inl rfl)) (fun _ _ _ _ _ => pts_nil) (fun _ _ _ _ _ => (pe_op (op_catTX (K := K) rfl) (pe_tup (pa_cons (pe_tup (pa_cons (pv 12) (pa_cons (pv 14) (pa_cons (pv 17) pa_nil)))) pa_nil)) (pv 18))))))))))
            pss_nil)))))
        pss_nil))))
    (pss_one (ps_ret (pv 11)))))))))), ?_⟩
  have h0' := h0
  have h1' := h1
  have h2' := h2
  change Rep H (.tuple (ps.map encPart)) v0 at h0'
  change Rep H (.tuple (ps.map encWay)) v1 at h1'
  change Rep H (.tuple [.int r.n, .int r.x, .int r.y, .int r.w, .int r.h]) v2 at h2'
  have hlf := (gd.ls _ _ hpn).mp rfl
  have hpm := List.mem_of_getElem? hpn
  have hml : MvL (machineOf e).mvs := gd.way _ hpm
  have hen : (∀ mv ∈ (machineOf e).mvs, mv.t < (machineOf e).ends.length) ∧ 0 < (machineOf e).ends.length := gd.ends _ hpm
  have htwo := gd.two
  have hrn := hin.n
  have hfar : ext ac r ≤ 6 := by
    unfold ext
    have := hin.x1; have := hin.x2; have := hin.y1; have := hin.y2
    cases ac
    · rw [if_neg (by decide)]; omega
    · rw [if_pos rfl]; omega
  have hpcs : ∀ (o : Nat) (mv : Mv) (z : Nat), mv ∈ (machineOf e).mvs → mv.l ≤ z → z ≤ mv.m → o + z ≤ ext ac r → InR ps.length R0 (piece ac r mv.p o z) ∧ mv.p < r.n := fun o mv z hmv hz1 hz2 hz3 => by
    have hup := gd.up _ _ hpn mv hmv
    obtain ⟨a1, a2, a3, a4, a5⟩ := hin
    unfold ext at hz3
    unfold piece
    cases ac
    · rw [if_neg (by decide)] at hz3 ⊢
      exact ⟨⟨by show mv.p < _; omega, a2, a3, by show R0.y ≤ r.y + o; omega, by show r.y + o + z ≤ _; omega⟩, hup⟩
    · rw [if_pos rfl] at hz3 ⊢
      exact ⟨⟨by show mv.p < _; omega, by show R0.x ≤ r.x + o; omega, by show r.x + o + z ≤ _; omega, a4, a5⟩, hup⟩
  have hsp : ∀ sp, SpotsOk ps lf r sp → ∀ s o, s < (machineOf e).ends.length → o ≤ ext ac r → SpotAt ps lf r ac (machineOf e) sp s o := fun sp h => by
    unfold SpotsOk at h
    rw [hpn] at h
    exact h
  have hencm : encWay (.strip ac nm jt e) = encMach (machineOf e) := rfl
  obtain ⟨b2, rfl, hb2⟩ := rgAt h2
  walk_at "go"
  refine w_ix h1' (Tp.refl _) (by omega) (by rw [Int.toNat_natCast, List.getElem?_map, hpn]; rfl) (fun y hy => ?_)
  rw [hencm] at hy
  have hq : ∀ (a : Addr) (L : List Row) (H' : Hp) (ks' : List Rg), Gr (S1 tbl) H H' → H a = none → LD H' a (L.map encRow) → L.Nodup → (∀ row, row ∈ L ↔ Rst ps ac (machineOf e) r st o row) → TabI N ps lf R0 H' tbl ks' → (∀ x ∈ ks, x ∈ ks') → (∀ x ∈ ks', x ∈ ks ∨ x.n < r.n) → Q (.ref a) H' := q
  clear q
  have hRest : ∀ (H : Hp) (Q : VK) (E : XK) (tv : V) (v0 v1 v2 : V) (ks : List Rg) (NN s o : Nat), Rep H (partsD ps) v0 → Rep H (waysD ps) v1 → Rep H (encRg r) v2 → Rep H (.tuple [.int s, .int o]) tv → TabI N ps lf R0 H tbl ks → (∀ a, N a → H a ≠ none) → r ∈ ks → s < (machineOf e).ends.length → o ≤ ext ac r → ext ac r - o < b → CardR (Rst ps ac (machineOf e) r s o) NN → NN ≤ NB →
      (∀ (a : Addr) (L : List Row) (H' : Hp) (ks' : List Rg), Gr (S1 tbl) H H' → H a = none → LD H' a (L.map encRow) → L.Nodup → (∀ row, row ∈ L ↔ Rst ps ac (machineOf e) r s o row) → TabI N ps lf R0 H' tbl ks' → (∀ x ∈ ks, x ∈ ks') → (∀ x ∈ ks', x ∈ ks ∨ x.n < r.n) → Q (.ref a) H') → spRests d b [v0, v1, v2, tv, .ref tbl] H Q E :=
    fun H Q E tv v0 v1 v2 ks NN s o a1 a2 a3 a4 a5 a6 a7 a8 a9 a10 a11 a12 a13 => ⟨v0, v1, v2, tv, tbl, ps, N, lf, r, R0, ks, ac, nm, jt, e, s, o, NN, rfl, a1, a2, a3, a4, gd, hin, hrw, hrh, hd, a5, a6, hpn, a7, a8, a9, a10, a11, a12, a13⟩
  generalize machineOf e = m at *
  refine w_gtupD (ds := [.tuple (m.ends.map PyData.bool), .tuple (m.mvs.map encMv)]) hy (Tp.refl _) rfl (fun us hus => ?_)
  cases hus with
  | cons hve hus => cases hus with
  | cons hvm hus => cases hus with
  | nil =>
  rename_i ve vm
  walk_at "go"
  refine w_ix h0' (Tp.refl _) (by omega) (by rw [Int.toNat_natCast, List.getElem?_map, hpn]; rfl) (fun vp hvp => ?_)
  walk_at "go"
  refine w_gtupD (ds := [.int st, .int o]) h3 (Tp.refl _) rfl (fun us hus => ?_)
  cases hus with
  | cons q0 hus => cases hus with
  | cons q1 hus => cases hus with
  | nil =>
  have := Rep.intI q0; subst this
  have := Rep.intI q1; subst this
  walk_at "go"
  refine ⟨vp, .ref b2, ac, nm, jt, e, r, rfl, hvp, h2, ?_⟩
  walk_at "go"
  have e1 : (ext ac r : Int) - (o : Int) = ((ext ac r - o : Nat) : Int) := by omega
  rw [e1]
  refine lst_new (Nat.zero_le _) fun fa H1 fan hfa g1 => ?_
  obtain ⟨kvs0, hkv0, _⟩ := ht.ex
  have fat : fa ≠ tbl := fun z => by subst z; rw [hkv0] at fan; cases fan
  walk_at "go"
  have hse : m.ends[st]? = some m.ends[st] := List.getElem?_eq_getElem hst
  refine join_h (A := fun (H4 : Hp) => ∃ L0 : List Row, Gr S0 H H4 ∧ Tp H1 H4 ∧ LD H4 fa (L0.map encRow) ∧ L0.Nodup ∧ (∀ row, row ∈ L0 ↔ Pk ps ac m r st o 0 0 row)) ?T (fun key => ?use) ?pf
  case use =>
    have hnil : ∀ row, Pk ps ac m r st o 0 0 row ↔ row = .nil ∧ o = ext ac r ∧ m.ends[st]? = some true := fun row => by
      unfold Pk
      cases row with
      | nil => rw [rst_nil]; simp
      | cons n z i rest =>
        constructor
        · rintro ⟨_, h⟩
          rcases h with h | ⟨_, h⟩ <;> exact absurd h (Nat.not_lt_zero _)
        · rintro ⟨h, _⟩; cases h
    refine if_of (fun h => ?_) (fun h => ?_)
    · have ho : o = ext ac r := by have := of_decide_eq_true h; omega
      walk_at "go"
      refine w_ix (hve.mono g1.tp) (Tp.refl _) (by omega) (by rw [Int.toNat_natCast, List.getElem?_map, hse]; rfl) (fun y hy => ?_)
      have := Rep.blI hy
      subst this
      refine ⟨_, rfl, if_of (fun h => ?_) (fun h => ?_)⟩
      · walk_at "go"
        refine tup_new .nil (Nat.zero_le _) fun p8 H8 _ _ g8 hp8 => ?_
        walk_at "go"
        have hfa8 := g8.lst id hfa
        refine w_append hfa8 (small6 (Nat.zero_le _)) ?_
        have hL := LD.push (d := encRow .nil) hfa8 .nil hp8
        have tpe : Tp H8 (upd H8 fa (.lst ([] ++ [V.ref p8]))) := Tp.setL hfa8
        have gg : Gr S0 H (upd H8 fa (.lst ([] ++ [V.ref p8]))) := (g1.trans g8).setL (.inl fan) hfa8
        generalize upd H8 fa (.lst ([] ++ [V.ref p8])) = H4 at hL tpe gg ⊢
        walk_at "go"
        refine key H4 ⟨[.nil], gg, g8.tp.trans tpe, hL, by simp, fun row => ?_⟩
        rw [hnil, hse, h]
        simp [ho]
      · walk_at "go"
        refine key H1 ⟨[], g1, Tp.refl _, ⟨[], hfa, .nil⟩, List.nodup_nil, fun row => ?_⟩
        rw [hnil, hse, h]
        simp
    · refine if_of (fun h => by cases h) (fun _ => ?_)
      have ho : o ≠ ext ac r := by have := of_decide_eq_false h; omega
      walk_at "go"
      refine key H1 ⟨[], g1, Tp.refl _, ⟨[], hfa, .nil⟩, List.nodup_nil, fun row => ?_⟩
      rw [hnil]
      simp [ho]
  case pf =>
    intro H4 ⟨L0, g4, tp4, hL0, hLn0, hLm0⟩
    rw [List.length_map]
    have hmvl := hml.1
    refine rng1 (n := m.mvs.length) (by omega) (fun k σ H' => ∃ (d12 d13 d14 d15 d16 d17 d18 : Option V) (fa : Addr) (L : List Row) (ks' : List Rg), σ = [some v0, some v1, some (.ref b2), some v3, some (.ref tbl), some ve, some vm, some vp, some (.int (st : Nat)), some (.int (o : Nat)), some (.int (ext ac r - o : Nat)), some (.ref fa), d12, d13, d14, d15, d16, d17, d18] ∧ Gr (S1 tbl) H H' ∧ fa ≠ tbl ∧ H fa = none ∧ LD H' fa (L.map encRow) ∧ L.Nodup ∧ (∀ row, row ∈ L ↔ Pk ps ac m r st o k 0 row) ∧ TabI N ps lf R0 H' tbl ks' ∧ (∀ x ∈ ks, x ∈ ks') ∧ (∀ x ∈ ks', x ∈ ks ∨ x.n < r.n)) ⟨_, _, _, _, _, _, _, fa, L0, ks, rfl, g4.any, fat, fan, hL0, hLn0, hLm0, ht.gr g4, fun x hx => hx, fun x hx => .inl hx⟩ (fun k σ H5 hk hp => ?_) (fun σ H5 hp => ?_)
    · obtain ⟨d12, d13, d14, d15, d16, d17, d18, fa, L, ks', rfl, g5, fat, fan, hL5, hLn5, hLm5, ht5, hs5, hk5⟩ := hp
      have hmk : m.mvs[k]? = some m.mvs[k] := List.getElem?_eq_getElem hk
      have hmm : m.mvs[k] ∈ m.mvs := List.getElem_mem _
      generalize m.mvs[k] = mv at *
      obtain ⟨m1, m2, m3⟩ := hml.2 mv hmm
      have hvm5 := hvm.mono g5.tp
      walk_at "go"
      refine w_ix hvm5 (Tp.refl _) (by omega) (by rw [Int.toNat_natCast, List.getElem?_map, hmk]; rfl) (fun u hu => ?_)
      change Rep H5 (.tuple [.int mv.o, .int mv.t, .int mv.p, .int mv.l, .int mv.m, .int mv.c]) u at hu
      walk_at "go"
      refine if_of (fun h => ?_) (fun h => ?_)
      · have hms : mv.o = st := by have := of_decide_eq_true h; omega
        walk_at "go"
        refine rng2 (hi := min mv.m (ext ac r - o) + 1) (by omega) (by omega) (by omega) (fun z σ H' => ∃ (d14 d15 d16 d17 d18 : Option V) (fa : Addr) (L : List Row) (ks' : List Rg), σ = [some v0, some v1, some (.ref b2), some v3, some (.ref tbl), some ve, some vm, some vp, some (.int (st : Nat)), some (.int (o : Nat)), some (.int (ext ac r - o : Nat)), some (.ref fa), some (.int (k : Nat)), some u, d14, d15, d16, d17, d18] ∧ Gr (S1 tbl) H H' ∧ Tp H5 H' ∧ fa ≠ tbl ∧ H fa = none ∧ LD H' fa (L.map encRow) ∧ L.Nodup ∧ (∀ row, row ∈ L ↔ Pk ps ac m r st o k z row) ∧ TabI N ps lf R0 H' tbl ks' ∧ (∀ x ∈ ks, x ∈ ks') ∧ (∀ x ∈ ks', x ∈ ks ∨ x.n < r.n)) ⟨_, _, _, _, _, fa, L, ks', rfl, g5, Tp.refl _, fat, fan, hL5, hLn5, fun row => (hLm5 row).trans ?_, ht5, hs5, hk5⟩ (fun z σ H6 hz1 hz2 hp => ?_) (fun σ H6 hp => ?_)
        · unfold Pk
          cases row with
          | nil => exact Iff.rfl
          | cons n z' i rest =>
            constructor
            · exact fun h => ⟨h.1, by have := h.2; omega⟩
            · rintro ⟨h, hn⟩
              refine ⟨h, ?_⟩
              obtain ⟨mv', a1, a2, a3, _⟩ := rst_cons.mp h
              rcases hn with hn | ⟨hn, hz⟩
              · exact .inl hn
              · subst hn
                rw [hmk] at a1
                cases a1
                omega
        · obtain ⟨d14, d15, d16, d17, d18, fa, L, ks', rfl, g6, tp6, fat, fan, hL6, hLn6, hLm6, ht6, hs6, hk6⟩ := hp
          have hoz : o + z ≤ ext ac r := by omega
          have hstep := Pk.step (ps := ps) (r := r) (ac := ac) hmk hms hz1 (by omega : z ≤ mv.m) hoz
          have hu6 := hu.mono tp6
          obtain ⟨hpi, hpl⟩ := hpcs o mv z hmm hz1 (by omega) hoz
          have hpn' : (piece ac r mv.p o z).n = mv.p := by unfold piece; cases ac <;> rfl
          walk_at "go"
          refine ⟨vp, .ref b2, ac, nm, jt, e, r, o, mv.p, z, rfl, hvp.mono g6.tp, h2.mono g6.tp, fun y9 H9 g9 hy9 => ?_⟩
          have g9' := g6.trans g9.any
          have ht9 := ht6.gr g9
          obtain ⟨kvs9, hkv9, hkk9, hks9⟩ := ht9.ex
          obtain ⟨da, sp, a1, a2, a3, a4⟩ := hks9 r (hs6 r hrk)
          obtain ⟨n1, c1, c2, c3⟩ := hsp sp a4 mv.t (o + z) (hen.1 mv hmm) hoz
          have hu9 := hu6.mono g9.tp
          walk_at "go"
          refine ⟨tbl, .ref da, rfl, by rw [← a1]; exact DGet.t hkv9 (g9'.tp _ _ hb2), ?_⟩
          walk_at "go"
          have e2 : ((o : Nat) : Int) + (z : Int) = ((o + z : Nat) : Int) := by omega
          rw [e2]
          refine tup_new (ds := [.int mv.t, .int (o + z : Nat)]) (by walk_at "repl") (by simp) fun p8 H8 _ _ g8 hp8 => ?_
          obtain ⟨b8, e8, hb8⟩ := skAt hp8
          cases e8
          refine ⟨da, _, rfl, by rw [← c1]; exact DGet.t (g8.dT id a3) hb8, ?_⟩
          have g8' := g9'.trans g8.any
          have ht8 := ht9.gr g8
          have tp8 := tp6.trans (g9.tp.trans g8.tp)
          have hL8 := (hL6.gr g9 id).gr g8 id
          have hu8 := hu9.mono g8.tp
          walk_at "go"
          refine if_of (fun h => ?_) (fun h => ?_)
          · have hn1 : 0 < n1 := by have := of_decide_eq_true h; omega
            walk_at "go"
            have hN8 : ∀ a, N a → H8 a ≠ none := fun a h z => hN a h (g8'.nn a z)
            refine ⟨v0, v1, y9, tbl, ps, N, lf, piece ac r mv.p o z, R0, ks', rfl, h0.mono g8'.tp, h1.mono g8'.tp, hy9.mono g8.tp, gd, hpi, hrw, hrh, by rw [hpn']; omega, ht8, hN8, fun n2 H10 ks2 g10 ht10 hs10 hk10 _ hc10 hm10 => ?_⟩
            rw [hpn'] at hk10
            have g10' := g8'.trans g10
            have tp10 := tp8.trans g10.tp
            have hL10 := hL8.gr g10 (fun z => fat z)
            have hs10' : ∀ x ∈ ks, x ∈ ks2 := fun x hx => hs10 x (hs6 x hx)
            have hk10' : ∀ x ∈ ks2, x ∈ ks ∨ x.n < r.n := fun x hx => (hk10 x hx).elim (fun h => hk6 x h) (fun h => .inr (by omega))
            have hu10 := hu8.mono g10.tp
            walk_at "go"
            refine if_of (fun h => ?_) (fun h => ?_)
            · have hn2 : 0 < n2 := by have := of_decide_eq_true h; omega
              -- the bounds
              have hle1 : n1 ≤ NN := by
                obtain ⟨i0, hi0⟩ := hc10.pos hn2
                obtain ⟨M, b1', b2', b3'⟩ := c2
                rw [← b3', ← List.length_map (f := fun rest => Row.cons k z i0 rest)]
                refine hc.le (nodup_map (fun x y e => by injection e) b1') fun row hrow => ?_
                obtain ⟨rest, hrest, rfl⟩ := List.mem_map.mp hrow
                exact rst_cons.mpr ⟨mv, hmk, hms, hz1, by omega, hoz, hi0, (b2' rest).mp hrest⟩
              have hle2 : n2 ≤ NN := by
                obtain ⟨r0, hr0⟩ := c2.pos hn1
                obtain ⟨M, b1', b2', b3'⟩ := hc10
                rw [← b3', ← List.length_map (f := fun i => Row.cons k z i r0)]
                refine hc.le (nodup_map (fun x y e => by injection e) b1') fun row hrow => ?_
                obtain ⟨i, hi, rfl⟩ := List.mem_map.mp hrow
                exact rst_cons.mpr ⟨mv, hmk, hms, hz1, by omega, hoz, (b2' i).mp hi, hr0⟩
              walk_at "go"
              rw [e2]
              refine tup_new (ds := [.int mv.t, .int (o + z : Nat)]) (by walk_at "repl") (by simp) fun p11 H11 _ _ g11 hp11 => ?_
              walk_at "go"
              have g11' := g10'.trans g11.any
              refine hRest H11 _ _ _ v0 v1 (.ref b2) ks2 n1 mv.t (o + z) (h0.mono g11'.tp) (h1.mono g11'.tp) (h2.mono g11'.tp) hp11 (ht10.gr g11) (fun a h z => hN a h (g11'.nn a z)) (hs10' r hrk) (hen.1 mv hmm) hoz (by omega) c2 (Nat.le_trans hle1 hNN) (fun ra RL H12 ks3 g12 ran hRL hRLn hRLm ht12 hs12 hk12 => ?_)
              have g12' := g11'.trans g12
              have rat : ra ≠ tbl := fun z => by
                subst z
                obtain ⟨kk, hkk, _⟩ := (ht10.gr g11).ex
                rw [hkk] at ran; cases ran
              have hL12 := (hL10.gr g11 id).gr g12 (fun z => fat z)
              have tp12 := tp10.trans (g11.tp.trans g12.tp)
              walk_at "go"
              have hy12 : Rep H12 (encRg (piece ac r mv.p o z)) y9 := hy9.mono (g8.tp.trans (g10.tp.trans (g11.tp.trans g12.tp)))
              refine ⟨v0, v1, y9, tbl, ps, N, lf, piece ac r mv.p o z, R0, ks3, n2, rfl, h0.mono g12'.tp, h1.mono g12'.tp, hy12, gd, hpi, hrw, hrh, by rw [hpn']; omega, ht12, fun a h z => hN a h (g12'.nn a z), hc10, Nat.le_trans hle2 hNN, fun la AL H13 ks4 g13 lan hAL hALn hALm ht13 hs13 hk13 => ?_⟩
              rw [hpn'] at hk13
              have g13' := g12'.trans g13
              have lat : la ≠ tbl := fun z => by
                subst z
                obtain ⟨kk, hkk, _⟩ := ht12.ex
                rw [hkk] at lan; cases lan
              obtain ⟨avs, hla, har⟩ := hAL
              obtain ⟨rvs, hra, hrr⟩ := hRL.gr g13 (fun z => rat z)
              have hL13 := hL12.gr g13 (fun z => fat z)
              have tp13 := tp12.trans g13.tp
              have hrl : rvs.length = RL.length := by rw [← hrr.length, List.length_map]
              have hRLc : RL.length ≤ NN := by
                have := c2.inj ⟨RL, hRLn, hRLm, rfl⟩
                omega
              have hNB : NN ≤ 100000 := hNN
              have hkk4 : ∀ x ∈ ks4, x ∈ ks ∨ x.n < r.n := fun x hx => (hk13 x hx).elim (fun h => (hk12 x h).elim (fun h => hk10' x h) .inr) (fun h => .inr (by omega))
              refine forL (SqL.of hla) (fun j σ H' => ∃ (d17 d18 : Option V) (fa : Addr) (L : List Row), σ = [some v0, some v1, some (.ref b2), some v3, some (.ref tbl), some ve, some vm, some vp, some (.int (st : Nat)), some (.int (o : Nat)), some (.int (ext ac r - o : Nat)), some (.ref fa), some (.int (k : Nat)), some u, some (.int (z : Nat)), some y9, some (.ref ra), d17, d18] ∧ Gr S0 H13 H' ∧ fa ≠ tbl ∧ H fa = none ∧ LD H' fa (L.map encRow) ∧ L.Nodup ∧ (∀ row, row ∈ L ↔ Pk ps ac m r st o k z row ∨ Gp (fun i => i ∈ AL.take j) (Rst ps ac m r mv.t (o + z)) k z row)) ⟨_, _, fa, L, rfl, Gr.refl _ _, fat, fan, hL13, hLn6, fun row => (hLm6 row).trans ⟨.inl, fun h => h.elim id (fun ⟨i, _, h, _⟩ => absurd h (by simp))⟩⟩ (fun j σ H' hp => by obtain ⟨_, _, _, _, _, g, _⟩ := hp; exact SqL.of (g.lst id hla)) (fun j x σ H14 hj hp => ?_) (fun σ H14 hp => ?_)
              · obtain ⟨d17, d18, fa, L, rfl, g14, fat, fan, hL14, hLn14, hLm14⟩ := hp
                obtain ⟨d', hd', hx⟩ := LD.getI har hj
                obtain ⟨rd, hrd, rfl⟩ := map_getI hd'
                have et := take_get hrd
                have hrdm := List.mem_of_getElem? hrd
                have hx14 := hx.mono g14.tp
                have hra14 := g14.lst id hra
                have hrr14 := hrr.mono g14.tp
                obtain ⟨lvs, hfa14, hlr14⟩ := hL14
                have hLle : ∀ {L : List Row}, L.Nodup → (∀ row ∈ L, Pk ps ac m r st o k z row ∨ Gp (fun i => i ∈ AL) (Rst ps ac m r mv.t (o + z)) k z row) → L.length ≤ NN := fun {L} h1 h2 => hc.le h1 fun row hrow => (h2 row hrow).elim (fun h => h.1) (fun ⟨i, rest, hi, hr, e⟩ => by
                  subst e
                  exact rst_cons.mpr ⟨mv, hmk, hms, hz1, by omega, hoz, (hALm i).mp hi, hr⟩)
                walk_at "go"
                refine lcRL (xs := rvs) rfl (SqL.of hra14) (fun D i H' => Gr S0 H14 H' ∧ LD H' D (((RL.take i).map (Row.cons k z rd)).map encRow)) (fun D hD => ⟨Gr.new hD, [], upd_same, .nil⟩) (fun D i H' hD hp => SqL.of (hp.1.lst id hra14)) (fun D i w H' hD hi hp => ?_) (fun D H' hD hp => ?_)
                · obtain ⟨g, vs, hl, hlr⟩ := hp
                  obtain ⟨d2, hd2, hw⟩ := LD.getI hrr14 hi
                  obtain ⟨rest, hrest, rfl⟩ := map_getI hd2
                  have et2 := take_get hrest
                  have hw' := hw.mono g.tp
                  have hx' := hx14.mono g.tp
                  have hrlen := rest_len (fun m' hm' => (hml.2 m' hm').1) ((hRLm rest).mp (List.mem_of_getElem? hrest)).choose_spec
                  change Rep H' (.tuple (rowL rest)) w at hw'
                  change Rep H' (.tuple (rowL rd)) x at hx'
                  have hil := (List.getElem?_eq_some_iff.mp hrest).1
                  walk_at "go"
                  refine if_of (fun _ => ?_) (fun h => absurd h (by decide))
                  walk_at "go"
                  refine tup_new (ds := [.int k, .int z, .tuple (rowL rd)]) (by walk_at "repl") (by simp) fun p15 H15 _ _ g15 hp15 => ?_
                  walk_at "go"
                  refine tup_new (ds := [.tuple [.int k, .int z, .tuple (rowL rd)]]) (.cons hp15 .nil) (by simp) fun p16 H16 _ _ g16 hp16 => ?_
                  walk_at "go"
                  refine w_catT hp16 (hw'.mono (g15.tp.trans g16.tp)) (by simp) (by simp; omega) fun v17 H17 g17 hv17 => ?_
                  have gg := g15.trans (g16.trans g17)
                  have hl17 := gg.lst id hl
                  refine w_put hl17 (small6 (by rw [← hlr.length, List.length_map, List.length_map, List.length_take]; omega)) ⟨(g.trans gg).setL (.inl hD) hl17, ?_⟩
                  rw [et2, List.map_append, List.map_append]
                  exact LD.push hl17 (hlr.mono gg.tp) hv17
                · obtain ⟨g, vs, hl, hlr⟩ := hp
                  rw [hrl, List.take_length] at hlr
                  have hfa' := g.lst id hfa14
                  have hnd : (L ++ RL.map (Row.cons k z rd)).Nodup := by
                    refine List.nodup_append.mpr ⟨hLn14, nodup_map (fun x y e => by injection e) hRLn, fun x hx y hy e => ?_⟩
                    subst e
                    obtain ⟨rest, hrest, rfl⟩ := List.mem_map.mp hy
                    rcases (hLm14 _).mp hx with ⟨_, h⟩ | ⟨i, r', hi, _, h⟩
                    · rcases h with h | ⟨_, h⟩ <;> omega
                    · injection h with _ _ h _
                      subst h
                      obtain ⟨l1, e1'⟩ := List.getElem?_eq_some_iff.mp hrd
                      obtain ⟨jj, hjj, e2'⟩ := List.mem_take_iff_getElem.mp hi
                      have := (List.getElem_inj hALn).mp (e2'.trans e1'.symm)
                      omega
                  have hmem : ∀ row, row ∈ L ++ RL.map (Row.cons k z rd) ↔ Pk ps ac m r st o k z row ∨ Gp (fun i => i ∈ AL.take (j + 1)) (Rst ps ac m r mv.t (o + z)) k z row := fun row => by
                    rw [List.mem_append, hLm14, et]
                    constructor
                    · rintro ((h | ⟨i, rest, hi, hr, e⟩) | h)
                      · exact .inl h
                      · exact .inr ⟨i, rest, List.mem_append_left _ hi, hr, e⟩
                      · obtain ⟨rest, hrest, rfl⟩ := List.mem_map.mp h
                        exact .inr ⟨rd, rest, List.mem_append_right _ (List.mem_singleton.mpr rfl), (hRLm rest).mp hrest, rfl⟩
                    · rintro (h | ⟨i, rest, hi, hr, e⟩)
                      · exact .inl (.inl h)
                      · rcases List.mem_append.mp hi with hi | hi
                        · exact .inl (.inr ⟨i, rest, hi, hr, e⟩)
                        · rw [List.mem_singleton.mp hi] at e
                          exact .inr (List.mem_map.mpr ⟨rest, (hRLm rest).mpr hr, e.symm⟩)
                  have hlen := hLle hnd fun row hrow => ((hmem row).mp hrow).imp id (fun ⟨i, rest, hi, h⟩ => ⟨i, rest, List.mem_of_mem_take hi, h⟩)
                  have hvl := hlr.length
                  have hll := hlr14.length
                  rw [List.length_map] at hll
                  rw [List.length_map, List.length_map] at hvl
                  rw [List.length_append, List.length_map] at hlen
                  walk_at "go"
                  refine w_cat hfa' hl (Nat.le_of_lt (small6 (by omega))) fun p18 H18 p18n hp18 g18 => ?_
                  have gf := g14.trans (g.trans g18)
                  refine ⟨_, _, p18, _, rfl, gf, fun z => ?_, g13'.nn _ (g14.nn _ (g.nn _ p18n)), ⟨_, hp18, ?_⟩, hnd, hmem⟩
                  · subst z
                    obtain ⟨kk, hkk, _⟩ := ht13.ex
                    have := g.dT id (g14.dT id hkk)
                    rw [this] at p18n; cases p18n
                  · rw [List.map_append]
                    exact (hlr14.mono (g.tp.trans g18.tp)).append (hlr.mono g18.tp)
              · obtain ⟨d17, d18, fa, L, rfl, g14, fat, fan, hL14, hLn14, hLm14⟩ := hp
                have hal : avs.length = AL.length := by rw [← har.length, List.length_map]
                rw [hal, List.take_length] at hLm14
                refine ⟨_, _, _, _, _, fa, L, ks4, rfl, g13'.trans g14.any, tp13.trans g14.tp, fat, fan, hL14, hLn14, fun row => (hLm14 row).trans ((or_congr Iff.rfl ?_).trans (hstep row).symm), ht13.gr g14, fun x hx => hs13 x (hs12 x (hs10' x hx)), hkk4⟩
                constructor
                · rintro ⟨i, rest, hi, h⟩
                  exact ⟨i, rest, (hALm i).mp hi, h⟩
                · rintro ⟨i, rest, hi, h⟩
                  exact ⟨i, rest, (hALm i).mpr hi, h⟩
            · have hn2 : n2 = 0 := by have := of_decide_eq_false h; omega
              subst hn2
              refine ⟨_, _, _, _, _, fa, L, ks2, rfl, g10', tp10, fat, fan, hL10, hLn6, fun row => (hLm6 row).trans ?_, ht10, hs10', hk10'⟩
              rw [hstep]
              exact ⟨.inl, fun h => h.elim id (fun ⟨i, rest, hi, _⟩ => absurd hi (hc10.zero i))⟩
          · have hn1 : n1 = 0 := by have := of_decide_eq_false h; omega
            subst hn1
            refine if_of (fun h => by cases h) (fun _ => ?_)
            walk_at "go"
            refine ⟨_, _, _, _, _, fa, L, ks', rfl, g8', tp8, fat, fan, hL8, hLn6, fun row => (hLm6 row).trans ?_, ht8, hs6, hk6⟩
            rw [hstep]
            exact ⟨.inl, fun h => h.elim id (fun ⟨i, rest, _, hr, _⟩ => absurd hr (c2.zero rest))⟩
        · obtain ⟨d14, d15, d16, d17, d18, fa, L, ks', rfl, g6, tp6, fat, fan, hL6, hLn6, hLm6, ht6, hs6, hk6⟩ := hp
          refine ⟨_, _, _, _, _, _, _, fa, L, ks', rfl, g6, fat, fan, hL6, hLn6, fun row => (hLm6 row).trans ?_, ht6, hs6, hk6⟩
          unfold Pk
          cases row with
          | nil => exact Iff.rfl
          | cons n z' i rest =>
            constructor
            · exact fun h => ⟨h.1, by have := h.2; omega⟩
            · rintro ⟨h, hn⟩
              refine ⟨h, ?_⟩
              obtain ⟨mv', a1, a2, a3, a4, a5, _⟩ := rst_cons.mp h
              by_cases hnk : n = k
              · subst hnk
                rw [hmk] at a1
                cases a1
                exact .inr ⟨rfl, by omega⟩
              · exact .inl (by omega)
      · have hms : ¬ mv.o = st := by have := of_decide_eq_false h; omega
        refine ⟨_, _, _, _, _, _, _, fa, L, ks', rfl, g5, fat, fan, hL5, hLn5, fun row => (hLm5 row).trans ?_, ht5, hs5, hk5⟩
        unfold Pk
        cases row with
        | nil => exact Iff.rfl
        | cons n z' i rest =>
          constructor
          · exact fun h => ⟨h.1, by have := h.2; omega⟩
          · rintro ⟨h, hn⟩
            refine ⟨h, ?_⟩
            obtain ⟨mv', a1, a2, _⟩ := rst_cons.mp h
            by_cases hnk : n = k
            · subst hnk
              rw [hmk] at a1
              cases a1
              exact absurd a2 hms
            · exact .inl (by omega)
    · obtain ⟨d12, d13, d14, d15, d16, d17, d18, fa, L, ks', rfl, g5, fat, fan, hL5, hLn5, hLm5, ht5, hs5, hk5⟩ := hp
      walk_at "go"
      refine hq fa L H5 ks' g5 fan hL5 hLn5 (fun row => (hLm5 row).trans ?_) ht5 hs5 hk5
      unfold Pk
      cases row with
      | nil => simp
      | cons n z' i rest =>
        constructor
        · exact fun h => h.1
        · intro h
          obtain ⟨mv', a1, _⟩ := rst_cons.mp h
          exact ⟨h, .inl (List.getElem?_eq_some_iff.mp a1).1⟩
end
end Sr
/-! SrL: the regions of a reading, its price. -/
namespace Sr
open PySem PySem.Spec PyProof.Rows L2
local macro_rules | `(tactic| walk_at "tp") => `(tactic| first
  | exact Tp.refl _
  | assumption
  | exact Gr.tp (by assumption)
  | (refine Tp.trans ?_ (by first | assumption | exact Gr.tp (by assumption)); walk_at "tp"))
local macro_rules | `(tactic| walk_at "gr") => `(tactic| first
  | exact Gr.refl _ _
  | assumption
  | exact Gr.any (by assumption)
  | (refine Gr.trans ?_ (by first | assumption | exact Gr.any (by assumption)); walk_at "gr"))
local macro_rules | `(tactic| walk_at "rep") => `(tactic| first
  | exact Rep.int _ | exact Rep.str _ | exact Rep.bl _ | exact Rep.non
  | assumption
  | (refine Rep.mono ?_ (by assumption); walk_at "tp"))
local macro_rules | `(tactic| walk_at "repl") => `(tactic| repeat first
  | exact RepL.nil
  | (apply RepL.cons; (· walk_at "rep")))
local macro_rules | `(tactic| walk_at "step") => `(tactic| first
  | ((with_reducible apply w_var); rfl)
  | (with_reducible apply w_c)
  | (with_reducible apply w_op)
  | (with_reducible apply w_I0)
  | ((with_reducible apply w_ix); (· assumption); (· walk_at "tp"); (· decide); (· rfl); (intro x hx; first | (have e := Rep.intI hx; subst e; clear hx) | (have e := Rep.strI hx; subst e; clear hx) | (have e := Rep.blI hx; subst e; clear hx) | skip))
  | ((with_reducible apply w_ixU); (· assumption); (· walk_at "tp"); (· decide); (· rfl))
  | (with_reducible apply w_eqS)
  | (with_reducible apply w_eqI)
  | (with_reducible apply w_eqB)
  | (with_reducible apply w_neB)
  | (with_reducible apply w_test)
  | (with_reducible apply w_tB)
  | (with_reducible apply w_and)
  | (with_reducible apply w_or)
  | (with_reducible apply w_not)
  | (with_reducible apply w_nil)
  | (with_reducible apply w_cons)
  | (with_reducible apply w_CB)
  | (with_reducible apply w_call)
  | (with_reducible apply w_seq)
  | (with_reducible apply w_asg)
  | (with_reducible apply w_gname)
  | (with_reducible apply w_drop)
  | (with_reducible apply w_ret)
  | (with_reducible apply w_ifS)
  | (with_reducible apply w_next)
  | (with_reducible apply w_ifE)
  | (with_reducible apply w_andV)
  | (with_reducible apply w_orV)
  | (with_reducible apply w_notV)
  | (with_reducible apply w_tupE)
  | (with_reducible apply w_lstE)
  | (with_reducible apply w_bl)
  | ((with_reducible apply w_aug); rfl)
  | (with_reducible apply w_ip)
  | (with_reducible apply w_for1)
  | (with_reducible apply w_for2)
  | (with_reducible apply w_forT)
  | (with_reducible apply w_forL)
  | ((with_reducible apply w_lenD); (· assumption); (· walk_at "tp"))
  | (with_reducible apply w_min)
  | (with_reducible apply w_intI)
  | (with_reducible apply w_intB)
  | ((with_reducible apply w_I); (· first | decide | exact (by decide : (1000 : Int) ≠ 0) | exact ⟨by decide, by decide⟩ | exact ⟨by decide, by decide, by decide⟩ | exact .inr ⟨by decide, by decide⟩ | exact .inl ⟨by decide, by decide⟩))
  | (with_reducible apply w_bm)
  | (with_reducible apply w_bm0)
  | ((with_reducible apply w_tyL); (· assumption))
  | (with_reducible apply w_gsub)
  | (with_reducible apply w_fld)
  | (with_reducible apply w_gcons)
  | (with_reducible apply w_gnil)
  | ((with_reducible apply w_gtup); (· assumption); (· walk_at "tp"); (· rfl))
  | (with_reducible apply w_meth)
  | (with_reducible apply w_lc1)
  | (with_reducible apply w_lcL)
  | (with_reducible apply w_lcT)
  | (with_reducible apply w_yes)
  | (with_reducible apply w_m1)
  | (with_reducible apply w_dnotin)
  | (with_reducible apply w_din)
  | (with_reducible apply w_dget)
  | (with_reducible apply w_dput)
  | ((with_reducible apply w_ixL); (· assumption); (· decide); (· rfl)))
local macro_rules | `(tactic| walk_at "go") => `(tactic| repeat walk_at "step")
local macro_rules | `(tactic| walk_at "set") => `(tactic| dsimp only [List.set_cons_succ, List.set_cons_zero])

def pnM (m : Mach) (n : Nat) : Nat := match m.mvs[n]? with
  | some mv => mv.p
  | none => 0
def pcM (m : Mach) (n : Nat) : Nat := match m.mvs[n]? with
  | some mv => mv.c
  | none => 0
def RegR (ps : List Part) : Row → Bool → Mach → Rg → Nat → List Rg
  | .nil, _, _, _, _ => []
  | .cons n z i rest, ac, m, r, o => (piece ac r (pnM m n) o z :: match ps[(piece ac r (pnM m n) o z).n]? with
      | some (.strip ac' _ _ e') => RegR ps i ac' (machineOf e') (piece ac r (pnM m n) o z) 0
      | _ => []) ++ RegR ps rest ac m r (o + z)
/-- the regions of a reading, from the outermost -/
def Regs (ps : List Part) (r : Rg) (row : Row) : List Rg := r :: match ps[r.n]? with
  | some (.strip ac _ _ e) => RegR ps row ac (machineOf e) r 0
  | _ => []
def MovR (ps : List Part) : Row → Mach → Nat
  | .nil, _ => 0
  | .cons n z i rest, m => pcM m n + (match ps[pnM m n]? with
      | some (.strip _ _ _ e') => MovR ps i (machineOf e')
      | _ => 0) + MovR ps rest m
def Moved (ps : List Part) (n : Nat) (row : Row) : Nat := match ps[n]? with
  | some (.strip _ _ _ e) => MovR ps row (machineOf e)
  | _ => 0
theorem piece_n (ac : Bool) (r : Rg) (n o z : Nat) : (piece ac r n o z).n = n := by unfold piece; cases ac <;> rfl
theorem regR_cons {ps : List Part} {n z : Nat} {i rest : Row} {ac : Bool} {m : Mach} {r : Rg} {o : Nat} : RegR ps (.cons n z i rest) ac m r o = Regs ps (piece ac r (pnM m n) o z) i ++ RegR ps rest ac m r (o + z) := by
  rw [RegR.eq_def]
  rfl
theorem movR_cons {ps : List Part} {n z : Nat} {i rest : Row} {m : Mach} : MovR ps (.cons n z i rest) m = pcM m n + Moved ps (pnM m n) i + MovR ps rest m := by
  rw [MovR.eq_def]
  rfl
def RB : Nat → Nat
  | 0 => 1
  | d + 1 => 1 + 6 * RB d
theorem RB_mono : ∀ {a b : Nat}, a ≤ b → RB a ≤ RB b
  | a, 0, h => by have : a = 0 := by omega
                  subst this; exact Nat.le_refl _
  | a, b + 1, h => by
    rcases Nat.lt_or_ge b a with h2 | h2
    · have : a = b + 1 := by omega
      subst this; exact Nat.le_refl _
    · have := RB_mono h2
      show RB a ≤ 1 + 6 * RB b
      omega
section
variable {P : Program} {w : World} {K : PySem.W.Frag} {mg : Str → Option Value} {base : Heap}
theorem fil_strip {ps : List Part} {r : Rg} {row : Row} {ac : Bool} {nm jt : Str} {e : Ex} (h : ps[r.n]? = some (.strip ac nm jt e)) : Fil ps r row ↔ Rst ps ac (machineOf e) r 0 0 row := by
  unfold Fil FillR Rst
  rw [h]
theorem rst_row {ps : List Part} {ac : Bool} {m : Mach} {r : Rg} {s o : Nat} {row : Row} {d : PD} {l : List PD} (h : rowL row = d :: l) (hr : Rst ps ac m r s o row) : ∃ n z i rest mv, row = .cons n z i rest ∧ d = .tuple [.int n, .int z, .tuple (rowL i)] ∧ l = rowL rest ∧ m.mvs[n]? = some mv ∧ mv.o = s ∧ mv.l ≤ z ∧ z ≤ mv.m ∧ o + z ≤ ext ac r ∧ Fil ps (piece ac r mv.p o z) i ∧ Rst ps ac m r mv.t (o + z) rest := by
  cases row with
  | nil => cases h
  | cons n z i rest =>
    obtain ⟨mv, h1⟩ := rst_cons.mp hr
    change .tuple [.int n, .int z, .tuple (rowL i)] :: rowL rest = d :: l at h
    injection h with e1 e2
    exact ⟨n, z, i, rest, mv, rfl, e1.symm, e2.symm, h1⟩
theorem drop_get {α : Type} {l : List α} {i : Nat} {x : α} (h : l[i]? = some x) : l.drop i = x :: l.drop (i + 1) := by
  obtain ⟨hi, e⟩ := List.getElem?_eq_some_iff.mp h
  rw [List.drop_eq_getElem_cons hi, e]
def spRegions (d : Nat) : Sp := fun vs H Q _ => ∃ (v0 v1 v2 v3 : V) (ps : List Part) (lf : Nat) (r : Rg) (row : Row), vs = [v0, v1, v2, v3] ∧ Rep H (partsD ps) v0 ∧ Rep H (waysD ps) v1 ∧ Rep H (encRg r) v2 ∧ Rep H (encRow row) v3 ∧ GoodL ps lf ∧ r.n < ps.length ∧ r.w ≤ 6 ∧ r.h ≤ 6 ∧ r.n + 1 - lf < d ∧ Fil ps r row ∧
  ∀ (a : Addr) (H' : Hp), Gr S0 H H' → H a = none → LD H' a ((Regs ps r row).map encRg) → (Regs ps r row).length ≤ RB (r.n + 1 - lf) → Q (.ref a) H'
theorem sc_l_regions : FnScope ["_law_parts_here", "_law_ways", "_law_region", "_law_reading", "_law_found", "_law_part", "_law_offset", "_law_row", "_law_inner"] ["_law_parts_here", "_law_ways", "_law_region", "_law_reading"] (defScope (top 49)) := ⟨rfl, rfl, rfl, by decide +kernel, rfl, by decide +kernel, by decide +kernel⟩
theorem ok_l_regions (d k : Nat) (R : Raw K mg "_law_regions" (top 49) ["_law_parts_here", "_law_ways", "_law_region", "_law_reading"]) (B : Bi mg) (D_l_strip : Def P w K mg base k "_law_strip" ["_law_part"] spLStrip) (D_l_piece : Def P w K mg base k "_law_piece" ["_law_part", "_law_region", "_law_number", "_law_offset", "_law_size"] spLPiece) (D_l_regions : Def P w K mg base k "_law_regions" ["_law_parts_here", "_law_ways", "_law_region", "_law_reading"] (spRegions d)) : Def P w K mg base (k + 1) "_law_regions" ["_law_parts_here", "_law_ways", "_law_region", "_law_reading"] (spRegions (d + 1)) := by
  refine R.ok sc_l_regions (fun vs H Q E h => ?_) (fun f cdv A outer s H vs Q E hr h => ?_)
  · obtain ⟨_, _, _, _, _, _, _, _, rfl, _⟩ := h; rfl
  obtain ⟨v0, v1, v2, v3, ps, lf, r, row, rfl, h0, h1, h2, h3, gd, hn, hrw, hrh, hd, hf, q⟩ := h
  refine ⟨_, (pss_cons (ps_set (i := 4) sc_l_regions.nd rfl (.inl rfl) (pe_lst (pa_cons (pv 2) pa_nil)))
    (pss_cons (ps_set (i := 5) sc_l_regions.nd rfl (.inl rfl) (pe_ix (ix_sq (K := K) rfl) (pv 0) (pe_ix (ix_sq (K := K) rfl) (pv 2) pe_int (fun _ _ => rfl)) (fun _ _ => rfl)))
    (pss_cons (ps_if (pt_val (pe_d D_l_strip hr (by rfl) (pa_cons (pv 5) pa_nil)))
      (pss_cons (ps_set (i := 6) sc_l_regions.nd rfl (.inl rfl) pe_int)
      (pss_one (ps_for PassesOwn.never rfl (pi_tup (pv 3)) (pg_name (i := 7) sc_l_regions.nd rfl (.inl rfl))
        (pss_cons (ps_set (i := 8) sc_l_regions.nd rfl (.inl rfl) (pe_d D_l_piece hr (by rfl) (pa_cons (pv 5) (pa_cons (pv 2) (pa_cons (pe_ix (ix_sq (K := K) rfl) (pe_ix (ix_sq (K := K) rfl) (pe_ix (ix_sq (K := K) rfl) (pe_ix (ix_sq (K := K) rfl) (pv 1) (pe_ix (ix_sq (K := K) rfl) (pv 2) pe_int (fun _ _ => rfl)) (fun _ _ => rfl)) pe_int (fun _ _ => rfl)) (pe_ix (ix_sq (K := K) rfl) (pv 7) pe_int (fun _ _ => rfl)) (fun _ _ => rfl)) pe_int (fun _ _ => rfl)) (pa_cons (pv 6) (pa_cons (pe_ix (ix_sq (K := K) rfl) (pv 7) pe_int (fun _ _ => rfl)) pa_nil)))))))
        (pss_cons (ps_set (i := 4) sc_l_regions.nd rfl (.inl rfl) (pe_op op_cat (pv 4) (pe_d D_l_regions hr (by rfl) (pa_cons (pv 0) (pa_cons (pv 1) (pa_cons (pv 8) (pa_cons (pe_ix (ix_sq (K := K) rfl) (pv 7) pe_int (fun _ _ => rfl)) pa_nil)))))))
        (pss_one (ps_set (i := 6) sc_l_regions.nd rfl (.inl rfl) (pe_op op_add (pv 6) (pe_ix (ix_sq (K := K) rfl) (pv 7) pe_int (fun _ _ => rfl))))))))))
      pss_nil)
    (pss_one (ps_ret (pv 4)))))), ?_⟩
  have h0' := h0
  have h1' := h1
  have h2' := h2
  change Rep H (.tuple (ps.map encPart)) v0 at h0'
  change Rep H (.tuple (ps.map encWay)) v1 at h1'
  change Rep H (.tuple [.int r.n, .int r.x, .int r.y, .int r.w, .int r.h]) v2 at h2'
  change Rep H (.tuple (rowL row)) v3 at h3
  have htwo := gd.two
  have hpn : ps[r.n]? = some ps[r.n] := List.getElem?_eq_getElem _
  have hlf := gd.ls _ _ hpn
  walk_at "go"
  refine lst_new (by show 1 ≤ sizeLine; decide) fun fa H1 fan hfa g1 => ?_
  have h01 := h0'.mono g1.tp
  have h21 := h2'.mono g1.tp
  walk_at "go"
  refine w_ix h01 (Tp.refl _) (by omega) (by rw [Int.toNat_natCast, List.getElem?_map, hpn]; rfl) (fun y hy => ?_)
  walk_at "go"
  refine ⟨y, ps[r.n], rfl, hy, ?_⟩
  have hL1 : LD H1 fa ([r].map encRg) := ⟨_, hfa, .cons (h2.mono g1.tp) .nil⟩
  cases hs : isStrip ps[r.n] with
  | false =>
    refine ⟨_, rfl, if_of (fun h => by cases h) (fun _ => ?_)⟩
    have hreg : Regs ps r row = [r] := by
      unfold Regs
      rw [hpn]
      cases ep : ps[r.n] with
      | strip => rw [ep] at hs; cases hs
      | plain => rfl
      | shape => rfl
    walk_at "go"
    refine q fa H1 g1 fan (by rw [hreg]; exact hL1) ?_
    rw [hreg]
    exact RB_mono (a := 0) (Nat.zero_le _)
  | true =>
    cases ep : ps[r.n] with
    | plain => rw [ep] at hs; cases hs
    | shape => rw [ep] at hs; cases hs
    | strip ac nm jt e =>
    rw [ep] at hpn hy
    have hlf' := hlf.mp hs
    have hpm := List.mem_of_getElem? hpn
    have hml : MvL (machineOf e).mvs := gd.way _ hpm
    have hup : ∀ mv ∈ (machineOf e).mvs, mv.p < r.n := gd.up _ _ hpn
    have hreg : Regs ps r row = r :: RegR ps row ac (machineOf e) r 0 := by
      unfold Regs
      rw [hpn]
    have hrst := (fil_strip hpn).mp hf
    have hfar : ext ac r ≤ 6 := by
      unfold ext
      cases ac
      · rw [if_neg (by decide)]; omega
      · rw [if_pos rfl]; omega
    have hencm : encWay (.strip ac nm jt e) = encMach (machineOf e) := rfl
    rw [hreg] at q
    generalize machineOf e = m at *
    refine ⟨_, rfl, if_of (fun _ => ?_) (fun h => by cases h)⟩
    have h31 := h3.mono g1.tp
    have e0 : RB (r.n + 1 - lf) = 1 + 6 * RB (r.n - lf) := by
      have : r.n + 1 - lf = (r.n - lf) + 1 := by omega
      rw [this]; rfl
    walk_at "go"
    refine forT h31 (Tp.refl _) (fun i σ H' => ∃ (d7 d8 : Option V) (fa : Addr) (L : List Rg) (o s' : Nat) (rest : Row), σ = [some v0, some v1, some v2, some v3, some (.ref fa), some y, some (.int (o : Nat)), d7, d8] ∧ Gr S0 H H' ∧ Tp H1 H' ∧ H fa = none ∧ LD H' fa (L.map encRg) ∧ L.length ≤ 1 + i * RB (r.n - lf) ∧ i ≤ o ∧ o ≤ ext ac r ∧ (rowL row).drop i = rowL rest ∧ Rst ps ac m r s' o rest ∧ L ++ RegR ps rest ac m r o = r :: RegR ps row ac m r 0) ⟨_, _, fa, [r], 0, 0, row, rfl, g1, Tp.refl _, fan, hL1, by simp, Nat.le_refl _, Nat.zero_le _, rfl, hrst, rfl⟩ (fun i σ H' hp => by obtain ⟨_, _, _, _, _, _, _, _, _, tp, _⟩ := hp; exact tp) (fun i dd x σ H2 hi hx hp => ?_) (fun σ H2 hp => ?_)
    · obtain ⟨d7, d8, fa, L, o, s', rest, rfl, g2, tp2, fan, hL2, hLl, hio, hol, hdrop, hrs, hreq⟩ := hp
      have hdr := drop_get hi
      rw [hdrop] at hdr
      obtain ⟨n, z, i', rest', mv, rfl, rfl, hl2, hmv, hms, hz1, hz2, hz3, hfi, hrs'⟩ := rst_row hdr hrs
      have hmm := List.mem_of_getElem? hmv
      obtain ⟨m1, m2, m3⟩ := hml.2 mv hmm
      have hpl := hup mv hmm
      have hx2 := hx.mono tp2
      have epn : pnM m n = mv.p := by unfold pnM; rw [hmv]
      rw [regR_cons, epn] at hreq
      have h12 := h1'.mono g2.tp
      have h22 := h2'.mono g2.tp
      obtain ⟨lvs, hl, hlr⟩ := hL2
      walk_at "go"
      refine w_ix h12 (Tp.refl _) (by omega) (by rw [Int.toNat_natCast, List.getElem?_map, hpn]; rfl) (fun wy hwy => ?_)
      rw [hencm] at hwy
      change Rep H2 (.tuple [.tuple (m.ends.map PyData.bool), .tuple (m.mvs.map encMv)]) wy at hwy
      walk_at "go"
      rename_i vm hvm
      refine w_ix hvm (Tp.refl _) (by omega) (by rw [Int.toNat_natCast, List.getElem?_map, hmv]; rfl) (fun u hu => ?_)
      change Rep H2 (.tuple [.int mv.o, .int mv.t, .int mv.p, .int mv.l, .int mv.m, .int mv.c]) u at hu
      walk_at "go"
      refine ⟨y, v2, ac, nm, jt, e, r, o, mv.p, z, rfl, hy.mono tp2, h2.mono g2.tp, fun y9 H9 g9 hy9 => ?_⟩
      have hx9 := hx2.mono g9.tp
      have g9' := g2.trans g9
      have hl9 := g9.lst id hl
      walk_at "go"
      refine ⟨v0, v1, y9, _, ps, lf, piece ac r mv.p o z, i', rfl, h0.mono g9'.tp, h1.mono g9'.tp, hy9, by assumption, gd, ?_, ?_, ?_, ?_, hfi, fun ra H10 g10 ran hra hral => ?_⟩
      · rw [piece_n]; omega
      · unfold piece
        cases ac
        · exact hrw
        · show z ≤ 6; omega
      · unfold piece
        cases ac
        · show z ≤ 6; omega
        · exact hrh
      · rw [piece_n]; omega
      obtain ⟨rvs, hrl, hrr⟩ := hra
      rw [piece_n] at hral
      have hral' : (Regs ps (piece ac r mv.p o z) i').length ≤ RB (r.n - lf) := Nat.le_trans hral (RB_mono (by omega))
      have hl10 := g10.lst id hl9
      have hx10 := hx9.mono g10.tp
      have e1 := hlr.length
      have e2 := hrr.length
      rw [List.length_map] at e1 e2
      have hbd : RB (r.n - lf) ≤ 43 := RB_mono (b := 2) (by omega)
      have hi6 : i < 6 := by omega
      have hiR : i * RB (r.n - lf) ≤ 6 * 43 := Nat.mul_le_mul (by omega) hbd
      walk_at "go"
      refine w_cat hl10 hrl (Nat.le_of_lt (small6 (by omega))) fun p18 H18 p18n hp18 g18 => ?_
      have hx18 := hx10.mono g18.tp
      walk_at "go"
      have e3 : ((o : Nat) : Int) + (z : Int) = ((o + z : Nat) : Int) := by omega
      rw [e3]
      refine ⟨_, _, p18, L ++ Regs ps (piece ac r mv.p o z) i', o + z, mv.t, rest', rfl, (g9'.trans g10).trans g18, tp2.trans (g9.tp.trans (g10.tp.trans g18.tp)), g9'.nn _ (g10.nn _ p18n), ⟨_, hp18, ?_⟩, ?_, by omega, hz3, hl2, hrs', by rw [List.append_assoc]; exact hreq⟩
      · rw [List.map_append]
        exact (hlr.mono (g9.tp.trans (g10.tp.trans g18.tp))).append (hrr.mono g18.tp)
      · rw [List.length_append, Nat.succ_mul]; omega
    · obtain ⟨d7, d8, fa, L, o, s', rest, rfl, g2, tp2, fan, hL2, hLl, hio, hol, hdrop, hrs, hreq⟩ := hp
      rw [List.drop_length] at hdrop
      have : rest = .nil := by cases rest with
        | nil => rfl
        | cons => cases hdrop
      subst this
      have hreq : L ++ [] = r :: RegR ps row ac m r 0 := hreq
      rw [List.append_nil] at hreq
      walk_at "go"
      refine q fa H2 g2 fan (by rw [← hreq]; exact hL2) ?_
      rw [← hreq, e0]
      refine Nat.le_trans hLl (Nat.add_le_add_left (Nat.mul_le_mul_right _ (by omega)) _)
def spMoved (d : Nat) : Sp := fun vs H Q _ => ∃ (v0 v2 : V) (ps : List Part) (lf n : Nat) (r : Rg) (row : Row), vs = [v0, .int (n : Nat), v2] ∧ Rep H (waysD ps) v0 ∧ Rep H (encRow row) v2 ∧ GoodL ps lf ∧ r.n = n ∧ n < ps.length ∧ n + 1 - lf < d ∧ Fil ps r row ∧
  Q (.int (Moved ps n row : Nat)) H
theorem sc_l_moved : FnScope ["_law_ways", "_law_number", "_law_reading", "_law_total", "_law_row", "_law_move"] ["_law_ways", "_law_number", "_law_reading"] (defScope (top 50)) := ⟨rfl, rfl, rfl, by decide +kernel, rfl, by decide +kernel, by decide +kernel⟩
theorem ok_l_moved (d k : Nat) (R : Raw K mg "_law_moved" (top 50) ["_law_ways", "_law_number", "_law_reading"]) (B : Bi mg) (D_l_moved : Def P w K mg base k "_law_moved" ["_law_ways", "_law_number", "_law_reading"] (spMoved d)) : Def P w K mg base (k + 1) "_law_moved" ["_law_ways", "_law_number", "_law_reading"] (spMoved (d + 1)) := by
  refine R.ok sc_l_moved (fun vs H Q E h => ?_) (fun f cdv A outer s H vs Q E hr h => ?_)
  · obtain ⟨_, _, _, _, _, _, _, rfl, _⟩ := h; rfl
  obtain ⟨v0, v2, ps, lf, n, r, row, rfl, h0, h2, gd, hrn, hn, hd, hf, q⟩ := h
  subst hrn
  refine ⟨_, (pss_cons (ps_set (i := 3) sc_l_moved.nd rfl (.inl rfl) pe_int)
    (pss_cons (ps_for PassesOwn.never rfl (pi_tup (pv 2)) (pg_name (i := 4) sc_l_moved.nd rfl (.inl rfl))
      (pss_cons (ps_set (i := 5) sc_l_moved.nd rfl (.inl rfl) (pe_ix (ix_sq (K := K) rfl) (pe_ix (ix_sq (K := K) rfl) (pe_ix (ix_sq (K := K) rfl) (pv 0) (pv 1) (fun _ _ => rfl)) pe_int (fun _ _ => rfl)) (pe_ix (ix_sq (K := K) rfl) (pv 4) pe_int (fun _ _ => rfl)) (fun _ _ => rfl)))
      (pss_one (ps_set (i := 3) sc_l_moved.nd rfl (.inl rfl) (pe_op op_add (pe_op op_add (pv 3) (pe_ix (ix_sq (K := K) rfl) (pv 5) pe_int (fun _ _ => rfl))) (pe_d D_l_moved hr (by rfl) (pa_cons (pv 0) (pa_cons (pe_ix (ix_sq (K := K) rfl) (pv 5) pe_int (fun _ _ => rfl)) (pa_cons (pe_ix (ix_sq (K := K) rfl) (pv 4) pe_int (fun _ _ => rfl)) pa_nil)))))))))
    (pss_one (ps_ret (pv 3))))), ?_⟩
  have h0' := h0
  change Rep H (.tuple (ps.map encWay)) v0 at h0'
  change Rep H (.tuple (rowL row)) v2 at h2
  have hpn : ps[r.n]? = some ps[r.n] := List.getElem?_eq_getElem _
  have hlf := gd.ls _ _ hpn
  walk_at "go"
  cases hs : isStrip ps[r.n] with
  | false =>
    have hnil : row = .nil := by
      obtain ⟨c, hc⟩ := hf
      unfold FillR at hc
      rw [hpn] at hc
      cases ep : ps[r.n] with
      | strip => rw [ep] at hs; cases hs
      | plain => rw [ep] at hc; exact hc.1
      | shape => rw [ep] at hc; exact hc.1
    have hmv : Moved ps r.n row = 0 := by
      unfold Moved
      rw [hpn]
      cases ep : ps[r.n] with
      | strip => rw [ep] at hs; cases hs
      | plain => rfl
      | shape => rfl
    rw [hmv] at q
    subst hnil
    refine forT h2 (Tp.refl _) (fun i σ H' => ∃ d4 d5, σ = [some v0, some (.int (r.n : Nat)), some v2, some (.int 0), d4, d5] ∧ H' = H) ⟨_, _, rfl, rfl⟩ (fun i σ H' hp => by obtain ⟨_, _, _, rfl⟩ := hp; exact Tp.refl _) (fun i dd x σ H2 hi hx hp => by cases hi) (fun σ H2 hp => ?_)
    obtain ⟨_, _, rfl, rfl⟩ := hp
    walk_at "go"
    exact q
  | true =>
    cases ep : ps[r.n] with
    | plain => rw [ep] at hs; cases hs
    | shape => rw [ep] at hs; cases hs
    | strip ac nm jt e =>
    rw [ep] at hpn
    have hlf' := hlf.mp hs
    have hup : ∀ mv ∈ (machineOf e).mvs, mv.p < r.n := gd.up _ _ hpn
    have hreg : Moved ps r.n row = MovR ps row (machineOf e) := by
      unfold Moved
      rw [hpn]
    have hrst := (fil_strip hpn).mp hf
    have hencm : encWay (.strip ac nm jt e) = encMach (machineOf e) := rfl
    rw [hreg] at q
    generalize machineOf e = m at *
    refine forT h2 (Tp.refl _) (fun i σ H' => ∃ (d4 d5 : Option V) (tot o s' : Nat) (rest : Row), σ = [some v0, some (.int (r.n : Nat)), some v2, some (.int (tot : Nat)), d4, d5] ∧ H' = H ∧ (rowL row).drop i = rowL rest ∧ Rst ps ac m r s' o rest ∧ tot + MovR ps rest m = MovR ps row m) ⟨_, _, 0, 0, 0, row, rfl, rfl, rfl, hrst, Nat.zero_add _⟩ (fun i σ H' hp => by obtain ⟨_, _, _, _, _, _, _, rfl, _⟩ := hp; exact Tp.refl _) (fun i dd x σ H2 hi hx hp => ?_) (fun σ H2 hp => ?_)
    · obtain ⟨d4, d5, tot, o, s', rest, rfl, rfl, hdrop, hrs, hreq⟩ := hp
      have hdr := drop_get hi
      rw [hdrop] at hdr
      obtain ⟨n, z, i', rest', mv, rfl, rfl, hl2, hmv, hms, hz1, hz2, hz3, hfi, hrs'⟩ := rst_row hdr hrs
      have hmm := List.mem_of_getElem? hmv
      have hpl := hup mv hmm
      have epn : pnM m n = mv.p := by unfold pnM; rw [hmv]
      have ecn : pcM m n = mv.c := by unfold pcM; rw [hmv]
      rw [movR_cons, epn, ecn] at hreq
      walk_at "go"
      refine w_ix h0' (Tp.refl _) (by omega) (by rw [Int.toNat_natCast, List.getElem?_map, hpn]; rfl) (fun wy hwy => ?_)
      rw [hencm] at hwy
      change Rep H2 (.tuple [.tuple (m.ends.map PyData.bool), .tuple (m.mvs.map encMv)]) wy at hwy
      walk_at "go"
      rename_i vm hvm
      refine w_ix hvm (Tp.refl _) (by omega) (by rw [Int.toNat_natCast, List.getElem?_map, hmv]; rfl) (fun u hu => ?_)
      change Rep H2 (.tuple [.int mv.o, .int mv.t, .int mv.p, .int mv.l, .int mv.m, .int mv.c]) u at hu
      walk_at "go"
      refine ⟨v0, _, ps, lf, mv.p, piece ac r mv.p o z, i', rfl, h0, by assumption, gd, piece_n .., by omega, by omega, hfi, ?_⟩
      walk_at "go"
      have e1 : (tot : Int) + (mv.c : Int) + ((Moved ps mv.p i' : Nat) : Int) = ((tot + mv.c + Moved ps mv.p i' : Nat) : Int) := by omega
      rw [e1]
      exact ⟨_, _, _, o + z, mv.t, rest', rfl, rfl, hl2, hrs', by omega⟩
    · obtain ⟨d4, d5, tot, o, s', rest, rfl, rfl, hdrop, hrs, hreq⟩ := hp
      rw [List.drop_length] at hdrop
      have : rest = .nil := by cases rest with
        | nil => rfl
        | cons => cases hdrop
      subst this
      have hreq : tot + 0 = MovR ps row m := hreq
      rw [Nat.add_zero] at hreq
      subst hreq
      walk_at "go"
      exact q
def isLeafR (ps : List Part) (r : Rg) : Bool := match ps[r.n]? with
  | some p => !isStrip p
  | none => false
def Leaves (ps : List Part) (r : Rg) (row : Row) : List Rg := (Regs ps r row).filter (isLeafR ps)
def spLeaves : Sp := fun vs H Q _ => ∃ (v0 : V) (fa : Addr) (ps : List Part) (L : List Rg), vs = [v0, .ref fa] ∧ Rep H (partsD ps) v0 ∧ LD H fa (L.map encRg) ∧ (∀ r ∈ L, r.n < ps.length) ∧ L.length ≤ 1000 ∧
  ∀ (a : Addr) (H' : Hp), Gr S0 H H' → H a = none → LD H' a ((L.filter (isLeafR ps)).map encRg) → Q (.ref a) H'
theorem sc_l_leaves : FnScope ["_law_parts_here", "_law_found", "_law_one"] ["_law_parts_here", "_law_found"] (defScope (top 53)) := ⟨rfl, rfl, rfl, by decide +kernel, rfl, by decide +kernel, by decide +kernel⟩
theorem ok_l_leaves (R : Raw K mg "_law_leaves" (top 53) ["_law_parts_here", "_law_found"]) (B : Bi mg) (D_l_strip : Def P w K mg base 1 "_law_strip" ["_law_part"] spLStrip) : Def P w K mg base 2 "_law_leaves" ["_law_parts_here", "_law_found"] spLeaves := by
  refine R.ok sc_l_leaves (fun vs H Q E h => ?_) (fun f cdv A outer s H vs Q E hr h => ?_)
  · obtain ⟨_, _, _, _, rfl, _⟩ := h; rfl
  obtain ⟨v0, fa, ps, L, rfl, h0, ⟨lvs, hl, hlr⟩, hn, hLl, q⟩ := h
  refine ⟨_, (pss_one (ps_ret (pe_lc (own := [("_law_one", 2)]) (g := gName 2) rfl sc_l_leaves.nd (pi_list (pv 1)) (blkOk_by (N := ["_law_parts_here", "_law_found", "_law_one"]) (sc := defScope (top 53)) (by decide +kernel)) (fun _ _ _ _ _ => pg_name (i := 2) sc_l_leaves.nd rfl (.inl rfl)) (fun _ _ _ _ _ => (pts_one (pt_not (pt_val (pe_d D_l_strip hr (by rfl) (pa_cons (pe_ix (ix_sq (K := K) rfl) (pv 0) (pe_ix (ix_sq (K := K) rfl) (pv 2) pe_int (fun _ _ => rfl)) (fun _ _ => rfl)) pa_nil)))))) (fun _ _ _ _ _ => (pv 2))))), ?_⟩
  change Rep H (.tuple (ps.map encPart)) v0 at h0
  have hll : lvs.length = L.length := by rw [← hlr.length, List.length_map]
  walk_at "go"
  refine lcRL (xs := lvs) rfl (SqL.of hl) (fun D i H' => Gr S0 H H' ∧ LD H' D (((L.take i).filter (isLeafR ps)).map encRg)) (fun D hD => ⟨Gr.new hD, [], upd_same, .nil⟩) (fun D i H' hD hp => SqL.of (hp.1.lst id hl)) (fun D i x H' hD hi hp => ?_) (fun D H' hD hp => ?_)
  · obtain ⟨g, vs, hv, hvr⟩ := hp
    obtain ⟨d, hd, hx⟩ := LD.getI hlr hi
    obtain ⟨r, hr', rfl⟩ := map_getI hd
    have et := take_get hr'
    have hrn := hn r (List.mem_of_getElem? hr')
    have hpn : ps[r.n]? = some ps[r.n] := List.getElem?_eq_getElem _
    have hx' := hx.mono g.tp
    have h0' := h0.mono g.tp
    have hx2 := hx'
    change Rep H' (.tuple [.int r.n, .int r.x, .int r.y, .int r.w, .int r.h]) x at hx2
    walk_at "go"
    refine w_ix h0' (Tp.refl _) (by omega) (by rw [Int.toNat_natCast, List.getElem?_map, hpn]; rfl) (fun y hy => ?_)
    walk_at "go"
    refine ⟨y, ps[r.n], rfl, hy, ?_⟩
    have hlr' : isLeafR ps r = !isStrip ps[r.n] := by unfold isLeafR; rw [hpn]
    rw [et, List.filter_append, List.filter_cons, hlr', List.filter_nil]
    cases hs : isStrip ps[r.n] with
    | true =>
      refine ⟨_, rfl, if_of (fun h => by cases h) (fun _ => ?_)⟩
      exact ⟨g, vs, hv, by simpa using hvr⟩
    | false =>
      refine ⟨_, rfl, if_of (fun _ => ?_) (fun h => by cases h)⟩
      walk_at "go"
      refine w_put hv (small6 ?_) ⟨g.setL (.inl hD) hv, ?_⟩
      · rw [← hvr.length, List.length_map]
        have := List.length_filter_le (isLeafR ps) (L.take i)
        rw [List.length_take] at this
        omega
      · show LD (upd H' D (HO.lst (vs ++ [x]))) D (List.map encRg (List.filter (isLeafR ps) (List.take i L) ++ [r]))
        rw [List.map_append]
        exact LD.push hv hvr hx'
  · obtain ⟨g, hv⟩ := hp
    rw [hll, List.take_length] at hv
    exact q D H' g hD hv
def ck_sumR (K : PySem.W.Frag) : List V → Hp → VK → Prop := rSum K
theorem ck_sum {X : Cx} (hc : X.calm = true) (h : X.K = K) : CallR X (.builtin "sum") (ck_sumR K) := h ▸ cr_sum hc
def pcR (ps : List Part) (r : Rg) : Nat := match ps[r.n]? with
  | some p => pcost p
  | none => 0
def Price (ps : List Part) (r : Rg) (row : Row) : Nat := Moved ps r.n row + ((Leaves ps r row).map (pcR ps)).sum
theorem regs_in {ps : List Part} {lf : Nat} (gd : GoodL ps lf) : ∀ {row : Row} {ac : Bool} {nm jt : Str} {e : Ex} {r : Rg} {s o : Nat}, ps[r.n]? = some (.strip ac nm jt e) → Rst ps ac (machineOf e) r s o row → ∀ q ∈ RegR ps row ac (machineOf e) r o, InR ps.length r q
  | .nil, ac, nm, jt, e, r, s, o, hp, h => fun q hq => absurd hq (by simp [RegR])
  | .cons n z i rest, ac, nm, jt, e, r, s, o, hp, h => fun q hq => by
    obtain ⟨mv, hmv, hms, hz1, hz2, hz3, hfi, hrs⟩ := rst_cons.mp h
    have epn : pnM (machineOf e) n = mv.p := by unfold pnM; rw [hmv]
    rw [regR_cons, epn] at hq
    have hup := gd.up _ _ hp mv (List.mem_of_getElem? hmv)
    have hrl := (List.getElem?_eq_some_iff.mp hp).1
    have hin : InR ps.length r (piece ac r mv.p o z) := by
      unfold ext at hz3
      unfold piece
      cases ac
      · rw [if_neg (by decide)] at hz3 ⊢
        exact ⟨by show mv.p < _; omega, Nat.le_refl _, Nat.le_refl _, by show r.y ≤ r.y + o; omega, by show r.y + o + z ≤ _; omega⟩
      · rw [if_pos rfl] at hz3 ⊢
        exact ⟨by show mv.p < _; omega, by show r.x ≤ r.x + o; omega, by show r.x + o + z ≤ _; omega, Nat.le_refl _, Nat.le_refl _⟩
    rcases List.mem_append.mp hq with hq | hq
    · unfold Regs at hq
      rcases List.mem_cons.mp hq with rfl | hq
      · exact hin
      · cases e2 : ps[(piece ac r mv.p o z).n]? with
        | none => rw [e2] at hq; cases hq
        | some p =>
          rw [e2] at hq
          cases p with
          | plain => cases hq
          | shape => cases hq
          | strip ac' nm' jt' e' =>
            have h2 := regs_in gd e2 ((fil_strip e2).mp hfi) q hq
            exact ⟨h2.n, Nat.le_trans hin.x1 h2.x1, Nat.le_trans h2.x2 hin.x2, Nat.le_trans hin.y1 h2.y1, Nat.le_trans h2.y2 hin.y2⟩
    · exact regs_in gd hp hrs q hq
theorem regs_in0 {ps : List Part} {lf : Nat} (gd : GoodL ps lf) {r : Rg} {row : Row} (hn : r.n < ps.length) (h : Fil ps r row) : ∀ q ∈ Regs ps r row, InR ps.length r q := fun q hq => by
  unfold Regs at hq
  rcases List.mem_cons.mp hq with rfl | hq
  · exact InR.refl hn
  · cases e2 : ps[r.n]? with
    | none => rw [e2] at hq; cases hq
    | some p =>
      rw [e2] at hq
      cases p with
      | plain => cases hq
      | shape => cases hq
      | strip ac nm jt e => exact regs_in gd e2 ((fil_strip e2).mp h) q hq
def spPrice : Sp := fun vs H Q _ => ∃ (v0 v1 v2 v3 : V) (ps : List Part) (lf : Nat) (r : Rg) (row : Row), vs = [v0, v1, v2, v3] ∧ Rep H (partsD ps) v0 ∧ Rep H (waysD ps) v1 ∧ Rep H (encRg r) v2 ∧ Rep H (encRow row) v3 ∧ GoodL ps lf ∧ r.n < ps.length ∧ r.w ≤ 6 ∧ r.h ≤ 6 ∧ Fil ps r row ∧
  ∀ (H' : Hp), Gr S0 H H' → Q (.int (Price ps r row : Nat)) H'
theorem sc_l_price : FnScope ["_law_parts_here", "_law_ways", "_law_region", "_law_reading", "_law_found", "_law_leaf_here"] ["_law_parts_here", "_law_ways", "_law_region", "_law_reading"] (defScope (top 57)) := ⟨rfl, rfl, rfl, by decide +kernel, rfl, by decide +kernel, by decide +kernel⟩
theorem ok_l_price (R : Raw K mg "_law_price" (top 57) ["_law_parts_here", "_law_ways", "_law_region", "_law_reading"]) (B : Bi mg) (D_l_regions : Def P w K mg base 5 "_law_regions" ["_law_parts_here", "_law_ways", "_law_region", "_law_reading"] (spRegions 3)) (D_l_moved : Def P w K mg base 5 "_law_moved" ["_law_ways", "_law_number", "_law_reading"] (spMoved 3)) (D_l_leaves : Def P w K mg base 5 "_law_leaves" ["_law_parts_here", "_law_found"] spLeaves) : Def P w K mg base 6 "_law_price" ["_law_parts_here", "_law_ways", "_law_region", "_law_reading"] spPrice := by
  refine R.ok sc_l_price (fun vs H Q E h => ?_) (fun f cdv A outer s H vs Q E hr h => ?_)
  · obtain ⟨_, _, _, _, _, _, _, _, rfl, _⟩ := h; rfl
  obtain ⟨v0, v1, v2, v3, ps, lf, r, row, rfl, h0, h1, h2, h3, gd, hn, hrw, hrh, hf, q⟩ := h
  refine ⟨_, (pss_cons (ps_set (i := 4) sc_l_price.nd rfl (.inl rfl) (pe_d D_l_leaves hr (by rfl) (pa_cons (pv 0) (pa_cons (pe_d D_l_regions hr (by rfl) (pa_cons (pv 0) (pa_cons (pv 1) (pa_cons (pv 2) (pa_cons (pv 3) pa_nil))))) pa_nil))))
    (pss_one (ps_ret (pe_op op_add (pe_d D_l_moved hr (by rfl) (pa_cons (pv 1) (pa_cons (pe_ix (ix_sq (K := K) rfl) (pv 2) pe_int (fun _ _ => rfl)) (pa_cons (pv 3) pa_nil)))) (pe_callB (ck_sum (K := K) rfl rfl) (by rfl) B.sum bo_sum (pa_cons (pe_lc (own := [("_law_leaf_here", 5)]) (g := gName 5) rfl sc_l_price.nd (pi_list (pv 4)) (blkOk_by (N := ["_law_parts_here", "_law_ways", "_law_region", "_law_reading", "_law_found", "_law_leaf_here"]) (sc := defScope (top 57)) (by decide +kernel)) (fun _ _ _ _ _ => pg_name (i := 5) sc_l_price.nd rfl (.inl rfl)) (fun _ _ _ _ _ => pts_nil) (fun _ _ _ _ _ => (pe_ix (ix_sq (K := K) rfl) (pe_ix (ix_sq (K := K) rfl) (pv 0) (pe_ix (ix_sq (K := K) rfl) (pv 5) pe_int (fun _ _ => rfl)) (fun _ _ => rfl)) pe_int (fun _ _ => rfl)))) pa_nil)))))), ?_⟩
  have htwo := gd.two
  walk_at "go"
  refine ⟨v0, v1, v2, v3, ps, lf, r, row, rfl, h0, h1, h2, h3, gd, hn, hrw, hrh, by omega, hf, fun ra H1 g1 ran hra hral => ?_⟩
  walk_at "go"
  have hin := regs_in0 gd hn hf
  refine ⟨v0, ra, ps, Regs ps r row, rfl, h0.mono g1.tp, hra, fun x hx => (hin x hx).n, Nat.le_trans hral (Nat.le_trans (RB_mono (b := 3) (by omega)) (by decide)), fun la H2 g2 lan hla => ?_⟩
  have G2 := g1.trans g2
  have h22 := h2.mono G2.tp
  change Rep H2 (.tuple [.int r.n, .int r.x, .int r.y, .int r.w, .int r.h]) v2 at h22
  walk_at "go"
  refine ⟨v1, v3, ps, lf, r.n, r, row, rfl, h1.mono G2.tp, h3.mono G2.tp, gd, rfl, hn, by omega, hf, ?_⟩
  walk_at "go"
  obtain ⟨lvs, hl, hlr⟩ := hla
  have hll : lvs.length = (Leaves ps r row).length := by rw [← hlr.length, List.length_map]; rfl
  have hlm : ∀ x ∈ Leaves ps r row, InR ps.length r x := fun x hx => hin x (List.mem_filter.mp hx).1
  have hLl : (Leaves ps r row).length ≤ 1000 := Nat.le_trans (List.length_filter_le _ _) (Nat.le_trans hral (Nat.le_trans (RB_mono (b := 3) (by omega)) (by decide)))
  change RepL H2 ((Leaves ps r row).map encRg) lvs at hlr
  have hprice : Price ps r row = Moved ps r.n row + ((Leaves ps r row).map (pcR ps)).sum := rfl
  rw [hprice] at q
  have hleaf : ∀ x ∈ Leaves ps r row, isLeafR ps x = true := fun x hx => (List.mem_filter.mp hx).2
  generalize Leaves ps r row = LL at *
  refine lcRL (xs := lvs) rfl (SqL.of hl) (fun D i H' => Gr S0 H2 H' ∧ H' D = some (.lst (((LL.take i).map fun x => ((pcR ps x : Nat) : Int)).map V.int))) (fun D hD => ⟨Gr.new hD, upd_same⟩) (fun D i H' hD hp => SqL.of (hp.1.lst id hl)) (fun D i x H' hD hi hp => ?_) (fun D H' hD hp => ?_)
  · obtain ⟨g, hv⟩ := hp
    obtain ⟨d, hd, hx⟩ := LD.getI hlr hi
    obtain ⟨l, hl', rfl⟩ := map_getI hd
    have et := take_get hl'
    have hmem := List.mem_of_getElem? hl'
    have hrn := (hlm l hmem).n
    have hpn : ps[l.n]? = some ps[l.n] := List.getElem?_eq_getElem _
    have h0' := h0.mono (G2.tp.trans g.tp)
    change Rep H' (.tuple (ps.map encPart)) v0 at h0'
    have hx' := hx.mono g.tp
    change Rep H' (.tuple [.int l.n, .int l.x, .int l.y, .int l.w, .int l.h]) x at hx'
    have hlf := hleaf l hmem
    have hil := (List.getElem?_eq_some_iff.mp hl').1
    walk_at "go"
    refine if_of (fun _ => ?_) (fun h => absurd h (by decide))
    walk_at "go"
    refine w_ix h0' (Tp.refl _) (by omega) (by rw [Int.toNat_natCast, List.getElem?_map, hpn]; rfl) (fun y hy => ?_)
    have hlo : LeafOk ps[l.n] := gd.leaf _ (List.getElem_mem _) (by
      unfold isLeafR at hlf
      rw [hpn] at hlf
      simpa using hlf)
    obtain ⟨ds, d4, k1, k2, k3, k4⟩ := leaf3 hlo
    rw [k1] at hy
    have epc : pcR ps l = pcost ps[l.n] := by unfold pcR; rw [hpn]
    walk_at "go"
    refine w_ix hy (Tp.refl _) (by decide) k3 (fun z hz => ?_)
    have := Rep.intI hz
    subst this
    refine w_put hv (small6 (by rw [List.length_map, List.length_map, List.length_take]; omega)) ⟨g.setL (.inl hD) hv, ?_⟩
    rw [et, List.map_append, List.map_append, upd_same, ← epc]
    rfl
  · obtain ⟨g, hv⟩ := hp
    rw [hll, List.take_length] at hv
    walk_at "go"
    refine ⟨D, _, rfl, SqL.of hv, ?_⟩
    walk_at "go"
    have es : (LL.map fun x => ((pcR ps x : Nat) : Int)).sum = (((LL.map (pcR ps)).sum : Nat) : Int) := by
      clear hv hl hlr hll hlm hLl hprice hleaf q
      induction LL with
      | nil => rfl
      | cons x l ih => rw [List.map_cons, List.sum_cons, List.map_cons, List.sum_cons, ih, Int.natCast_add]
    rw [es]
    have e1 : ((Moved ps r.n row : Nat) : Int) + (((LL.map (pcR ps)).sum : Nat) : Int) = ((Moved ps r.n row + (LL.map (pcR ps)).sum : Nat) : Int) := by omega
    rw [e1]
    exact q H' (G2.trans g)
end
end Sr
/-! SrW: drawings. -/
namespace Sr
open PySem PySem.Spec PyProof.Rows L2
local macro_rules | `(tactic| walk_at "tp") => `(tactic| first
  | exact Tp.refl _
  | assumption
  | exact Gr.tp (by assumption)
  | (refine Tp.trans ?_ (by first | assumption | exact Gr.tp (by assumption)); walk_at "tp"))
local macro_rules | `(tactic| walk_at "gr") => `(tactic| first
  | exact Gr.refl _ _
  | assumption
  | exact Gr.any (by assumption)
  | (refine Gr.trans ?_ (by first | assumption | exact Gr.any (by assumption)); walk_at "gr"))
local macro_rules | `(tactic| walk_at "rep") => `(tactic| first
  | exact Rep.int _ | exact Rep.str _ | exact Rep.bl _ | exact Rep.non
  | assumption
  | (refine Rep.mono ?_ (by assumption); walk_at "tp"))
local macro_rules | `(tactic| walk_at "repl") => `(tactic| repeat first
  | exact RepL.nil
  | (apply RepL.cons; (· walk_at "rep")))
local macro_rules | `(tactic| walk_at "step") => `(tactic| first
  | ((with_reducible apply w_var); rfl)
  | (with_reducible apply w_c)
  | (with_reducible apply w_op)
  | (with_reducible apply w_I0)
  | ((with_reducible apply w_ix); (· assumption); (· walk_at "tp"); (· decide); (· rfl); (intro x hx; first | (have e := Rep.intI hx; subst e; clear hx) | (have e := Rep.strI hx; subst e; clear hx) | (have e := Rep.blI hx; subst e; clear hx) | skip))
  | ((with_reducible apply w_ixU); (· assumption); (· walk_at "tp"); (· decide); (· rfl))
  | (with_reducible apply w_eqS)
  | (with_reducible apply w_eqI)
  | (with_reducible apply w_eqB)
  | (with_reducible apply w_neB)
  | (with_reducible apply w_test)
  | (with_reducible apply w_tB)
  | (with_reducible apply w_and)
  | (with_reducible apply w_or)
  | (with_reducible apply w_not)
  | (with_reducible apply w_nil)
  | (with_reducible apply w_cons)
  | (with_reducible apply w_CB)
  | (with_reducible apply w_call)
  | (with_reducible apply w_seq)
  | (with_reducible apply w_asg)
  | (with_reducible apply w_gname)
  | (with_reducible apply w_drop)
  | (with_reducible apply w_ret)
  | (with_reducible apply w_ifS)
  | (with_reducible apply w_next)
  | (with_reducible apply w_ifE)
  | (with_reducible apply w_andV)
  | (with_reducible apply w_orV)
  | (with_reducible apply w_notV)
  | (with_reducible apply w_tupE)
  | (with_reducible apply w_lstE)
  | (with_reducible apply w_bl)
  | ((with_reducible apply w_aug); rfl)
  | (with_reducible apply w_ip)
  | (with_reducible apply w_for1)
  | (with_reducible apply w_for2)
  | (with_reducible apply w_forT)
  | (with_reducible apply w_forL)
  | ((with_reducible apply w_lenD); (· assumption); (· walk_at "tp"))
  | (with_reducible apply w_min)
  | (with_reducible apply w_intI)
  | (with_reducible apply w_intB)
  | ((with_reducible apply w_I); (· first | decide | exact (by decide : (1000 : Int) ≠ 0) | exact ⟨by decide, by decide⟩ | exact ⟨by decide, by decide, by decide⟩ | exact .inr ⟨by decide, by decide⟩ | exact .inl ⟨by decide, by decide⟩))
  | (with_reducible apply w_bm)
  | (with_reducible apply w_bm0)
  | ((with_reducible apply w_tyL); (· assumption))
  | (with_reducible apply w_gsub)
  | (with_reducible apply w_fld)
  | (with_reducible apply w_gcons)
  | (with_reducible apply w_gnil)
  | ((with_reducible apply w_gtup); (· assumption); (· walk_at "tp"); (· rfl))
  | (with_reducible apply w_meth)
  | (with_reducible apply w_lc1)
  | (with_reducible apply w_lcL)
  | (with_reducible apply w_lcT)
  | (with_reducible apply w_yes)
  | (with_reducible apply w_m1)
  | (with_reducible apply w_dnotin)
  | (with_reducible apply w_din)
  | (with_reducible apply w_dget)
  | (with_reducible apply w_dput)
  | ((with_reducible apply w_ixL); (· assumption); (· decide); (· rfl)))
local macro_rules | `(tactic| walk_at "go") => `(tactic| repeat walk_at "step")
local macro_rules | `(tactic| walk_at "set") => `(tactic| dsimp only [List.set_cons_succ, List.set_cons_zero])

abbrev Pic := Nat → Nat → Bool
def rowV (w : Nat) (f : Nat → Bool) : List V := (List.range w).map fun x => V.bl (f x)
theorem rowV_len (w : Nat) (f : Nat → Bool) : (rowV w f).length = w := by unfold rowV; rw [List.length_map, List.length_range]
theorem rowV_get {w : Nat} {f : Nat → Bool} {x : Nat} (h : x < w) : (rowV w f)[x]? = some (.bl (f x)) := by
  unfold rowV
  rw [List.getElem?_map, List.getElem?_range h]; rfl
theorem rowV_set {w : Nat} {f : Nat → Bool} {x : Nat} {b : Bool} : (rowV w f).set x (.bl b) = rowV w fun i => if i = x then b else f i := by
  apply List.ext_getElem?
  intro i
  rw [List.getElem?_set]
  by_cases hi : i < w
  · rw [rowV_get hi, rowV_get hi, rowV_len]
    by_cases hx : x = i
    · subst hx
      rw [if_pos rfl, if_pos hi, if_pos rfl]
    · rw [if_neg hx, if_neg (fun z => hx z.symm)]
  · rw [List.getElem?_eq_none (l := rowV w fun i => if i = x then b else f i) (by rw [rowV_len]; omega), List.getElem?_eq_none (l := rowV w f) (by rw [rowV_len]; omega), rowV_len]
    by_cases hx : x = i
    · subst hx; rw [if_pos rfl, if_neg hi]
    · rw [if_neg hx]
theorem rowV_congr {w : Nat} {f g : Nat → Bool} (h : ∀ x < w, f x = g x) : rowV w f = rowV w g := by
  unfold rowV
  refine List.map_congr_left fun x hx => ?_
  rw [h x (List.mem_range.mp hx)]
/-- the rows of a picture in the heap -/
structure GridAt (H0 H : Hp) (ga : Addr) (as : List Addr) (w h : Nat) (g : Pic) : Prop where
  top : H ga = some (.lst (as.map V.ref))
  len : as.length = h
  nd : as.Nodup
  new : ∀ a ∈ as, H0 a = none
  ne : ga ∉ as
  row : ∀ y a, as[y]? = some a → H a = some (.lst (rowV w fun x => g x y))
def GridR (H : Hp) (ga : Addr) (w h : Nat) (g : Pic) : Prop := ∃ as : List Addr, H ga = some (.lst (as.map V.ref)) ∧ as.length = h ∧ ∀ y a, as[y]? = some a → H a = some (.lst (rowV w fun x => g x y))
section
variable {H0 H H' : Hp} {ga : Addr} {as : List Addr} {w h : Nat} {g : Pic}
theorem GridAt.r (x : GridAt H0 H ga as w h g) : GridR H ga w h g := ⟨as, x.top, x.len, x.row⟩
theorem GridAt.gr (x : GridAt H0 H ga as w h g) (t : Gr S0 H H') : GridAt H0 H' ga as w h g := ⟨t.lst id x.top, x.len, x.nd, x.new, x.ne, fun y a e => t.lst id (x.row y a e)⟩
theorem GridR.gr (x : GridR H ga w h g) (t : Gr S0 H H') : GridR H' ga w h g := let ⟨as, a, b, c⟩ := x; ⟨as, t.lst id a, b, fun y a' e => t.lst id (c y a' e)⟩
theorem GridAt.set (x : GridAt H0 H ga as w h g) {y x0 : Nat} {a : Addr} {b : Bool} (hk : as[y]? = some a) : GridAt H0 (upd H a (.lst ((rowV w fun x => g x y).set x0 (.bl b)))) ga as w h (fun i j => if i = x0 ∧ j = y then b else g i j) := by
  refine ⟨?_, x.len, x.nd, x.new, x.ne, fun j a' e => ?_⟩
  · have : ga ≠ a := fun z => x.ne (by rw [z]; exact List.mem_of_getElem? hk)
    rw [upd_ne this]; exact x.top
  · by_cases hj : j = y
    · subst hj
      rw [hk] at e
      cases e
      rw [upd_same, rowV_set]
      congr 2
      exact rowV_congr fun i _ => by simp
    · have hb : a' ≠ a := fun z => by
        subst z
        obtain ⟨h1, e1⟩ := List.getElem?_eq_some_iff.mp e
        obtain ⟨h2, e2⟩ := List.getElem?_eq_some_iff.mp hk
        exact hj ((List.getElem_inj x.nd).mp (e1.trans e2.symm))
      rw [upd_ne hb, x.row j a' e]
      congr 2
      exact rowV_congr fun i _ => by simp [hj]
theorem GridAt.congr {g' : Pic} (x : GridAt H0 H ga as w h g) (e : ∀ i j, i < w → j < h → g i j = g' i j) : GridAt H0 H ga as w h g' :=
  ⟨x.top, x.len, x.nd, x.new, x.ne, fun y a ha => by
    have hy := (List.getElem?_eq_some_iff.mp ha).1
    rw [x.row y a ha]
    congr 2
    exact rowV_congr fun i hi => e i y hi (by rw [← x.len]; exact hy)⟩
end
section
variable {P : Program} {w : World} {K : PySem.W.Frag} {mg : Str → Option Value} {base : Heap}
def spUnlike : Sp := fun vs H Q _ => ∃ (a b : Addr) (wd ht : Nat) (g1 g2 : Pic), vs = [.ref a, .ref b] ∧ GridR H a wd ht g1 ∧ GridR H b wd ht g2 ∧ wd ≤ 100 ∧ ht ≤ 100 ∧ Q (.int (diffN wd ht g1 g2 : Nat)) H
theorem sc_l_unlike : FnScope ["_law_one", "_law_other", "_law_many", "_law_y", "_law_x"] ["_law_one", "_law_other"] (defScope (top 58)) := ⟨rfl, rfl, rfl, by decide +kernel, rfl, by decide +kernel, by decide +kernel⟩
theorem ok_l_unlike (R : Raw K mg "_law_unlike" (top 58) ["_law_one", "_law_other"]) (B : Bi mg) : Def P w K mg base 1 "_law_unlike" ["_law_one", "_law_other"] spUnlike := by
  refine R.ok sc_l_unlike (fun vs H Q E h => ?_) (fun f cdv A outer s H vs Q E hr h => ?_)
  · obtain ⟨_, _, _, _, _, _, rfl, _⟩ := h; rfl
  obtain ⟨a, b, wd, ht, g1, g2, rfl, ⟨as, ha1, ha2, ha3⟩, ⟨bs, hb1, hb2, hb3⟩, hw, hh, q⟩ := h
  refine ⟨_, (pss_cons (ps_set (i := 2) sc_l_unlike.nd rfl (.inl rfl) pe_int)
    (pss_cons (ps_for PassesOwn.never rfl (pi_range1 (by rfl) B.range (pa_cons (pe_callB (ck_len (K := K) rfl) (by rfl) B.len bo_len (pa_cons (pv 0) pa_nil)) pa_nil)) (pg_name (i := 3) sc_l_unlike.nd rfl (.inl rfl))
      (pss_one (ps_for PassesOwn.never rfl (pi_range1 (by rfl) B.range (pa_cons (pe_callB (ck_len (K := K) rfl) (by rfl) B.len bo_len (pa_cons (pe_ix (ix_sq (K := K) rfl) (pv 0) (pv 3) (fun _ _ => rfl)) pa_nil)) pa_nil)) (pg_name (i := 4) sc_l_unlike.nd rfl (.inl rfl))
        (pss_one (ps_set (i := 2) sc_l_unlike.nd rfl (.inl rfl) (pe_op op_add (pv 2) (pe_callTy cx_int (by rfl) B.int bo_int (pa_cons (pe_cmpR op_ne (pe_ix (ix_sq (K := K) rfl) (pe_ix (ix_sq (K := K) rfl) (pv 0) (pv 3) (fun _ _ => rfl)) (pv 4) (fun _ _ => rfl)) (pe_ix (ix_sq (K := K) rfl) (pe_ix (ix_sq (K := K) rfl) (pv 1) (pv 3) (fun _ _ => rfl)) (pv 4) (fun _ _ => rfl)) (nomark _)) pa_nil))))))))
    (pss_one (ps_ret (pv 2))))), ?_⟩
  walk_at "go"
  refine w_lenL ha1 ?_
  rw [List.length_map, ha2]
  refine rng1 (n := ht) (by omega) (fun y σ H' => ∃ (d3 d4 : Option V), σ = [some (.ref a), some (.ref b), some (.int (sumN y fun y => sumN wd fun x => b2 (g1 x y != g2 x y) : Nat)), d3, d4] ∧ H' = H) ⟨_, _, rfl, rfl⟩ (fun y σ H' hy hp => ?_) (fun σ H' hp => ?_)
  · obtain ⟨d3, d4, rfl, rfl⟩ := hp
    have hya : as[y]? = some (as[y]'(by omega)) := List.getElem?_eq_getElem _
    have hyb : bs[y]? = some (bs[y]'(by omega)) := List.getElem?_eq_getElem _
    have ra := ha3 y _ hya
    have rb := hb3 y _ hyb
    walk_at "go"
    refine w_ixL ha1 (by omega) (x := .ref (as[y]'(by omega))) (by rw [Int.toNat_natCast, List.getElem?_map, hya]; rfl) ?_
    walk_at "go"
    refine w_lenL ra ?_
    rw [rowV_len]
    refine rng1 (n := wd) (by omega) (fun x σ H2 => ∃ (d4 : Option V), σ = [some (.ref a), some (.ref b), some (.int ((sumN y fun y => sumN wd fun x => b2 (g1 x y != g2 x y)) + sumN x fun x => b2 (g1 x y != g2 x y) : Nat)), some (.int (y : Nat)), d4] ∧ H2 = H') ⟨_, rfl, rfl⟩ (fun x σ H2 hx hp => ?_) (fun σ H2 hp => ?_)
    · obtain ⟨d4, rfl, rfl⟩ := hp
      walk_at "go"
      refine w_ixL ha1 (by omega) (x := .ref (as[y]'(by omega))) (by rw [Int.toNat_natCast, List.getElem?_map, hya]; rfl) ?_
      walk_at "go"
      refine w_ixL ra (by omega) (by rw [Int.toNat_natCast]; exact rowV_get hx) ?_
      walk_at "go"
      refine w_ixL hb1 (by omega) (x := .ref (bs[y]'(by omega))) (by rw [Int.toNat_natCast, List.getElem?_map, hyb]; rfl) ?_
      walk_at "go"
      refine w_ixL rb (by omega) (by rw [Int.toNat_natCast]; exact rowV_get hx) ?_
      walk_at "go"
      have eb : (!decide (g1 x y = g2 x y)) = (g1 x y != g2 x y) := by cases g1 x y <;> cases g2 x y <;> rfl
      rw [eb]
      refine ⟨some (.int (x : Nat)), ?_, rfl⟩
      have e2 : ∀ n m k : Nat, ((n + m : Nat) : Int) + (k : Int) = ((n + (m + k) : Nat) : Int) := fun n m k => by omega
      rw [e2]
      rfl
    · obtain ⟨d4, rfl, rfl⟩ := hp
      exact ⟨_, _, rfl, rfl⟩
  · obtain ⟨d3, d4, rfl, rfl⟩ := hp
    walk_at "go"
    exact q
/-! ### drawn -/
def lpR (ps : List Part) (l : Rg) (x y : Nat) : Bool := match ps[l.n]? with
  | some p => leafPix p x y
  | none => false
def inR (l : Rg) (x y : Nat) : Prop := l.x ≤ x ∧ x < l.x + l.w ∧ l.y ≤ y ∧ y < l.y + l.h
instance (l : Rg) (x y : Nat) : Decidable (inR l x y) := by unfold inR; exact inferInstance
/-- a picture by absolute places, a leaf painted over it -/
def paint1 (ps : List Part) (g : Pic) (l : Rg) : Pic := fun x y => if inR l x y then lpR ps l (x - l.x) (y - l.y) else g x y
def paint (ps : List Part) (L : List Rg) (g : Pic) : Pic := L.foldl (paint1 ps) g
def Drawn (ps : List Part) (r : Rg) (row : Row) : Pic := paint ps (Leaves ps r row) fun _ _ => false
def atR (r : Rg) (g : Pic) : Pic := fun x y => g (r.x + x) (r.y + y)
theorem regs_fit {ps : List Part} {lf : Nat} (gd : GoodL ps lf) : ∀ {row : Row} {r : Rg}, Fil ps r row → ∀ q ∈ Leaves ps r row, ∃ p, ps[q.n]? = some p ∧ LeafOk p ∧ fitsB p q = true := by
  have key : ∀ {row : Row} {ac : Bool} {m : Mach} {r : Rg} {s o : Nat}, Rst ps ac m r s o row → ∀ q ∈ RegR ps row ac m r o, isLeafR ps q = true → ∃ p, ps[q.n]? = some p ∧ LeafOk p ∧ fitsB p q = true := by
    intro row
    induction row with
    | nil => intro ac m r s o h q hq; exact absurd hq (by simp [RegR])
    | cons n z i rest ih1 ih2 =>
      intro ac m r s o h q hq hl
      obtain ⟨mv, hmv, hms, hz1, hz2, hz3, hfi, hrs⟩ := rst_cons.mp h
      have epn : pnM m n = mv.p := by unfold pnM; rw [hmv]
      rw [regR_cons, epn] at hq
      rcases List.mem_append.mp hq with hq | hq
      · unfold Regs at hq
        cases e2 : ps[(piece ac r mv.p o z).n]? with
        | none =>
          obtain ⟨c, hc⟩ := hfi
          unfold FillR at hc
          rw [e2] at hc
          exact absurd hc id
        | some p =>
          rw [e2] at hq
          rcases List.mem_cons.mp hq with rfl | hq
          · refine ⟨p, e2, ?_, ?_⟩
            · refine gd.leaf _ (List.mem_of_getElem? e2) ?_
              unfold isLeafR at hl
              rw [e2] at hl
              simpa using hl
            · obtain ⟨c, hc⟩ := hfi
              unfold FillR at hc
              unfold isLeafR at hl
              rw [e2] at hc hl
              cases p with
              | strip => cases hl
              | plain => exact hc.2.1
              | shape => exact hc.2.1
          · cases p with
            | plain => cases hq
            | shape => cases hq
            | strip ac' nm' jt' e' => exact ih1 ((fil_strip e2).mp hfi) q hq hl
      · exact ih2 hrs q hq hl
  intro row r h q hq
  obtain ⟨hq, hl⟩ := List.mem_filter.mp hq
  unfold Regs at hq
  cases e2 : ps[r.n]? with
  | none =>
    obtain ⟨c, hc⟩ := h
    unfold FillR at hc
    rw [e2] at hc
    exact absurd hc id
  | some p =>
    rw [e2] at hq
    rcases List.mem_cons.mp hq with rfl | hq
    · refine ⟨p, e2, ?_, ?_⟩
      · refine gd.leaf _ (List.mem_of_getElem? e2) ?_
        unfold isLeafR at hl
        rw [e2] at hl
        simpa using hl
      · obtain ⟨c, hc⟩ := h
        unfold FillR at hc
        unfold isLeafR at hl
        rw [e2] at hc hl
        cases p with
        | strip => cases hl
        | plain => exact hc.2.1
        | shape => exact hc.2.1
    · cases p with
      | plain => cases hq
      | shape => cases hq
      | strip ac' nm' jt' e' => exact key ((fil_strip e2).mp h) q hq hl
/-- a leaf painted as far as (i, j) -/
def part1 (ps : List Part) (g : Pic) (l : Rg) (i j : Nat) : Pic := fun x y => if inR l x y ∧ (y - l.y < i ∨ (y - l.y = i ∧ x - l.x < j)) then lpR ps l (x - l.x) (y - l.y) else g x y
theorem part1_row {ps : List Part} {g : Pic} {l : Rg} {i : Nat} : part1 ps g l i l.w = part1 ps g l (i + 1) 0 := by
  funext x y
  unfold part1 inR
  by_cases h : (l.x ≤ x ∧ x < l.x + l.w ∧ l.y ≤ y ∧ y < l.y + l.h) ∧ (y - l.y < i ∨ (y - l.y = i ∧ x - l.x < l.w))
  · rw [if_pos h, if_pos (by omega)]
  · rw [if_neg h, if_neg (by omega)]
theorem part1_end {ps : List Part} {g : Pic} {l : Rg} : part1 ps g l l.h 0 = paint1 ps g l := by
  funext x y
  unfold part1 paint1
  by_cases h : inR l x y
  · have h' := h
    unfold inR at h'
    rw [if_pos h, if_pos ⟨h, by omega⟩]
  · rw [if_neg h, if_neg (fun z => h z.1)]
theorem part1_zero {ps : List Part} {g : Pic} {l : Rg} : part1 ps g l 0 0 = g := by
  funext x y
  unfold part1
  rw [if_neg (by omega)]
theorem part1_set {ps : List Part} {g : Pic} {l r : Rg} {np i j : Nat} {H0 H : Hp} {ga a : Addr} {as : List Addr} {b : Bool} (hin : InR np r l) (hi : i < l.h) (hj : j < l.w) (hb : b = lpR ps l j i) (x : GridAt H0 H ga as r.w r.h (atR r (part1 ps g l i j))) (ha : as[l.y - r.y + i]? = some a) :
    GridAt H0 (upd H a (.lst ((rowV r.w fun x => atR r (part1 ps g l i j) x (l.y - r.y + i)).set (l.x - r.x + j) (.bl b)))) ga as r.w r.h (atR r (part1 ps g l i (j + 1))) := by
  refine (x.set ha).congr fun X Y hX hY => ?_
  obtain ⟨a1, a2, a3, a4, a5⟩ := hin
  unfold atR part1 inR
  by_cases h : X = l.x - r.x + j ∧ Y = l.y - r.y + i
  · rw [if_pos h, if_pos (by omega), hb]
    congr 1 <;> omega
  · rw [if_neg h]
    by_cases h2 : (l.x ≤ r.x + X ∧ r.x + X < l.x + l.w ∧ l.y ≤ r.y + Y ∧ r.y + Y < l.y + l.h) ∧ (r.y + Y - l.y < i ∨ (r.y + Y - l.y = i ∧ r.x + X - l.x < j))
    · rw [if_pos h2, if_pos (by omega)]
    · rw [if_neg h2, if_neg (by omega)]
def spDrawn : Sp := fun vs H Q _ => ∃ (v0 v1 v2 v3 : V) (ps : List Part) (lf : Nat) (r : Rg) (row : Row), vs = [v0, v1, v2, v3] ∧ Rep H (partsD ps) v0 ∧ Rep H (waysD ps) v1 ∧ Rep H (encRg r) v2 ∧ Rep H (encRow row) v3 ∧ GoodL ps lf ∧ r.n < ps.length ∧ r.w ≤ 6 ∧ r.h ≤ 6 ∧ Fil ps r row ∧
  ∀ (ga : Addr) (as : List Addr) (H' : Hp), Gr S0 H H' → H ga = none → GridAt H H' ga as r.w r.h (atR r (Drawn ps r row)) → Q (.ref ga) H'
theorem sc_l_drawn : FnScope ["_law_parts_here", "_law_ways", "_law_region", "_law_reading", "_law_y", "_law_x", "_law_rows", "_law_leaf_here", "_law_part", "_law_black_here"] ["_law_parts_here", "_law_ways", "_law_region", "_law_reading"] (defScope (top 56)) := ⟨rfl, rfl, rfl, by decide +kernel, rfl, by decide +kernel, by decide +kernel⟩
theorem ok_l_drawn (R : Raw K mg "_law_drawn" (top 56) ["_law_parts_here", "_law_ways", "_law_region", "_law_reading"]) (B : Bi mg) (D_l_regions : Def P w K mg base 5 "_law_regions" ["_law_parts_here", "_law_ways", "_law_region", "_law_reading"] (spRegions 3)) (D_l_leaves : Def P w K mg base 5 "_law_leaves" ["_law_parts_here", "_law_found"] spLeaves) : Def P w K mg base 6 "_law_drawn" ["_law_parts_here", "_law_ways", "_law_region", "_law_reading"] spDrawn := by
  refine R.ok sc_l_drawn (fun vs H Q E h => ?_) (fun f cdv A outer s H vs Q E hr h => ?_)
  · obtain ⟨_, _, _, _, _, _, _, _, rfl, _⟩ := h; rfl
  obtain ⟨v0, v1, v2, v3, ps, lf, r, row, rfl, h0, h1, h2, h3, gd, hn, hrw, hrh, hf, q⟩ := h
  refine ⟨_, (pss_cons (ps_setLc (i := 6) (own := [("_law_y", 4)]) (g := gName 4) rfl sc_l_drawn.nd rfl rfl (sw_true rfl rfl rfl (by decide +kernel)) (pi_range1 (by rfl) B.range (pa_cons (pe_ix (ix_sq (K := K) rfl) (pv 2) pe_int (fun _ _ => rfl)) pa_nil)) (blkOk_by (N := ["_law_parts_here", "_law_ways", "_law_region", "_law_reading", "_law_y", "_law_x", "_law_rows", "_law_leaf_here", "_law_part", "_law_black_here"]) (sc := defScope (top 56)) (by decide +kernel)) (fun _ _ _ _ _ => pg_name (i := 4) sc_l_drawn.nd rfl (.inl rfl)) (fun _ _ _ _ _ => pts_nil) (fun _ _ _ _ _ => (pe_lc (own := [("_law_x", 5)]) (g := gName 5) rfl sc_l_drawn.nd (pi_range1 (by rfl) B.range (pa_cons (pe_ix (ix_sq (K := K) rfl) (pv 2) pe_int (fun _ _ => rfl)) pa_nil)) (blkOk_by (N := ["_law_parts_here", "_law_ways", "_law_region", "_law_reading", "_law_y", "_law_x", "_law_rows", "_law_leaf_here", "_law_part", "_law_black_here"]) (by rfl)) (fun _ _ _ _ _ => pg_name (i := 5) sc_l_drawn.nd rfl (.inl rfl)) (fun _ _ _ _ _ => pts_nil) (fun _ _ _ _ _ => pe_bl))))
    (pss_cons (ps_for PassesOwn.never rfl (pi_list (pe_d D_l_leaves hr (by rfl) (pa_cons (pv 0) (pa_cons (pe_d D_l_regions hr (by rfl) (pa_cons (pv 0) (pa_cons (pv 1) (pa_cons (pv 2) (pa_cons (pv 3) pa_nil))))) pa_nil)))) (pg_name (i := 7) sc_l_drawn.nd rfl (.inl rfl))
      (pss_cons (ps_set (i := 8) sc_l_drawn.nd rfl (.inl rfl) (pe_ix (ix_sq (K := K) rfl) (pv 0) (pe_ix (ix_sq (K := K) rfl) (pv 7) pe_int (fun _ _ => rfl)) (fun _ _ => rfl)))
      (pss_one (ps_for PassesOwn.never rfl (pi_range1 (by rfl) B.range (pa_cons (pe_ix (ix_sq (K := K) rfl) (pv 7) pe_int (fun _ _ => rfl)) pa_nil)) (pg_name (i := 4) sc_l_drawn.nd rfl (.inl rfl))
        (pss_one (ps_for PassesOwn.never rfl (pi_range1 (by rfl) B.range (pa_cons (pe_ix (ix_sq (K := K) rfl) (pv 7) pe_int (fun _ _ => rfl)) pa_nil)) (pg_name (i := 5) sc_l_drawn.nd rfl (.inl rfl))
          (pss_cons (ps_set (i := 9) sc_l_drawn.nd rfl (.inl rfl) (pe_ix (ix_sq (K := K) rfl) (pv 8) pe_int (fun _ _ => rfl)))
          (pss_cons (ps_if (pt_cmpR op_eq (pe_ix (ix_sq (K := K) rfl) (pv 8) pe_int (fun _ _ => rfl)) pe_str (nomark _))
            (pss_one (ps_set (i := 9) sc_l_drawn.nd rfl (.inl rfl) (pe_cmpR op_eq (pe_ix (ix_sq (K := K) rfl) (pe_ix (ix_sq (K := K) rfl) (pe_ix (ix_sq (K := K) rfl) (pv 8) pe_int (fun _ _ => rfl)) (pv 4) (fun _ _ => rfl)) (pv 5) (fun _ _ => rfl)) pe_str (nomark _))))
            pss_nil)
          (pss_one (ps_asg (pv 9) (pg_sub (pe_ix (ix_sq (K := K) rfl) (pv 6) (pe_op op_add (pe_op op_sub (pe_ix (ix_sq (K := K) rfl) (pv 7) pe_int (fun _ _ => rfl)) (pe_ix (ix_sq (K := K) rfl) (pv 2) pe_int (fun _ _ => rfl))) (pv 4)) (fun _ _ => rfl)) (pe_op op_add (pe_op op_sub (pe_ix (ix_sq (K := K) rfl) (pv 7) pe_int (fun _ _ => rfl)) (pe_ix (ix_sq (K := K) rfl) (pv 2) pe_int (fun _ _ => rfl))) (pv 5)) set_list)))))))))))
    (pss_one (ps_ret (pv 6))))), ?_⟩
  have htwo := gd.two
  have h2' := h2
  change Rep H (.tuple [.int r.n, .int r.x, .int r.y, .int r.w, .int r.h]) v2 at h2'
  walk_at "go"
  refine lcR1 (n := r.h) rfl (by omega) (fun D i H' => Gr S0 H H' ∧ ∃ as, GridAt H H' D as r.w i (fun _ _ => false)) (fun D hD => ⟨Gr.new hD, [], upd_same, rfl, List.nodup_nil, by simp, by simp, by simp⟩) (fun D i H1 hD hi hp => ?_) (fun D H1 hD hp => ?_)
  · obtain ⟨g, as, ga⟩ := hp
    have h21 := h2'.mono g.tp
    walk_at "go"
    refine lcR1 (n := r.w) rfl (by omega) (fun E j H' => Gr S0 H1 H' ∧ H' E = some (.lst (rowV j fun _ => false))) (fun E hE => ⟨Gr.new hE, upd_same⟩) (fun E j H2 hE hj hp => ?_) (fun E H2 hE hp => ?_)
    · obtain ⟨g2, hv⟩ := hp
      walk_at "go"
      refine w_put hv (small6 (by rw [rowV_len]; omega)) ⟨g2.setL (.inl hE) hv, ?_⟩
      rw [upd_same]
      unfold rowV
      rw [List.range_succ, List.map_append]; rfl
    · obtain ⟨g2, hv⟩ := hp
      have ga2 := ga.gr g2
      have hEn : E ∉ as := fun z => by
        obtain ⟨k, hk⟩ := List.mem_iff_getElem?.mp z
        have := ga.row k E hk
        rw [this] at hE; cases hE
      have hED : D ≠ E := fun z => by subst z; rw [ga.top] at hE; cases hE
      refine w_put ga2.top (small6 (by rw [List.length_map, ga.len]; omega)) ⟨(g.trans g2).setL (.inl hD) ga2.top, as ++ [E], by rw [upd_same, List.map_append]; rfl, by rw [List.length_append, ga.len]; rfl, List.nodup_append.mpr ⟨ga.nd, by simp, fun x hx y hy e => by rw [List.mem_singleton.mp hy] at e; subst e; exact hEn hx⟩, fun a ha => ?_, fun z => ?_, fun k a hk => ?_⟩
      · rcases List.mem_append.mp ha with q1 | q1
        · exact ga.new a q1
        · rw [List.mem_singleton.mp q1]; exact g.nn E hE
      · rcases List.mem_append.mp z with q1 | q1
        · exact ga.ne q1
        · exact hED (List.mem_singleton.mp q1)
      · have hne : a ≠ D := fun z => by
          subst z
          rcases List.mem_append.mp (List.mem_of_getElem? hk) with q1 | q1
          · exact ga.ne q1
          · exact hED (List.mem_singleton.mp q1)
        rw [upd_ne hne]
        by_cases hka : k < as.length
        · rw [List.getElem?_append_left hka] at hk
          exact ga2.row k a hk
        · rw [List.getElem?_append_right (by omega)] at hk
          have : a = E := by
            have h0 : k - as.length = 0 := by
              have := (List.getElem?_eq_some_iff.mp hk).1
              simp at this; omega
            rw [h0] at hk
            simpa using hk.symm
          rw [this]; exact hv
  obtain ⟨g1, as, ga1⟩ := hp
  walk_at "go"
  refine ⟨v0, v1, v2, v3, ps, lf, r, row, rfl, h0.mono g1.tp, h1.mono g1.tp, h2.mono g1.tp, h3.mono g1.tp, gd, hn, hrw, hrh, by omega, hf, fun ra H2 g2 ran hra hral => ?_⟩
  walk_at "go"
  have hin := regs_in0 gd hn hf
  have G2 := g1.trans g2
  refine ⟨v0, ra, ps, Regs ps r row, rfl, h0.mono G2.tp, hra, fun x hx => (hin x hx).n, Nat.le_trans hral (Nat.le_trans (RB_mono (b := 3) (by omega)) (by decide)), fun la H3 g3 lan hla => ?_⟩
  obtain ⟨lvs, hl, hlr⟩ := hla
  have hlm : ∀ x ∈ Leaves ps r row, InR ps.length r x := fun x hx => hin x (List.mem_filter.mp hx).1
  have hfit := regs_fit gd hf
  change RepL H3 ((Leaves ps r row).map encRg) lvs at hlr
  have G3 := G2.trans g3
  have ga3 := (ga1.gr g2).gr g3
  have hDr : Drawn ps r row = paint ps (Leaves ps r row) fun _ _ => false := rfl
  rw [hDr] at q
  generalize Leaves ps r row = LL at *
  have hll : lvs.length = LL.length := by rw [← hlr.length, List.length_map]
  have lna : la ∉ as := fun z => by
    obtain ⟨k, hk⟩ := List.mem_iff_getElem?.mp z
    have := (ga1.gr g2).row k la hk
    rw [this] at lan; cases lan
  refine forL (SqL.of hl) (fun i σ H' => ∃ (d4 d5 d7 d8 d9 : Option V), σ = [some v0, some v1, some v2, some v3, d4, d5, some (.ref D), d7, d8, d9] ∧ Gr (fun a => a ∈ as) H3 H' ∧ GridAt H H' D as r.w r.h (atR r (paint ps (LL.take i) fun _ _ => false))) ⟨_, _, _, _, _, rfl, Gr.refl _ _, ga3⟩ (fun i σ H' hp => by obtain ⟨_, _, _, _, _, _, g, _⟩ := hp; exact SqL.of (g.lst lna hl)) (fun i x σ H4 hi hp => ?_) (fun σ H4 hp => ?_)
  · obtain ⟨d4, d5, d7, d8, d9, rfl, g4, ga4⟩ := hp
    obtain ⟨d, hd, hx⟩ := LD.getI hlr hi
    obtain ⟨l, hl', rfl⟩ := map_getI hd
    have et := take_get hl'
    have hmem := List.mem_of_getElem? hl'
    have hil := hlm l hmem
    obtain ⟨p, hpn, hlo, hfp⟩ := hfit l hmem
    have epaint : paint ps (LL.take (i + 1)) (fun _ _ => false) = paint1 ps (paint ps (LL.take i) fun _ _ => false) l := by
      unfold paint
      rw [et, List.foldl_append]; rfl
    rw [epaint]
    generalize paint ps (LL.take i) (fun _ _ => false) = g0 at ga4 ⊢
    have T4 := G3.tp.trans g4.tp
    have h04 := h0.mono T4
    change Rep H4 (.tuple (ps.map encPart)) v0 at h04
    have hx4 := hx.mono g4.tp
    change Rep H4 (.tuple [.int l.n, .int l.x, .int l.y, .int l.w, .int l.h]) x at hx4
    walk_at "go"
    refine w_ix h04 (Tp.refl _) (by omega) (by rw [Int.toNat_natCast, List.getElem?_map, hpn]; rfl) (fun vp hvp => ?_)
    walk_at "go"
    refine rng1 (n := l.h) (by have := hil.y1; have := hil.y2; omega) (fun iy σ H' => ∃ (d4 d5 d9 : Option V), σ = [some v0, some v1, some v2, some v3, d4, d5, some (.ref D), some x, some vp, d9] ∧ Gr (fun a => a ∈ as) H3 H' ∧ Tp H4 H' ∧ GridAt H H' D as r.w r.h (atR r (part1 ps g0 l iy 0))) ⟨_, _, _, rfl, g4, Tp.refl _, by rw [part1_zero]; exact ga4⟩ (fun iy σ H5 hiy hp => ?_) (fun σ H5 hp => ?_)
    · obtain ⟨d4, d5, d9, rfl, g5, tp5, ga5⟩ := hp
      have hx5 := hx4.mono tp5
      walk_at "go"
      refine rng1 (n := l.w) (by have := hil.x1; have := hil.x2; omega) (fun ix σ H' => ∃ (d5 d9 : Option V), σ = [some v0, some v1, some v2, some v3, some (.int (iy : Nat)), d5, some (.ref D), some x, some vp, d9] ∧ Gr (fun a => a ∈ as) H3 H' ∧ Tp H4 H' ∧ GridAt H H' D as r.w r.h (atR r (part1 ps g0 l iy ix))) ⟨_, _, rfl, g5, tp5, ga5⟩ (fun ix σ H6 hix hp => ?_) (fun σ H6 hp => ?_)
      · obtain ⟨d5, d9, rfl, g6, tp6, ga6⟩ := hp
        have hvp6 := hvp.mono tp6
        have hx6 := hx4.mono tp6
        have h26 := h2'.mono (T4.trans tp6)
        have hyl : l.y - r.y + iy < as.length := by rw [ga6.len]; have := hil.y1; have := hil.y2; omega
        have hya : as[l.y - r.y + iy]? = some as[l.y - r.y + iy] := List.getElem?_eq_getElem hyl
        have hrow6 := ga6.row _ _ hya
        have e1 : (l.y : Int) - (r.y : Int) + (iy : Int) = ((l.y - r.y + iy : Nat) : Int) := by have := hil.y1; omega
        have e2 : (l.x : Int) - (r.x : Int) + (ix : Int) = ((l.x - r.x + ix : Nat) : Int) := by have := hil.x1; omega
        have hxl : l.x - r.x + ix < r.w := by have := hil.x1; have := hil.x2; omega
        have hset : ∀ b, b = lpR ps l ix iy → GridAt H (upd H6 as[l.y - r.y + iy] (.lst ((rowV r.w fun x => atR r (part1 ps g0 l iy ix) x (l.y - r.y + iy)).set (l.x - r.x + ix) (.bl b)))) D as r.w r.h (atR r (part1 ps g0 l iy (ix + 1))) := fun b hb => part1_set hil hiy hix hb ga6 hya
        have hlp : lpR ps l ix iy = leafPix p ix iy := by unfold lpR; rw [hpn]
        cases p with
        | strip => exact absurd hlo id
        | plain nm lb c b =>
          change Rep H6 (.tuple [.str "plain", .str nm, .str lb, .int c, .bool b]) vp at hvp6
          walk_at "go"
          refine if_of (fun h => absurd h (by decide +kernel)) (fun _ => ?_)
          walk_at "go"
          rw [e1]
          refine w_ixL ga6.top (by omega) (x := .ref as[l.y - r.y + iy]) (by rw [Int.toNat_natCast, List.getElem?_map, hya]; rfl) ?_
          walk_at "go"
          rw [e2]
          refine w_setL hrow6 (by omega) (by rw [Int.toNat_natCast, rowV_len]; exact hxl) ?_
          rw [Int.toNat_natCast]
          exact ⟨_, _, rfl, g6.setL (.inr (List.getElem_mem _)) hrow6, tp6.trans (Tp.setL hrow6), hset b hlp.symm⟩
        | shape nm lb c rows =>
          change Rep H6 (.tuple [.str "shape", .str nm, .str lb, .int c, .tuple (rows.map PyData.str)]) vp at hvp6
          have hf' := of_decide_eq_true hfp
          obtain ⟨l1, l2, wd, l3, l5, l4⟩ := hlo
          have hw : wd0 rows = wd := l4 _ (mem_getD (by omega))
          have hr' : (rows.getD iy Str.empty).length = wd := l4 _ (mem_getD (by omega))
          obtain ⟨cc, hc⟩ := str_get (z := rows.getD iy Str.empty) (x := ix) (by omega)
          walk_at "go"
          refine if_of (fun _ => ?_) (fun h => absurd h (by decide +kernel))
          walk_at "go"
          refine w_ix (by assumption) (Tp.refl _) (by omega) (by rw [Int.toNat_natCast]; exact enc_get (by omega)) (fun z hz => ?_)
          have e := Rep.strI hz; subst e
          walk_at "go"
          refine w_ixS (by omega) (by omega) (by rw [Int.toNat_natCast]; exact hc) ?_
          walk_at "go"
          rw [black_of hc, e1]
          refine w_ixL ga6.top (by omega) (x := .ref as[l.y - r.y + iy]) (by rw [Int.toNat_natCast, List.getElem?_map, hya]; rfl) ?_
          walk_at "go"
          rw [e2]
          refine w_setL hrow6 (by omega) (by rw [Int.toNat_natCast, rowV_len]; exact hxl) ?_
          rw [Int.toNat_natCast]
          exact ⟨_, _, rfl, g6.setL (.inr (List.getElem_mem _)) hrow6, tp6.trans (Tp.setL hrow6), hset _ hlp.symm⟩
      · obtain ⟨d5, d9, rfl, g6, tp6, ga6⟩ := hp
        rw [part1_row] at ga6
        exact ⟨_, _, _, rfl, g6, tp6, ga6⟩
    · obtain ⟨d4, d5, d9, rfl, g5, tp5, ga5⟩ := hp
      rw [part1_end] at ga5
      exact ⟨_, _, _, _, _, rfl, g5, ga5⟩
  · obtain ⟨d4, d5, d7, d8, d9, rfl, g4, ga4⟩ := hp
    rw [hll, List.take_length] at ga4
    walk_at "go"
    exact q D as H4 (G3.local g4 fun a z => ga1.new a z) hD ga4
end
end Sr
/-! SrX: the damaged drawing and its image. -/
namespace Sr
open PySem PySem.Spec PyProof.Rows L2
local macro_rules | `(tactic| walk_at "tp") => `(tactic| first
  | exact Tp.refl _
  | assumption
  | exact Gr.tp (by assumption)
  | (refine Tp.trans ?_ (by first | assumption | exact Gr.tp (by assumption)); walk_at "tp"))
local macro_rules | `(tactic| walk_at "gr") => `(tactic| first
  | exact Gr.refl _ _
  | assumption
  | exact Gr.any (by assumption)
  | (refine Gr.trans ?_ (by first | assumption | exact Gr.any (by assumption)); walk_at "gr"))
local macro_rules | `(tactic| walk_at "rep") => `(tactic| first
  | exact Rep.int _ | exact Rep.str _ | exact Rep.bl _ | exact Rep.non
  | assumption
  | (refine Rep.mono ?_ (by assumption); walk_at "tp"))
local macro_rules | `(tactic| walk_at "repl") => `(tactic| repeat first
  | exact RepL.nil
  | (apply RepL.cons; (· walk_at "rep")))
local macro_rules | `(tactic| walk_at "step") => `(tactic| first
  | ((with_reducible apply w_var); rfl)
  | (with_reducible apply w_c)
  | (with_reducible apply w_op)
  | (with_reducible apply w_I0)
  | ((with_reducible apply w_ix); (· assumption); (· walk_at "tp"); (· decide); (· rfl); (intro x hx; first | (have e := Rep.intI hx; subst e; clear hx) | (have e := Rep.strI hx; subst e; clear hx) | (have e := Rep.blI hx; subst e; clear hx) | skip))
  | ((with_reducible apply w_ixU); (· assumption); (· walk_at "tp"); (· decide); (· rfl))
  | (with_reducible apply w_eqS)
  | (with_reducible apply w_eqI)
  | (with_reducible apply w_eqB)
  | (with_reducible apply w_neB)
  | (with_reducible apply w_test)
  | (with_reducible apply w_tB)
  | (with_reducible apply w_and)
  | (with_reducible apply w_or)
  | (with_reducible apply w_not)
  | (with_reducible apply w_nil)
  | (with_reducible apply w_cons)
  | (with_reducible apply w_CB)
  | (with_reducible apply w_call)
  | (with_reducible apply w_seq)
  | (with_reducible apply w_asg)
  | (with_reducible apply w_gname)
  | (with_reducible apply w_drop)
  | (with_reducible apply w_ret)
  | (with_reducible apply w_ifS)
  | (with_reducible apply w_next)
  | (with_reducible apply w_ifE)
  | (with_reducible apply w_andV)
  | (with_reducible apply w_orV)
  | (with_reducible apply w_notV)
  | (with_reducible apply w_tupE)
  | (with_reducible apply w_lstE)
  | (with_reducible apply w_bl)
  | ((with_reducible apply w_aug); rfl)
  | (with_reducible apply w_ip)
  | (with_reducible apply w_for1)
  | (with_reducible apply w_for2)
  | (with_reducible apply w_forT)
  | (with_reducible apply w_forL)
  | ((with_reducible apply w_lenD); (· assumption); (· walk_at "tp"))
  | (with_reducible apply w_min)
  | (with_reducible apply w_intI)
  | (with_reducible apply w_intB)
  | ((with_reducible apply w_I); (· first | decide | exact (by decide : (1000 : Int) ≠ 0) | exact ⟨by decide, by decide⟩ | exact ⟨by decide, by decide, by decide⟩ | exact .inr ⟨by decide, by decide⟩ | exact .inl ⟨by decide, by decide⟩))
  | (with_reducible apply w_bm)
  | (with_reducible apply w_bm0)
  | ((with_reducible apply w_tyL); (· assumption))
  | (with_reducible apply w_gsub)
  | (with_reducible apply w_fld)
  | (with_reducible apply w_gcons)
  | (with_reducible apply w_gnil)
  | ((with_reducible apply w_gtup); (· assumption); (· walk_at "tp"); (· rfl))
  | (with_reducible apply w_meth)
  | (with_reducible apply w_lc1)
  | (with_reducible apply w_lcL)
  | (with_reducible apply w_lcT)
  | (with_reducible apply w_yes)
  | (with_reducible apply w_m1)
  | (with_reducible apply w_dnotin)
  | (with_reducible apply w_din)
  | (with_reducible apply w_dget)
  | (with_reducible apply w_dput)
  | ((with_reducible apply w_ixL); (· assumption); (· decide); (· rfl)))
local macro_rules | `(tactic| walk_at "go") => `(tactic| repeat walk_at "step")
local macro_rules | `(tactic| walk_at "set") => `(tactic| dsimp only [List.set_cons_succ, List.set_cons_zero])

def rHash2 : R2 := fun x y H Q => x = .str "#" ∧ y = .int 2 ∧ Q (.str (Txt.mul "#" 2)) H
theorem op_hash2 {X : Cx} : OpR X (binaryOp .Mult) rHash2 := by
  intro pins s σ H x y v u Q I rx ry h
  obtain ⟨rfl, rfl, q⟩ := h
  obtain ⟨t, rfl⟩ := rx
  obtain ⟨t', rfl⟩ := ry
  exact SB.mul ⟨by decide +kernel, fun _ _ => by decide +kernel, fun _ _ => by decide +kernel⟩ fun t' k => ⟨.str (Txt.mul "#" 2), H, I.tok _, ⟨_, rfl⟩, q⟩
theorem hash2_cps : (Txt.mul "#" 2).cps.toList = [35, 35] := by decide +kernel
def rCatSt : R2 := fun x y H Q => ∃ i j, x = .str i ∧ y = .str j ∧ i.length + j.length ≤ sizeLine ∧ Q (.str (i ++ j)) H
theorem op_catS {X : Cx} : OpR X (binaryOp .Add) rCatSt := op_add_str
def rSlS : V → Option Int → Option Int → Hp → VK → Prop := C8.rSlX
theorem sl_txtS {X : Cx} : SlR X rSlS := C8.sl_txt
section
variable {K : PySem.W.Frag} {σ : L2.St} {H H0 : Hp} {Q : VK} {x y v : V} {te : TE} {tl th : TO}
theorem w_sl {r : V → Option Int → Option Int → Hp → VK → Prop} (q : te σ H fun x H1 => tl σ H1 fun l H2 => th σ H2 fun u H3 => r x l u H3 Q) : tSl r te tl th σ H Q := q
theorem w_nopart {R : Option Int → Hp → Prop} (q : R none H) : tNoPart σ H R := q
theorem w_part {R : Option Int → Hp → Prop} (q : te σ H fun x H1 => ∃ i, x = .int i ∧ R (some i) H1) : tPart te σ H R := q
theorem str_app_cps (a b : Str) : (a ++ b).cps.toList = a.cps.toList ++ b.cps.toList := by
  show (a.cps ++ b.cps).toList = _
  exact Array.toList_append
theorem str_len_cps (a : Str) : a.length = a.cps.toList.length := by
  show a.cps.size = _
  rw [Array.length_toList]
theorem w_catS {i j : Str} (h : i.length + j.length ≤ 1000) (q : ∀ z : Str, z.cps.toList = i.cps.toList ++ j.cps.toList → Q (.str z) H) : rCatSt (.str i) (.str j) H Q := ⟨i, j, rfl, rfl, Nat.le_of_lt (small1000 h), q _ (str_app_cps i j)⟩
theorem w_slS {z : Str} {n : Nat} (h : z.length ≤ 1000) (hn : n ≤ z.length) (q : ∀ y : Str, y.cps.toList = z.cps.toList.take n → Q (.str y) H) : rSlS (.str z) none (some (n : Nat)) H Q := by
  refine ⟨z, rfl, Nat.le_of_lt (small1000 h), q _ ?_⟩
  have e := slice_closes_to (x := z) (j := (n : Nat)) ⟨by omega, by rw [← str_len_cps]; omega⟩
  have e2 := eq_of_beq e
  rw [e2]
  simp
end
def cellC (b : Bool) : Nat := if b then 35 else 46
section
variable {P : Program} {w : World} {K : PySem.W.Frag} {mg : Str → Option Value} {base : Heap}
def spDamaged : Sp := fun vs H Q _ => ∃ (b bl : Addr) (ds : List Int) (ga : Addr) (v2 : V) (r : Rg) (g : Pic), vs = [.ref b, .ref ga, v2] ∧ Bx H b bl ds ∧ GridR H ga r.w r.h g ∧ Rep H (encRg r) v2 ∧ 1 ≤ r.w ∧ r.w ≤ 6 ∧ 1 ≤ r.h ∧ r.h ≤ 6 ∧ r.x ≤ 100 ∧ r.y ≤ 100 ∧
  ∀ (ra fa : Addr) (vi : V) (H' : Hp) (img : List Str) (g' : Pic), Gr (S1 b) H H' → Bx H' b bl ds → H' ra = some (.lst [.ref fa, vi]) → GridR H' fa r.w r.h g' → Rep H' (.tuple (img.map PyData.str)) vi → ImgOk img → (∀ x y, x < r.w → y < r.h → pix img (r.x + x) (r.y + y) = g' x y) → Q (.ref ra) H'
theorem sc_l_damaged : FnScope ["_law_box", "_law_rows", "_law_region", "_law_row", "_law_found", "_law_turn", "_law_y", "_law_x", "_law_image", "_law_black_here"] ["_law_box", "_law_rows", "_law_region"] (defScope (top 59)) := ⟨rfl, rfl, rfl, by decide +kernel, rfl, by decide +kernel, by decide +kernel⟩
theorem ok_l_damaged (R : Raw K mg "_law_damaged" (top 59) ["_law_box", "_law_rows", "_law_region"]) (B : Bi mg) (D_l_draw : Def P w K mg base 1 "_law_draw" ["_law_box", "_law_many"] spDraw) : Def P w K mg base 2 "_law_damaged" ["_law_box", "_law_rows", "_law_region"] spDamaged := by
  refine R.ok sc_l_damaged (fun vs H Q E h => ?_) (fun f cdv A outer s H vs Q E hr h => ?_)
  · obtain ⟨_, _, _, _, _, _, _, rfl, _⟩ := h; rfl
  obtain ⟨b, bl, ds, ga, v2, r, g, rfl, hb, ⟨gs, hg1, hg2, hg3⟩, h2, hw1, hw6, hh1, hh6, hx, hy, q⟩ := h
  refine ⟨_, (pss_cons (ps_setLc (i := 4) (own := [("_law_row", 3)]) (g := gName 3) rfl sc_l_damaged.nd rfl rfl (sw_true rfl rfl rfl (by decide +kernel)) (pi_list (pv 1)) (blkOk_by (N := ["_law_box", "_law_rows", "_law_region", "_law_row", "_law_found", "_law_turn", "_law_y", "_law_x", "_law_image", "_law_black_here"]) (sc := defScope (top 59)) (by decide +kernel)) (fun _ _ _ _ _ => pg_name (i := 3) sc_l_damaged.nd rfl (.inl rfl)) (fun _ _ _ _ _ => pts_nil) (fun _ _ _ _ _ => (pe_callTy (ck_list (K := K) rfl) (by rfl) B.list bo_list (pa_cons (pv 3) pa_nil))))
    (pss_cons (ps_for PassesOwn.never rfl (pi_range1 (by rfl) B.range (pa_cons (pe_d D_l_draw hr (by rfl) (pa_cons (pv 0) (pa_cons pe_int pa_nil))) pa_nil)) (pg_name (i := 5) sc_l_damaged.nd rfl (.inl rfl))
      (pss_cons (ps_set (i := 6) sc_l_damaged.nd rfl (.inl rfl) (pe_op op_modN (pe_callTy cx_int (by rfl) B.int bo_int (pa_cons (pe_d D_l_draw hr (by rfl) (pa_cons (pv 0) (pa_cons pe_int pa_nil))) pa_nil)) (pe_ix (ix_sq (K := K) rfl) (pv 2) pe_int (fun _ _ => rfl))))
      (pss_cons (ps_set (i := 7) sc_l_damaged.nd rfl (.inl rfl) (pe_op op_modN (pe_callTy cx_int (by rfl) B.int bo_int (pa_cons (pe_d D_l_draw hr (by rfl) (pa_cons (pv 0) (pa_cons pe_int pa_nil))) pa_nil)) (pe_ix (ix_sq (K := K) rfl) (pv 2) pe_int (fun _ _ => rfl))))
      (pss_one (ps_asg (pe_not (pe_ix (ix_sq (K := K) rfl) (pe_ix (ix_sq (K := K) rfl) (pv 4) (pv 6) (fun _ _ => rfl)) (pv 7) (fun _ _ => rfl))) (pg_sub (pe_ix (ix_sq (K := K) rfl) (pv 4) (pv 6) (fun _ _ => rfl)) (pv 7) set_list))))))
    (pss_cons (ps_set (i := 8) sc_l_damaged.nd rfl (.inl rfl) (pe_lst pa_nil))
    (pss_cons (ps_for PassesOwn.never rfl (pi_range1 (by rfl) B.range (pa_cons (pe_op op_add (pe_op op_add (pe_ix (ix_sq (K := K) rfl) (pv 2) pe_int (fun _ _ => rfl)) (pe_ix (ix_sq (K := K) rfl) (pv 2) pe_int (fun _ _ => rfl))) (pe_d D_l_draw hr (by rfl) (pa_cons (pv 0) (pa_cons pe_int pa_nil)))) pa_nil)) (pg_name (i := 6) sc_l_damaged.nd rfl (.inl rfl))
      (pss_cons (ps_set (i := 3) sc_l_damaged.nd rfl (.inl rfl) (pe_joinX pe_str (pe_lc (own := [("_law_x", 7)]) (g := gName 7) rfl sc_l_damaged.nd (pi_range1 (by rfl) B.range (pa_cons (pe_op op_add (pe_ix (ix_sq (K := K) rfl) (pv 2) pe_int (fun _ _ => rfl)) (pe_ix (ix_sq (K := K) rfl) (pv 2) pe_int (fun _ _ => rfl))) pa_nil)) (blkOk_by (N := ["_law_box", "_law_rows", "_law_region", "_law_row", "_law_found", "_law_turn", "_law_y", "_law_x", "_law_image", "_law_black_here"]) (sc := defScope (top 59)) (by decide +kernel)) (fun _ _ _ _ _ => pg_name (i := 7) sc_l_damaged.nd rfl (.inl rfl)) (fun _ _ _ _ _ => pts_nil) (fun _ _ _ _ _ => (pe_ix (ix_sq (K := K) rfl) pe_str (pe_d D_l_draw hr (by rfl) (pa_cons (pv 0) (pa_cons pe_int pa_nil))) (fun _ _ => rfl))))))
      (pss_cons (ps_if (PW.pt (pw_and (pt_cmpR op_le (pe_ix (ix_sq (K := K) rfl) (pv 2) pe_int (fun _ _ => rfl)) (pv 6) (nomark _)) (pw_and1 (pt_cmpR op_lt (pv 6) (pe_op op_add (pe_ix (ix_sq (K := K) rfl) (pv 2) pe_int (fun _ _ => rfl)) (pe_ix (ix_sq (K := K) rfl) (pv 2) pe_int (fun _ _ => rfl))) (nomark _)))))
        (pss_one (ps_set (i := 3) sc_l_damaged.nd rfl (.inl rfl) (pe_op op_catS (pe_slice sl_txtS (pv 3) po_none (po_some (pe_ix (ix_sq (K := K) rfl) (pv 2) pe_int (fun _ _ => rfl)))) (pe_joinX pe_str (pe_lc (own := [("_law_black_here", 9)]) (g := gName 9) rfl sc_l_damaged.nd (pi_list (pe_ix (ix_sq (K := K) rfl) (pv 4) (pe_op op_sub (pv 6) (pe_ix (ix_sq (K := K) rfl) (pv 2) pe_int (fun _ _ => rfl))) (fun _ _ => rfl))) (blkOk_by (N := ["_law_box", "_law_rows", "_law_region", "_law_row", "_law_found", "_law_turn", "_law_y", "_law_x", "_law_image", "_law_black_here"]) (sc := defScope (top 59)) (by decide +kernel)) (fun _ _ _ _ _ => pg_name (i := 9) sc_l_damaged.nd rfl (.inl rfl)) (fun _ _ _ _ _ => pts_nil) (fun _ _ _ _ _ => (pe_ix (ix_sq (K := K) rfl) pe_str (pe_callTy cx_int (by rfl) B.int bo_int (pa_cons (pv 9) pa_nil)) (fun _ _ => rfl))))))))
        pss_nil)
      (pss_one (ps_expr (pe_bm PySem.F.plainAttrs_list PySem.F.slot_list_append PySem.F.type_list_append mt_append (pv 8) (pa_cons (pe_op op_catS (pv 3) (pe_op op_hash2 pe_str pe_int)) pa_nil)))))))
    (pss_one (ps_ret (pe_lst (pa_cons (pv 4) (pa_cons (pe_callTy (ck_tup (K := K) rfl) (by rfl) B.tuple bo_tuple (pa_cons (pv 8) pa_nil)) pa_nil))))))))), ?_⟩
  change Rep H (.tuple [.int r.n, .int r.x, .int r.y, .int r.w, .int r.h]) v2 at h2
  walk_at "go"
  refine lcRL (xs := gs.map V.ref) rfl (SqL.of hg1) (fun D i H' => Gr S0 H H' ∧ ∃ as, GridAt H H' D as r.w i g) (fun D hD => ⟨Gr.new hD, [], upd_same, rfl, List.nodup_nil, by simp, by simp, by simp⟩) (fun D i H' hD hp => SqL.of (hp.1.lst id hg1)) (fun D i x H1 hD hi hp => ?_) (fun D H1 hD hp => ?_)
  · obtain ⟨g1, as, ga1⟩ := hp
    have hil : i < gs.length := by
      have := (List.getElem?_eq_some_iff.mp hi).1
      rwa [List.length_map] at this
    have hgi : gs[i]? = some gs[i] := List.getElem?_eq_getElem hil
    have ex : x = .ref gs[i] := by
      rw [List.getElem?_map, hgi] at hi
      cases hi; rfl
    subst ex
    have hrow := g1.lst id (hg3 i _ hgi)
    walk_at "go"
    refine if_of (fun _ => ?_) (fun h => absurd h (by decide))
    walk_at "go"
    refine w_listOf hrow fun E H2 hE hv g2 => ?_
    have ga2 := ga1.gr g2
    have hEn : E ∉ as := fun z => by
      obtain ⟨k, hk⟩ := List.mem_iff_getElem?.mp z
      have := ga1.row k E hk
      rw [this] at hE; cases hE
    have hED : D ≠ E := fun z => by subst z; rw [ga1.top] at hE; cases hE
    refine w_put ga2.top (small6 (by rw [List.length_map, ga1.len]; omega)) ⟨(g1.trans g2).setL (.inl hD) ga2.top, as ++ [E], by rw [upd_same, List.map_append]; rfl, by rw [List.length_append, ga1.len]; rfl, List.nodup_append.mpr ⟨ga1.nd, by simp, fun x hx y hy e => by rw [List.mem_singleton.mp hy] at e; subst e; exact hEn hx⟩, fun a ha => ?_, fun z => ?_, fun k a hk => ?_⟩
    · rcases List.mem_append.mp ha with q1 | q1
      · exact ga1.new a q1
      · rw [List.mem_singleton.mp q1]; exact g1.nn E hE
    · rcases List.mem_append.mp z with q1 | q1
      · exact ga1.ne q1
      · exact hED (List.mem_singleton.mp q1)
    · have hne : a ≠ D := fun z => by
        subst z
        rcases List.mem_append.mp (List.mem_of_getElem? hk) with q1 | q1
        · exact ga1.ne q1
        · exact hED (List.mem_singleton.mp q1)
      rw [upd_ne hne]
      by_cases hka : k < as.length
      · rw [List.getElem?_append_left hka] at hk
        exact ga2.row k a hk
      · rw [List.getElem?_append_right (by omega)] at hk
        have h0 : k - as.length = 0 := by
          have := (List.getElem?_eq_some_iff.mp hk).1
          simp at this; omega
        have : a = E := by
          rw [h0] at hk
          simpa using hk.symm
        have hki : k = i := by rw [ga1.len] at h0 hka; have := (List.getElem?_eq_some_iff.mp hk).1; omega
        rw [this, hki]; exact hv
  obtain ⟨g1, as, ga1⟩ := hp
  rw [List.length_map, hg2] at ga1
  have hb1 := hb.gr g1
  walk_at "go"
  refine ⟨b, bl, ds, 5, rfl, by decide, hb1, fun nt H2 hnt g2 hb2 => ?_⟩
  have asb : ∀ a ∈ as, a ≠ b := fun a ha => hb.ne (ga1.new a ha)
  have ga2 : GridAt H H2 D as r.w r.h g := ⟨g2.lst (hb.ne hD) ga1.top, ga1.len, ga1.nd, ga1.new, ga1.ne, fun y a e => g2.lst (asb a (List.mem_of_getElem? e)) (ga1.row y a e)⟩
  have GG : ∀ {H' : Hp}, Gr (fun a => a = b ∨ a ∈ as) H1 H' → Gr (S1 b) H H' := fun {H'} g => by
    refine ⟨fun a o hs ho h => g.st a o (fun z => z.elim hs (fun z => ?_)) ho (g1.st a o id ho h), g1.tp.trans g.tp, fun a h => g.tb a (g1.tb a h), fun a h => g1.nn a (g.nn a h)⟩
    rw [ga1.new a z] at h
    cases h
  walk_at "go"
  refine rng1 (n := nt) (by omega) (fun i σ H' => ∃ (d3 d5 d6 d7 d8 d9 : Option V) (g' : Pic), σ = [some (.ref b), some (.ref ga), some v2, d3, some (.ref D), d5, d6, d7, d8, d9] ∧ Gr (fun a => a = b ∨ a ∈ as) H1 H' ∧ Bx H' b bl ds ∧ GridAt H H' D as r.w r.h g') ⟨_, _, _, _, _, _, g, rfl, g2.mono fun a z => .inl z, hb2, ga2⟩ (fun i σ H3 hi hp => ?_) (fun σ H3 hp => ?_)
  · obtain ⟨d3, d5, d6, d7, d8, d9, g', rfl, g3, hb3, ga3⟩ := hp
    walk_at "go"
    refine ⟨b, bl, ds, 900, rfl, by decide, hb3, fun u1 H4 hu1 g4 hb4 => ?_⟩
    have h24 := h2.mono ((GG g3).tp.trans g4.tp)
    walk_at "go"
    obtain ⟨y0, hy0, ey⟩ := fmod_nat (u1 : Int) (m := r.h) (by omega)
    refine w_I (show ((r.h : Nat) : Int) ≠ 0 by omega) ?_
    rw [ey]
    walk_at "go"
    refine ⟨b, bl, ds, 900, rfl, by decide, hb4, fun u2 H5 hu2 g5 hb5 => ?_⟩
    have h25 := h24.mono g5.tp
    walk_at "go"
    obtain ⟨x0, hx0, exx⟩ := fmod_nat (u2 : Int) (m := r.w) (by omega)
    refine w_I (show ((r.w : Nat) : Int) ≠ 0 by omega) ?_
    rw [exx]
    have g45 : Gr (fun a => a = b ∨ a ∈ as) H1 H5 := g3.trans ((g4.trans g5).mono fun a z => .inl z)
    have Db : D ≠ b := hb.ne hD
    have ga5 : GridAt H H5 D as r.w r.h g' := ⟨g5.lst Db (g4.lst Db ga3.top), ga3.len, ga3.nd, ga3.new, ga3.ne, fun y a e => g5.lst (asb a (List.mem_of_getElem? e)) (g4.lst (asb a (List.mem_of_getElem? e)) (ga3.row y a e))⟩
    have hya : as[y0]? = some (as[y0]'(by rw [ga5.len]; exact hy0)) := List.getElem?_eq_getElem _
    have hrow := ga5.row _ _ hya
    have hmem : as[y0]'(by rw [ga5.len]; exact hy0) ∈ as := List.getElem_mem _
    walk_at "go"
    refine w_ixL ga5.top (by omega) (by rw [Int.toNat_natCast, List.getElem?_map, hya]; rfl) ?_
    walk_at "go"
    refine w_ixL hrow (by omega) (by rw [Int.toNat_natCast]; exact rowV_get hx0) ?_
    walk_at "go"
    refine w_ixL ga5.top (by omega) (by rw [Int.toNat_natCast, List.getElem?_map, hya]; rfl) ?_
    walk_at "go"
    refine w_setL hrow (by omega) (by rw [Int.toNat_natCast, rowV_len]; exact hx0) ?_
    rw [Int.toNat_natCast]
    exact ⟨_, _, _, _, _, _, _, rfl, g45.setL (.inr (.inr hmem)) hrow, hb5.set hb (ga1.new _ hmem), ga5.set hya⟩
  · obtain ⟨d3, d5, d6, d7, d8, d9, g', rfl, g3, hb3, ga3⟩ := hp
    walk_at "go"
    refine lst_new (Nat.zero_le _) fun il H4 iln hil g4 => ?_
    have h24 := h2.mono ((GG g3).tp.trans g4.tp)
    have ilb : il ≠ b := hb3.ne iln
    have ilD : il ≠ D := fun z => by subst z; rw [ga3.top] at iln; cases iln
    have ila : il ∉ as := fun z => by
      obtain ⟨k, hk⟩ := List.mem_iff_getElem?.mp z
      have := ga3.row k il hk
      rw [this] at iln; cases iln
    have Db : D ≠ b := hb.ne hD
    have ilnH : H il = none := (GG g3).nn _ iln
    walk_at "go"
    refine ⟨b, bl, ds, 2, rfl, by decide, hb3.gr g4, fun nk H5 hnk g5 hb5 => ?_⟩
    have ga5 : GridAt H H5 D as r.w r.h g' := ⟨g5.lst Db (g4.lst id ga3.top), ga3.len, ga3.nd, ga3.new, ga3.ne, fun y a e => g5.lst (asb a (List.mem_of_getElem? e)) (g4.lst id (ga3.row y a e))⟩
    have G5 : Gr (S1 b) H H5 := (GG g3).trans (g4.any.trans g5)
    have h25 := h24.mono g5.tp
    walk_at "go"
    have e0 : ((r.y : Nat) : Int) + (r.h : Int) + (nk : Int) = ((r.y + r.h + nk : Nat) : Int) := by omega
    rw [e0]
    refine rng1 (n := r.y + r.h + nk) (by omega) (fun i σ H' => ∃ (d3 d5 d6 d7 d9 : Option V) (rows : List Str), σ = [some (.ref b), some (.ref ga), some v2, d3, some (.ref D), d5, d6, d7, some (.ref il), d9] ∧ Gr (S1 b) H H' ∧ Bx H' b bl ds ∧ GridAt H H' D as r.w r.h g' ∧ H' il = some (.lst (rows.map V.str)) ∧ rows.length = i ∧ (∀ z ∈ rows, z.length = r.x + r.w + 2) ∧ ∀ y x, y < i → r.y ≤ y → y < r.y + r.h → x < r.w → black (rows.getD y Str.empty) (r.x + x) = g' x (y - r.y)) ⟨_, _, _, _, _, [], rfl, G5, hb5, ga5, g5.lst ilb hil, rfl, fun z hz => absurd hz (by simp), fun y x hy => absurd hy (Nat.not_lt_zero _)⟩ (fun i σ H6 hi hp => ?_) (fun σ H6 hp => ?_)
    · obtain ⟨d3, d5, d6, d7, d9, rows, rfl, g6, hb6, ga6, hil6, hrl, hrw, hrb⟩ := hp
      have h26 := h2.mono g6.tp
      walk_at "go"
      refine ⟨⟨_, rfl⟩, ?_⟩
      walk_at "go"
      have e1 : ((r.x : Nat) : Int) + (r.w : Int) = ((r.x + r.w : Nat) : Int) := by omega
      rw [e1]
      refine lcR1 (n := r.x + r.w) rfl (by omega) (fun E i H' => ∃ cs : List Nat, Gr (S1 b) H6 H' ∧ Bx H' b bl ds ∧ H' E = some (.lst ((ones cs).map V.str)) ∧ cs.length = i) (fun E hE => ⟨[], Gr.new hE, hb6.gr (Gr.new hE), upd_same, rfl⟩) (fun E j H' hE hj hp => ?_) (fun E H' hE hp => ?_)
      · obtain ⟨cl, g9, hb9, hE9, hc⟩ := hp
        walk_at "go"
        refine ⟨b, bl, ds, 2, rfl, by decide, hb9, fun v3 H10 hv3 g10 hb10 => ?_⟩
        obtain ⟨c, hc'⟩ := dotsharp v3 hv3
        refine w_ixS dotsharp_len (by omega) (by rw [Int.toNat_natCast]; exact hc') ?_
        have hE10 := g10.lst (hb6.ne hE) hE9
        refine w_put hE10 (small6 (by rw [List.length_map, ones, List.length_map]; omega)) ?_
        refine ⟨cl ++ [c], (g9.trans g10).setL (.inl hE) hE10, ?_, ?_, by rw [List.length_append, List.length_singleton]; omega⟩
        · exact hb10.set hb6 hE
        · rw [upd_same, ones, ones, List.map_append, List.map_append]; rfl
      · obtain ⟨cl, g9, hb9, hE9, hc⟩ := hp
        have g9' := g6.trans g9
        have hil9 := g9.lst ilb hil6
        have ga9 : GridAt H H' D as r.w r.h g' := ⟨g9.lst Db ga6.top, ga6.len, ga6.nd, ga6.new, ga6.ne, fun y a e => g9.lst (asb a (List.mem_of_getElem? e)) (ga6.row y a e)⟩
        have h29 := h26.mono g9.tp
        walk_at "go"
        refine w_join hE9 (by omega) fun z0 hz0 => ?_
        have hz0l : z0.length = r.x + r.w := by rw [str_len_cps, hz0, hc]
        walk_at "go"
        refine join_at (A := fun (xv : V) (H11 : Hp) => ∃ z : Str, xv = .str z ∧ z.length = r.x + r.w ∧ Gr S0 H' H11 ∧ (r.y ≤ i → i < r.y + r.h → ∀ x, x < r.w → black z (r.x + x) = g' x (i - r.y))) ?T (fun key => ?use) ?pf
        case use =>
          refine if_of (fun h => ?_) (fun h => ?_)
          · have hyi : r.y ≤ i := by have := of_decide_eq_true h; omega
            walk_at "go"
            rw [show ((r.y : Nat) : Int) + (r.h : Int) = ((r.y + r.h : Nat) : Int) by omega]
            refine if_of (fun h => ?_) (fun h => ?_)
            · have hyi2 : i < r.y + r.h := by have := of_decide_eq_true h; omega
              walk_at "go"
              refine w_sl ?_
              walk_at "go"
              refine w_nopart ?_
              refine w_part ?_
              walk_at "go"
              refine ⟨_, rfl, ?_⟩
              refine w_slS (by omega) (by omega) fun z1 hz1 => ?_
              walk_at "go"
              refine ⟨⟨_, rfl⟩, ?_⟩
              walk_at "go"
              have ey : ((i : Nat) : Int) - (r.y : Int) = ((i - r.y : Nat) : Int) := by omega
              rw [ey]
              have hya : as[i - r.y]? = some (as[i - r.y]'(by rw [ga9.len]; omega)) := List.getElem?_eq_getElem _
              have hrow := ga9.row _ _ hya
              refine w_ixL ga9.top (by omega) (by rw [Int.toNat_natCast, List.getElem?_map, hya]; rfl) ?_
              walk_at "go"
              refine lcRL (xs := rowV r.w fun x => g' x (i - r.y)) rfl (SqL.of hrow) (fun E k H2 => Gr S0 H' H2 ∧ H2 E = some (.lst ((ones ((List.range k).map fun x => cellC (g' x (i - r.y)))).map V.str))) (fun E hE => ⟨Gr.new hE, upd_same⟩) (fun E k H2 hE hp => SqL.of (hp.1.lst id hrow)) (fun E k x H2 hE hk hp => ?_) (fun E H2 hE hp => ?_)
              · obtain ⟨g2', hv⟩ := hp
                have hkl : k < r.w := by
                  have := (List.getElem?_eq_some_iff.mp hk).1
                  rwa [rowV_len] at this
                have ex : x = .bl (g' k (i - r.y)) := by
                  rw [rowV_get hkl] at hk
                  exact (Option.some.inj hk).symm
                subst ex
                walk_at "go"
                refine if_of (fun _ => ?_) (fun h => absurd h (by decide))
                walk_at "go"
                have hcell : (".#" : Str).cps.toList[Sr.b2 (g' k (i - r.y))]? = some (cellC (g' k (i - r.y))) := by
                  cases g' k (i - r.y) with
                  | true => exact (by decide +kernel : (".#" : Str).cps.toList[1]? = some 35)
                  | false => exact (by decide +kernel : (".#" : Str).cps.toList[0]? = some 46)
                refine w_ixS dotsharp_len (by omega) (by rw [Int.toNat_natCast]; exact hcell) ?_
                refine w_put hv (small6 (by rw [List.length_map, ones, List.length_map, List.length_map, List.length_range]; omega)) ⟨g2'.setL (.inl hE) hv, ?_⟩
                rw [upd_same, List.range_succ, List.map_append]
                unfold ones
                rw [List.map_append, List.map_append]; rfl
              · obtain ⟨g2', hv⟩ := hp
                rw [rowV_len] at hv
                walk_at "go"
                refine w_join hv (by rw [List.length_map, List.length_range]; omega) fun z2 hz2 => ?_
                have hz1l : z1.length = r.x := by rw [str_len_cps, hz1, List.length_take, ← str_len_cps]; omega
                have hz2l : z2.length = r.w := by rw [str_len_cps, hz2, List.length_map, List.length_range]
                refine w_catS (by omega) fun z3 hz3 => ?_
                have hil2 := g2'.lst id hil9
                walk_at "go"
                generalize hxv : V.str z3 = xv
                refine key xv H2 ⟨z3, hxv.symm, by rw [str_len_cps, hz3, List.length_append, ← str_len_cps, ← str_len_cps]; omega, g2', fun _ _ x hx => ?_⟩
                unfold black
                rw [hz3, List.getElem?_append_right (by rw [← str_len_cps]; omega), ← str_len_cps, hz1l, Nat.add_sub_cancel_left, hz2, List.getElem?_map, List.getElem?_range hx]
                show decide (some (cellC (g' x (i - r.y))) = some 35) = g' x (i - r.y)
                cases g' x (i - r.y) <;> rfl
            · walk_at "go"
              exact key _ H' ⟨z0, rfl, hz0l, Gr.refl _ _, fun h1 h2 => by have := of_decide_eq_false h; omega⟩
          · refine if_of (fun h => by cases h) (fun _ => ?_)
            walk_at "go"
            exact key _ H' ⟨z0, rfl, hz0l, Gr.refl _ _, fun h1 h2 => by have := of_decide_eq_false h; omega⟩
        case pf =>
          intro xv H11 ⟨z, hxv, hzl, g11, hzb⟩
          subst hxv
          have hil11 := g11.lst id hil9
          walk_at "go"
          refine ⟨rfl, rfl, ?_⟩
          refine w_catS (by rw [str_len_cps (Txt.mul "#" 2), hash2_cps]; show z.length + 2 ≤ 1000; omega) fun z4 hz4 => ?_
          walk_at "go"
          refine w_append hil11 (small6 (by rw [List.length_map]; omega)) ?_
          have hz4l : z4.length = r.x + r.w + 2 := by rw [str_len_cps, hz4, List.length_append, hash2_cps, ← str_len_cps, hzl]; rfl
          have ga11 := ga9.gr g11
          refine ⟨_, _, _, _, _, rows ++ [z4], rfl, (g9'.trans g11.any).setL (.inl ilnH) hil11, (hb9.gr g11).set hb ilnH, ⟨by rw [upd_ne (fun e => ilD e.symm)]; exact ga11.top, ga11.len, ga11.nd, ga11.new, ga11.ne, fun y a e => by rw [upd_ne (fun e2 => ila (by rw [← e2]; exact List.mem_of_getElem? e))]; exact ga11.row y a e⟩, by rw [upd_same, List.map_append]; rfl, by rw [List.length_append, hrl]; rfl, fun y hy => ?_, fun y x hy1 hy2 hy3 hx => ?_⟩
          · rcases List.mem_append.mp hy with hy | hy
            · exact hrw y hy
            · rw [List.mem_singleton.mp hy]; exact hz4l
          · by_cases hyi : y < i
            · rw [show (rows ++ [z4]).getD y Str.empty = rows.getD y Str.empty by rw [List.getD_eq_getElem?_getD, List.getD_eq_getElem?_getD, List.getElem?_append_left (by omega)]]
              exact hrb y x hyi hy2 hy3 hx
            · have : y = i := by omega
              subst this
              rw [show (rows ++ [z4]).getD y Str.empty = z4 by rw [List.getD_eq_getElem?_getD, List.getElem?_append_right (by omega), hrl, Nat.sub_self]; rfl]
              unfold black
              rw [hz4, List.getElem?_append_left (by rw [← str_len_cps]; omega)]
              exact hzb hy2 hy3 x hx
    · obtain ⟨d3, d5, d6, d7, d9, rows, rfl, g6, hb6, ga6, hil6, hrl, hrw, hrb⟩ := hp
      walk_at "go"
      refine w_tupOf (ds := rows.map PyData.str) hil6 (RepL.strs rows) fun vi H7 g7 hvi => ?_
      walk_at "go"
      refine lst_new (by show 2 ≤ sizeLine; decide) fun ra H8 ran hra g8 => ?_
      have hw0 : wd0 rows = r.x + r.w + 2 := hrw _ (mem_getD (by omega))
      refine q ra D vi H8 rows g' (g6.trans (g7.any.trans g8.any)) ((hb6.gr g7).gr g8) hra ((ga6.gr g7).gr g8).r (hvi.mono g8.tp) ⟨by omega, by omega, r.x + r.w + 2, by omega, hrw⟩ (fun x y hx hy => ?_)
      unfold pix
      rw [decide_eq_true (show r.y + y < rows.length by omega), decide_eq_true (show r.x + x < wd0 rows by omega), Bool.true_and, Bool.true_and, hrb (r.y + y) x (by omega) (by omega) (by omega) hx, Nat.add_sub_cancel_left]
end
end Sr
/-! SrZ: the machines of a drawn grammar. -/
namespace Sr
open PySem PySem.Spec PyProof.Rows L2
local macro_rules | `(tactic| walk_at "tp") => `(tactic| first
  | exact Tp.refl _
  | assumption
  | exact Gr.tp (by assumption)
  | (refine Tp.trans ?_ (by first | assumption | exact Gr.tp (by assumption)); walk_at "tp"))
local macro_rules | `(tactic| walk_at "gr") => `(tactic| first
  | exact Gr.refl _ _
  | assumption
  | exact Gr.any (by assumption)
  | (refine Gr.trans ?_ (by first | assumption | exact Gr.any (by assumption)); walk_at "gr"))
local macro_rules | `(tactic| walk_at "rep") => `(tactic| first
  | exact Rep.int _ | exact Rep.str _ | exact Rep.bl _ | exact Rep.non
  | assumption
  | (refine Rep.mono ?_ (by assumption); walk_at "tp"))
local macro_rules | `(tactic| walk_at "repl") => `(tactic| repeat first
  | exact RepL.nil
  | (apply RepL.cons; (· walk_at "rep")))
local macro_rules | `(tactic| walk_at "step") => `(tactic| first
  | ((with_reducible apply w_var); rfl)
  | (with_reducible apply w_c)
  | (with_reducible apply w_op)
  | (with_reducible apply w_I0)
  | ((with_reducible apply w_ix); (· assumption); (· walk_at "tp"); (· decide); (· rfl); (intro x hx; first | (have e := Rep.intI hx; subst e; clear hx) | (have e := Rep.strI hx; subst e; clear hx) | (have e := Rep.blI hx; subst e; clear hx) | skip))
  | ((with_reducible apply w_ixU); (· assumption); (· walk_at "tp"); (· decide); (· rfl))
  | (with_reducible apply w_eqS)
  | (with_reducible apply w_eqI)
  | (with_reducible apply w_eqB)
  | (with_reducible apply w_neB)
  | (with_reducible apply w_test)
  | (with_reducible apply w_tB)
  | (with_reducible apply w_and)
  | (with_reducible apply w_or)
  | (with_reducible apply w_not)
  | (with_reducible apply w_nil)
  | (with_reducible apply w_cons)
  | (with_reducible apply w_CB)
  | (with_reducible apply w_call)
  | (with_reducible apply w_seq)
  | (with_reducible apply w_asg)
  | (with_reducible apply w_gname)
  | (with_reducible apply w_drop)
  | (with_reducible apply w_ret)
  | (with_reducible apply w_ifS)
  | (with_reducible apply w_next)
  | (with_reducible apply w_ifE)
  | (with_reducible apply w_andV)
  | (with_reducible apply w_orV)
  | (with_reducible apply w_notV)
  | (with_reducible apply w_tupE)
  | (with_reducible apply w_lstE)
  | (with_reducible apply w_bl)
  | ((with_reducible apply w_aug); rfl)
  | (with_reducible apply w_ip)
  | (with_reducible apply w_for1)
  | (with_reducible apply w_for2)
  | (with_reducible apply w_forT)
  | (with_reducible apply w_forL)
  | ((with_reducible apply w_lenD); (· assumption); (· walk_at "tp"))
  | (with_reducible apply w_min)
  | (with_reducible apply w_intI)
  | (with_reducible apply w_intB)
  | ((with_reducible apply w_I); (· first | decide | exact (by decide : (1000 : Int) ≠ 0) | exact ⟨by decide, by decide⟩ | exact ⟨by decide, by decide, by decide⟩ | exact .inr ⟨by decide, by decide⟩ | exact .inl ⟨by decide, by decide⟩))
  | (with_reducible apply w_bm)
  | (with_reducible apply w_bm0)
  | ((with_reducible apply w_tyL); (· assumption))
  | (with_reducible apply w_gsub)
  | (with_reducible apply w_fld)
  | (with_reducible apply w_gcons)
  | (with_reducible apply w_gnil)
  | ((with_reducible apply w_gtup); (· assumption); (· walk_at "tp"); (· rfl))
  | (with_reducible apply w_meth)
  | (with_reducible apply w_lc1)
  | (with_reducible apply w_lcL)
  | (with_reducible apply w_lcT)
  | (with_reducible apply w_yes)
  | (with_reducible apply w_m1)
  | (with_reducible apply w_dnotin)
  | (with_reducible apply w_din)
  | (with_reducible apply w_dget)
  | (with_reducible apply w_dput)
  | ((with_reducible apply w_ixL); (· assumption); (· decide); (· rfl)))
local macro_rules | `(tactic| walk_at "go") => `(tactic| repeat walk_at "step")
local macro_rules | `(tactic| walk_at "set") => `(tactic| dsimp only [List.set_cons_succ, List.set_cons_zero])

theorem walkE_plOk {np : Nat} : ∀ {d : Nat} {e : Ex} {W : Wk}, ExOk np d e → (∀ x ∈ W.pl, ExOk np 0 x) → ∀ x ∈ (walkE e W).2.pl, ExOk np 0 x
  | d, .place p l m c, W, h, hW => fun x hx => by
    rcases List.mem_append.mp hx with q | q
    · exact hW x q
    · rw [List.mem_singleton.mp q]
      cases d <;> exact h
  | d + 1, .two sq a b, W, h, hW => fun x hx => by
    have h1 := walkE_plOk h.2 (walkE_plOk h.1 hW)
    unfold walkE at hx
    cases sq
    · exact h1 x hx
    · exact h1 x hx
  | d + 1, .rep k a, W, h, hW => fun x hx => by
    have h1 := walkE_plOk h.2 hW
    unfold walkE at hx
    by_cases hk : k < 2
    · rw [if_pos hk] at hx; exact h1 x hx
    · rw [if_neg hk] at hx; exact h1 x hx
theorem walkE_top {np : Nat} {e : Ex} (h : TopOk np e) : ∀ x ∈ (walkE e w0).2.pl, ExOk np 0 x := by
  have h0 : ∀ x ∈ w0.pl, ExOk np 0 x := fun x hx => absurd hx (by simp [w0])
  rcases h with h | ⟨k, a, rfl, hk, h⟩
  · exact walkE_plOk h h0
  · exact walkE_plOk (d := 3) (e := .rep k a) ⟨hk, h⟩ h0
theorem plM_o (o t : Nat) (e : Ex) : (plM o t e).o = o := by cases e <;> rfl
theorem plM_t (o t : Nat) (e : Ex) : (plM o t e).t = t := by cases e <;> rfl
theorem flat_len {f : Nat → List Mv} (h : ∀ o, (f o).length ≤ 8) : ∀ N, ((List.range N).flatMap f).length ≤ 8 * N
  | 0 => Nat.le_refl _
  | N + 1 => by
    rw [List.range_succ, List.flatMap_append, List.flatMap_singleton, List.length_append]
    have := flat_len h N
    have := h N
    omega
theorem flat_few {f : Nat → List Mv} (h : ∀ o, (f o).length ≤ 8) (ho : ∀ o, ∀ m ∈ f o, m.o = o) (s : Nat) : ∀ N, (((List.range N).flatMap f).filter fun m => decide (m.o = s)).length ≤ if s < N then 8 else 0
  | 0 => by simp
  | N + 1 => by
    rw [List.range_succ, List.flatMap_append, List.flatMap_singleton, List.filter_append, List.length_append]
    have ih := flat_few h ho s N
    by_cases hs : s = N
    · subst hs
      rw [if_neg (Nat.lt_irrefl _)] at ih
      rw [if_pos (Nat.lt_succ_self _)]
      have := List.length_filter_le (fun m => decide (m.o = s)) (f s)
      have := h s
      omega
    · have e : ((f N).filter fun m => decide (m.o = s)) = [] := by
        rw [List.filter_eq_nil_iff]
        intro m hm
        rw [ho N m hm]
        simpa using fun z => hs z.symm
      rw [e, List.length_nil, Nat.add_zero]
      by_cases hlt : s < N
      · rw [if_pos hlt] at ih
        rw [if_pos (by omega)]; exact ih
      · rw [if_neg hlt] at ih
        omega
theorem mach_ok {np : Nat} {e : Ex} (h : TopOk np e) : MvL (machineOf e).mvs ∧ (∀ mv ∈ (machineOf e).mvs, mv.t < (machineOf e).ends.length ∧ mv.p < np) ∧ 0 < (machineOf e).ends.length ∧ (machineOf e).ends.length ≤ 100 ∧ (∀ s, ((machineOf e).mvs.filter fun mv => decide (mv.o = s)).length ≤ 8) ∧ ∀ mv ∈ (machineOf e).mvs, mv.c ≤ 2 := by
  obtain ⟨hk, hn, hd⟩ := topOk_k h
  obtain ⟨a1, a2, a3, a4⟩ := walkE_ok e w0 w0_ok
  have hpl : (walkE e w0).2.pl.length ≤ 8 := by rw [a4]; show 0 + exN e ≤ 8; omega
  have hplo := walkE_top h
  have em : machineOf e = ⟨(dedup (keysOf (walkE e w0).1 (linkL (walkE e w0).2.fo [0] (walkE e w0).1.fi))).map (·.1), (List.range (dedup (keysOf (walkE e w0).1 (linkL (walkE e w0).2.fo [0] (walkE e w0).1.fi))).length).flatMap fun o => movesAt (walkE e w0).2.pl (keysOf (walkE e w0).1 (linkL (walkE e w0).2.fo [0] (walkE e w0).1.fi)) (dedup (keysOf (walkE e w0).1 (linkL (walkE e w0).2.fo [0] (walkE e w0).1.fi))) o ((dedup (keysOf (walkE e w0).1 (linkL (walkE e w0).2.fo [0] (walkE e w0).1.fi))).getD o (false, [])).2⟩ := rfl
  rw [em]
  clear em
  generalize walkE e w0 = r at *
  have hfo := linkL_nu a2 [0] _ a1.fo
  have hlen : (linkL r.2.fo [0] r.1.fi).length = r.2.pl.length + 1 := by rw [linkL_len, a1.len]
  generalize linkL r.2.fo [0] r.1.fi = fo at *
  have hks := keysOf_len r.1 (fo := fo) (by omega)
  have hnum := keysOf_nums (r := r.1) hfo
  have hlens := keysOf_lens (r := r.1) hfo
  have hne : keysOf r.1 fo ≠ [] := fun z => by rw [z] at hks; simp at hks; omega
  generalize keysOf r.1 fo = ks at *
  have hdm : ∀ k, k ∈ dedup ks ↔ k ∈ ks := fun k => mem_dedup
  have hdl := dedup_le ks
  have hdn : 0 < (dedup ks).length := by
    cases ks with
    | nil => exact absurd rfl hne
    | cons k r => exact List.length_pos_of_mem ((hdm k).mpr (List.mem_cons_self ..))
  generalize dedup ks = sts at *
  have hst : ∀ o, ∀ x ∈ (sts.getD o (false, [])).2, 1 ≤ x ∧ x ≤ r.2.pl.length := fun o x hx => by
    by_cases ho : o < sts.length
    · have e1 : sts.getD o (false, []) = sts[o] := by rw [List.getD_eq_getElem?_getD, List.getElem?_eq_getElem ho]; rfl
      rw [e1] at hx
      exact hnum _ ((hdm _).mp (List.getElem_mem _)) x hx
    · rw [List.getD_eq_getElem?_getD, List.getElem?_eq_none (by omega)] at hx
      exact absurd hx (by simp)
  have hstl : ∀ o, (sts.getD o (false, [])).2.length ≤ 8 := fun o => by
    by_cases ho : o < sts.length
    · have e1 : sts.getD o (false, []) = sts[o] := by rw [List.getD_eq_getElem?_getD, List.getElem?_eq_getElem ho]; rfl
      rw [e1]
      exact Nat.le_trans (hlens _ ((hdm _).mp (List.getElem_mem _))) hpl
    · rw [List.getD_eq_getElem?_getD, List.getElem?_eq_none (by omega)]
      exact Nat.zero_le _
  have hml : ∀ o, (movesAt r.2.pl ks sts o (sts.getD o (false, [])).2).length ≤ 8 := fun o => by
    unfold movesAt
    rw [List.length_map]
    exact hstl o
  have hmo : ∀ o, ∀ m ∈ movesAt r.2.pl ks sts o (sts.getD o (false, [])).2, m.o = o := fun o m hm => by
    unfold movesAt at hm
    obtain ⟨n, _, rfl⟩ := List.mem_map.mp hm
    exact plM_o ..
  have hmv : ∀ mv ∈ (List.range sts.length).flatMap fun o => movesAt r.2.pl ks sts o (sts.getD o (false, [])).2, mv.t < sts.length ∧ mv.p < np ∧ (1 ≤ mv.l ∧ mv.l ≤ mv.m ∧ mv.m ≤ 8) ∧ mv.c ≤ 2 := fun mv hm => by
    obtain ⟨o, _, hm⟩ := List.mem_flatMap.mp hm
    unfold movesAt at hm
    obtain ⟨n, hn, rfl⟩ := List.mem_map.mp hm
    obtain ⟨n1, n2⟩ := hst o n hn
    have hnk : n < ks.length := by omega
    have e1 : ks.getD n (false, []) = ks[n] := by rw [List.getD_eq_getElem?_getD, List.getElem?_eq_getElem hnk]; rfl
    have hnp : n - 1 < r.2.pl.length := by omega
    have e2 : r.2.pl.getD (n - 1) (.place 0 0 0 0) = r.2.pl[n - 1] := by rw [List.getD_eq_getElem?_getD, List.getElem?_eq_getElem hnp]; rfl
    have hpo := hplo _ (List.getElem_mem hnp)
    rw [e1, e2]
    refine ⟨by rw [plM_t]; exact List.idxOf_lt_length_of_mem ((hdm _).mpr (List.getElem_mem _)), ?_⟩
    cases ep : r.2.pl[n - 1] with
    | place p l m c =>
      rw [ep] at hpo
      exact ⟨hpo.1, ⟨hpo.2.1, hpo.2.2.1, hpo.2.2.2.1⟩, hpo.2.2.2.2⟩
    | two => rw [ep] at hpo; exact absurd hpo id
    | rep => rw [ep] at hpo; exact absurd hpo id
  have hsl : sts.length ≤ 9 := by omega
  refine ⟨⟨?_, fun m hm => (hmv m hm).2.2.1⟩, fun mv hm => ⟨by rw [List.length_map]; exact (hmv mv hm).1, (hmv mv hm).2.1⟩, by rw [List.length_map]; exact hdn, by rw [List.length_map]; omega, fun s => ?_, fun mv hm => (hmv mv hm).2.2.2⟩
  · have h8 := flat_len hml sts.length
    exact Nat.le_trans h8 (by omega)
  · refine Nat.le_trans (flat_few hml hmo s sts.length) ?_
    by_cases hs : s < sts.length
    · rw [if_pos hs]; exact Nat.le_refl _
    · rw [if_neg hs]; exact Nat.zero_le _
theorem goodL_of {ps : List Part} {lf st : Nat} (h : PsOk ps lf st) (h4 : lf ≤ 4) (h2 : st ≤ 2) : GoodL ps lf := by
  obtain ⟨p1, p2, p3⟩ := h
  have strip : ∀ (k : Nat) (ac : Bool) (nm jt : Str) (e : Ex), ps[k]? = some (.strip ac nm jt e) → lf ≤ k ∧ TopOk k e := fun k ac nm jt e hk => by
    rcases Nat.lt_or_ge k lf with hlt | hge
    · exact absurd (p2 k _ hk hlt).1 id
    · obtain ⟨ac', nm', jt', e', he, ht⟩ := p3 k _ hk hge
      cases he
      exact ⟨hge, ht⟩
  refine { len := by omega, stk := fun p hp => ?_, way := fun p hp => ?_, up := fun k p hk => ?_, ends := fun p hp => ?_, leaf := fun p hp hs => ?_, ls := fun n p hn => ?_, two := by omega, mc := fun p hp => ?_, pc := fun p hp => ?_, few := fun p hp => ?_ }
  · obtain ⟨k, hk⟩ := List.mem_iff_getElem?.mp hp
    cases p with
    | strip ac nm jt e => exact topOk_k (strip k ac nm jt e hk).2
    | plain => exact trivial
    | shape => exact trivial
  · obtain ⟨k, hk⟩ := List.mem_iff_getElem?.mp hp
    cases p with
    | strip ac nm jt e => exact (mach_ok (strip k ac nm jt e hk).2).1
    | plain => exact trivial
    | shape => exact trivial
  · cases p with
    | strip ac nm jt e => exact fun m hm => ((mach_ok (strip k ac nm jt e hk).2).2.1 m hm).2
    | plain => exact trivial
    | shape => exact trivial
  · obtain ⟨k, hk⟩ := List.mem_iff_getElem?.mp hp
    cases p with
    | strip ac nm jt e =>
      have := mach_ok (strip k ac nm jt e hk).2
      exact ⟨fun m hm => (this.2.1 m hm).1, this.2.2.1⟩
    | plain => exact trivial
    | shape => exact trivial
  · obtain ⟨k, hk⟩ := List.mem_iff_getElem?.mp hp
    rcases Nat.lt_or_ge k lf with hlt | hge
    · exact (p2 k _ hk hlt).1
    · obtain ⟨ac', nm', jt', e', he, ht⟩ := p3 k _ hk hge
      subst he
      cases hs
  · cases p with
    | strip ac nm jt e => exact ⟨fun _ => (strip n ac nm jt e hn).1, fun _ => rfl⟩
    | plain =>
      refine ⟨(fun h => by cases h), fun h => ?_⟩
      obtain ⟨_, _, _, _, he, _⟩ := p3 n _ hn h
      cases he
    | shape =>
      refine ⟨(fun h => by cases h), fun h => ?_⟩
      obtain ⟨_, _, _, _, he, _⟩ := p3 n _ hn h
      cases he
  · obtain ⟨k, hk⟩ := List.mem_iff_getElem?.mp hp
    cases p with
    | strip ac nm jt e => exact (mach_ok (strip k ac nm jt e hk).2).2.2.2.2.2
    | plain => exact trivial
    | shape => exact trivial
  · obtain ⟨k, hk⟩ := List.mem_iff_getElem?.mp hp
    rcases Nat.lt_or_ge k lf with hlt | hge
    · exact (p2 k _ hk hlt).2
    · obtain ⟨ac', nm', jt', e', he, ht⟩ := p3 k _ hk hge
      subst he
      exact Nat.zero_le _
  · obtain ⟨k, hk⟩ := List.mem_iff_getElem?.mp hp
    cases p with
    | strip ac nm jt e =>
      have := mach_ok (strip k ac nm jt e hk).2
      exact ⟨this.2.2.2.2.1, this.2.2.2.1⟩
    | plain => exact trivial
    | shape => exact trivial
end Sr
/-! SrAA: the world that the law draws. -/
namespace Sr
open PySem PySem.Spec PyProof.Rows L2
local macro_rules | `(tactic| walk_at "tp") => `(tactic| first
  | exact Tp.refl _
  | assumption
  | exact Gr.tp (by assumption)
  | (refine Tp.trans ?_ (by first | assumption | exact Gr.tp (by assumption)); walk_at "tp"))
local macro_rules | `(tactic| walk_at "gr") => `(tactic| first
  | exact Gr.refl _ _
  | assumption
  | exact Gr.any (by assumption)
  | (refine Gr.trans ?_ (by first | assumption | exact Gr.any (by assumption)); walk_at "gr"))
local macro_rules | `(tactic| walk_at "rep") => `(tactic| first
  | exact Rep.int _ | exact Rep.str _ | exact Rep.bl _ | exact Rep.non
  | assumption
  | (refine Rep.mono ?_ (by assumption); walk_at "tp"))
local macro_rules | `(tactic| walk_at "repl") => `(tactic| repeat first
  | exact RepL.nil
  | (apply RepL.cons; (· walk_at "rep")))
local macro_rules | `(tactic| walk_at "step") => `(tactic| first
  | ((with_reducible apply w_var); rfl)
  | (with_reducible apply w_c)
  | (with_reducible apply w_op)
  | (with_reducible apply w_I0)
  | ((with_reducible apply w_ix); (· assumption); (· walk_at "tp"); (· decide); (· rfl); (intro x hx; first | (have e := Rep.intI hx; subst e; clear hx) | (have e := Rep.strI hx; subst e; clear hx) | (have e := Rep.blI hx; subst e; clear hx) | skip))
  | ((with_reducible apply w_ixU); (· assumption); (· walk_at "tp"); (· decide); (· rfl))
  | (with_reducible apply w_eqS)
  | (with_reducible apply w_eqI)
  | (with_reducible apply w_eqB)
  | (with_reducible apply w_neB)
  | (with_reducible apply w_test)
  | (with_reducible apply w_tB)
  | (with_reducible apply w_and)
  | (with_reducible apply w_or)
  | (with_reducible apply w_not)
  | (with_reducible apply w_nil)
  | (with_reducible apply w_cons)
  | (with_reducible apply w_CB)
  | (with_reducible apply w_call)
  | (with_reducible apply w_seq)
  | (with_reducible apply w_asg)
  | (with_reducible apply w_gname)
  | (with_reducible apply w_drop)
  | (with_reducible apply w_ret)
  | (with_reducible apply w_ifS)
  | (with_reducible apply w_next)
  | (with_reducible apply w_ifE)
  | (with_reducible apply w_andV)
  | (with_reducible apply w_orV)
  | (with_reducible apply w_notV)
  | (with_reducible apply w_tupE)
  | (with_reducible apply w_lstE)
  | (with_reducible apply w_bl)
  | ((with_reducible apply w_aug); rfl)
  | (with_reducible apply w_ip)
  | (with_reducible apply w_for1)
  | (with_reducible apply w_for2)
  | (with_reducible apply w_forT)
  | (with_reducible apply w_forL)
  | ((with_reducible apply w_lenD); (· assumption); (· walk_at "tp"))
  | (with_reducible apply w_min)
  | (with_reducible apply w_intI)
  | (with_reducible apply w_intB)
  | ((with_reducible apply w_I); (· first | decide | exact (by decide : (1000 : Int) ≠ 0) | exact ⟨by decide, by decide⟩ | exact ⟨by decide, by decide, by decide⟩ | exact .inr ⟨by decide, by decide⟩ | exact .inl ⟨by decide, by decide⟩))
  | (with_reducible apply w_bm)
  | (with_reducible apply w_bm0)
  | ((with_reducible apply w_tyL); (· assumption))
  | (with_reducible apply w_gsub)
  | (with_reducible apply w_fld)
  | (with_reducible apply w_gcons)
  | (with_reducible apply w_gnil)
  | ((with_reducible apply w_gtup); (· assumption); (· walk_at "tp"); (· rfl))
  | (with_reducible apply w_meth)
  | (with_reducible apply w_lc1)
  | (with_reducible apply w_lcL)
  | (with_reducible apply w_lcT)
  | (with_reducible apply w_yes)
  | (with_reducible apply w_m1)
  | (with_reducible apply w_dnotin)
  | (with_reducible apply w_din)
  | (with_reducible apply w_dget)
  | (with_reducible apply w_dput)
  | ((with_reducible apply w_ixL); (· assumption); (· decide); (· rfl)))
local macro_rules | `(tactic| walk_at "go") => `(tactic| repeat walk_at "step")
local macro_rules | `(tactic| walk_at "set") => `(tactic| dsimp only [List.set_cons_succ, List.set_cons_zero])

theorem flat_le {α β : Type} {f : α → List β} {b : Nat} : ∀ {l : List α}, (∀ x ∈ l, (f x).length ≤ b) → (l.flatMap f).length ≤ l.length * b
  | [], _ => by simp
  | x :: l, h => by
    rw [List.flatMap_cons, List.length_append, List.length_cons, Nat.succ_mul]
    have := h x (List.mem_cons_self ..)
    have := flat_le (l := l) (f := f) (b := b) fun y hy => h y (List.mem_cons_of_mem _ hy)
    omega
theorem idx_len {α : Type} (d : α) (p : α → Bool) (l : List α) : ((List.range l.length).filter fun n => p (l.getD n d)).length = (l.filter p).length := by
  have e : l = (List.range l.length).map fun n => l.getD n d := by
    apply List.ext_getElem?
    intro i
    rw [List.getElem?_map]
    by_cases hi : i < l.length
    · rw [List.getElem?_range hi, List.getElem?_eq_getElem hi, Option.map_some, List.getD_eq_getElem?_getD, List.getElem?_eq_getElem hi]; rfl
    · rw [List.getElem?_eq_none (by omega), List.getElem?_eq_none (l := List.range l.length) (by rw [List.length_range]; omega)]; rfl
  have e2 : (l.filter p).length = (((List.range l.length).map fun n => l.getD n d).filter p).length := by rw [← e]
  rw [e2, List.filter_map, List.length_map]
  rfl
def fstN : Row → Nat
  | .nil => 0
  | .cons n _ _ _ => n
def inn : Row → Row
  | .nil => .nil
  | .cons _ _ i _ => i
/-- a region of one pixel has few readings -/
theorem one_le {ps : List Part} {lf : Nat} (gd : GoodL ps lf) : ∀ (d : Nat) {r : Rg}, r.n + 1 - lf ≤ d → r.w = 1 → r.h = 1 → ∀ {L : List Row}, L.Nodup → (∀ row ∈ L, Fil ps r row) → L.length ≤ 8 ^ d := by
  intro d
  induction d with
  | zero =>
    intro r hd hw hh L hL hf
    cases L with
    | nil => exact Nat.zero_le _
    | cons x L =>
      have hnil : ∀ row, Fil ps r row → row = .nil := fun row h => by
        obtain ⟨c, hc⟩ := h
        unfold FillR at hc
        cases e : ps[r.n]? with
        | none => rw [e] at hc; exact absurd hc id
        | some p =>
          rw [e] at hc
          cases p with
          | plain => exact hc.1
          | shape => exact hc.1
          | strip ac nm jt ex =>
            have := (gd.ls _ _ e).mp rfl
            omega
      cases L with
      | nil => exact Nat.le_refl _
      | cons y L =>
        have h1 := hnil x (hf x (by simp))
        have h2 := hnil y (hf y (by simp))
        subst h1 h2
        exact absurd (List.mem_cons_self ..) (List.nodup_cons.mp hL).1
  | succ d ih =>
    intro r hd hw hh L hL hf
    cases e : ps[r.n]? with
    | none =>
      cases L with
      | nil => exact Nat.zero_le _
      | cons x L =>
        obtain ⟨c, hc⟩ := hf x (by simp)
        unfold FillR at hc
        rw [e] at hc
        exact absurd hc id
    | some p =>
      cases hs : isStrip p with
      | false =>
        have hlt : ¬ lf ≤ r.n := fun h => by
          have := (gd.ls _ _ e).mpr h
          rw [hs] at this; cases this
        exact Nat.le_trans (ih (by omega) hw hh hL hf) (Nat.pow_le_pow_right (by decide) (Nat.le_succ _))
      | true =>
        cases p with
        | plain => cases hs
        | shape => cases hs
        | strip ac nm jt ex =>
          have hlf := (gd.ls _ _ e).mp rfl
          have hpm := List.mem_of_getElem? e
          have hml : MvL (machineOf ex).mvs := gd.way _ hpm
          have hup : ∀ mv ∈ (machineOf ex).mvs, mv.p < r.n := gd.up _ _ e
          have hfew := (gd.few _ hpm).1
          have hrow : ∀ row ∈ L, ∃ n i mv, row = .cons n 1 i .nil ∧ (machineOf ex).mvs[n]? = some mv ∧ mv.o = 0 ∧ Fil ps (piece ac r mv.p 0 1) i := fun row hr => by
            have h := (fil_strip e).mp (hf row hr)
            have hx : ext ac r = 1 := by unfold ext; cases ac <;> simp [hw, hh]
            cases row with
            | nil =>
              have := (rst_nil.mp h).1
              rw [hx] at this
              omega
            | cons n z i rest =>
              obtain ⟨mv, h1, h2, h3, h4, h5, h6, h7⟩ := rst_cons.mp h
              have hmv := hml.2 mv (List.mem_of_getElem? h1)
              rw [hx] at h5
              have hz : z = 1 := by omega
              subst hz
              cases rest with
              | nil => exact ⟨n, i, mv, rfl, h1, h2, h6⟩
              | cons n' z' i' rest' =>
                obtain ⟨mv', k1, k2, k3, k4, k5, _⟩ := rst_cons.mp h7
                have := hml.2 mv' (List.mem_of_getElem? k1)
                rw [hx] at k5
                omega
          have hsub : ∀ row ∈ L, row ∈ ((List.range (machineOf ex).mvs.length).filter fun n => decide (((machineOf ex).mvs.getD n ⟨1, 0, 0, 0, 0, 0⟩).o = 0)).flatMap fun n => ((L.filter fun row => decide (fstN row = n)).map inn).map fun i => Row.cons n 1 i .nil := fun row hr => by
            obtain ⟨n, i, mv, rfl, h1, h2, h3⟩ := hrow row hr
            rw [List.mem_flatMap]
            refine ⟨n, List.mem_filter.mpr ⟨List.mem_range.mpr (List.getElem?_eq_some_iff.mp h1).1, ?_⟩, ?_⟩
            · rw [List.getD_eq_getElem?_getD, h1]
              exact decide_eq_true h2
            · exact List.mem_map.mpr ⟨i, List.mem_map.mpr ⟨.cons n 1 i .nil, List.mem_filter.mpr ⟨hr, decide_eq_true rfl⟩, rfl⟩, rfl⟩
          refine Nat.le_trans (hL.length_le_of_subset hsub) ?_
          refine Nat.le_trans (flat_le (b := 8 ^ d) fun n hn => ?_) ?_
          · rw [List.length_map]
            obtain ⟨hn1, hn2⟩ := List.mem_filter.mp hn
            have hn1 := List.mem_range.mp hn1
            have hmk : (machineOf ex).mvs[n]? = some (machineOf ex).mvs[n] := List.getElem?_eq_getElem hn1
            have hpl := hup _ (List.mem_of_getElem? hmk)
            refine ih (r := piece ac r (machineOf ex).mvs[n].p 0 1) ?_ ?_ ?_ ?_ ?_
            · rw [piece_n]; omega
            · unfold piece; cases ac
              · exact hw
              · rfl
            · unfold piece; cases ac
              · rfl
              · exact hh
            · refine List.pairwise_map.mpr (List.Pairwise.imp_of_mem (fun {a b} ha hb hne z => ?_) (hL.filter _))
              obtain ⟨ha1, ha2⟩ := List.mem_filter.mp ha
              obtain ⟨hb1, hb2⟩ := List.mem_filter.mp hb
              obtain ⟨n1, i1, _, rfl, _⟩ := hrow a ha1
              obtain ⟨n2, i2, _, rfl, _⟩ := hrow b hb1
              have e1 : n1 = n := of_decide_eq_true ha2
              have e2 : n2 = n := of_decide_eq_true hb2
              have e3 : i1 = i2 := z
              exact hne (by rw [e1, e2, e3])
            · intro row hrw
              obtain ⟨x, hx, rfl⟩ := List.mem_map.mp hrw
              obtain ⟨hx1, hx2⟩ := List.mem_filter.mp hx
              obtain ⟨n1, i1, mv, rfl, k1, _, k3⟩ := hrow x hx1
              have e1 : n1 = n := of_decide_eq_true hx2
              subst e1
              rw [hmk] at k1
              cases k1
              exact k3
          · have hidx := idx_len (⟨1, 0, 0, 0, 0, 0⟩ : Mv) (fun mv : Mv => decide (mv.o = 0)) (machineOf ex).mvs
            rw [hidx, Nat.pow_succ, Nat.mul_comm (8 ^ d)]
            exact Nat.mul_le_mul_right _ (hfew 0)
section
variable {P : Program} {w : World} {K : PySem.W.Frag} {mg : Str → Option Value} {base : Heap}
def spWorld (K : PySem.W.Frag) : Sp := fun vs H Q _ => ∃ (a : Addr) (ns : List Int), vs = [.ref a, .int 150] ∧ SqL K H a (ns.map V.int) ∧
  ∀ (res : Addr) (vp vw vr : V) (la tbl b bl : Addr) (ds : List Int) (H' : Hp) (ps : List Part) (lf : Nat) (r : Rg) (L : List Row), Gr S0 H H' → H' res = some (.lst [vp, vw, vr, .ref la, .ref tbl, .ref b]) → Rep H' (partsD ps) vp → Rep H' (waysD ps) vw → Rep H' (encRg r) vr → LD H' la (L.map encRow) → L.length ≤ 150 → (∀ row, row ∈ L ↔ Fil ps r row) → L.Nodup →
    GoodL ps lf → r.n < ps.length → 1 ≤ r.w → r.w ≤ 6 → 1 ≤ r.h → r.h ≤ 6 → r.x ≤ 10 → r.y ≤ 10 → Bx H' b bl ds → Q (.ref res) H'
theorem sc_l_world : FnScope ["_law_script", "_law_limit", "_law_box", "_law_parts_here", "_law_ways", "_law_width", "_law_height", "_law_place_here", "_law_table", "_law_turn", "_law_region", "_law_readings"] ["_law_script", "_law_limit"] (defScope (top 55)) := ⟨rfl, rfl, rfl, by decide +kernel, rfl, by decide +kernel, by decide +kernel⟩
theorem ok_l_world (k : Nat) (R : Raw K mg "_law_world" (top 55) ["_law_script", "_law_limit"]) (B : Bi mg) (D_l_digits : Def P w K mg base k "_law_digits" ["_law_script", "_law_first", "_law_last"] (spDigits K)) (D_l_draw : Def P w K mg base k "_law_draw" ["_law_box", "_law_many"] spDraw) (D_l_parts : Def P w K mg base k "_law_parts" ["_law_box", "_law_wide", "_law_strips"] spParts) (D_machines : Def P w K mg base k "machines" ["parts"] spMachines) (D_l_count : Def P w K mg base k "_law_count" ["_law_parts_here", "_law_ways", "_law_region", "_law_table"] (spCount 3)) (D_l_all : Def P w K mg base k "_law_all" ["_law_parts_here", "_law_ways", "_law_region", "_law_table"] (spAll 3)) : Def P w K mg base (k + 1) "_law_world" ["_law_script", "_law_limit"] (spWorld K) := by
  refine R.ok sc_l_world (fun vs H Q E h => ?_) (fun f cdv A outer s H vs Q E hr h => ?_)
  · obtain ⟨_, _, rfl, _⟩ := h; rfl
  obtain ⟨a, ns, rfl, ha, q⟩ := h
  refine ⟨_, (pss_cons (ps_set (i := 2) sc_l_world.nd rfl (.inl rfl) (pe_lst (pa_cons (pe_d D_l_digits hr (by rfl) (pa_cons (pv 0) (pa_cons pe_int (pa_cons pe_int pa_nil)))) (pa_cons pe_int pa_nil))))
    (pss_cons (ps_set (i := 3) sc_l_world.nd rfl (.inl rfl) (pe_d D_l_parts hr (by rfl) (pa_cons (pv 2) (pa_cons pe_int (pa_cons (pe_op op_add pe_int (pe_d D_l_draw hr (by rfl) (pa_cons (pv 2) (pa_cons pe_int pa_nil)))) pa_nil)))))
    (pss_cons (ps_set (i := 4) sc_l_world.nd rfl (.inl rfl) (pe_d D_machines hr (by rfl) (pa_cons (pv 3) pa_nil)))
    (pss_cons (ps_set (i := 2) sc_l_world.nd rfl (.inl rfl) (pe_lst (pa_cons (pe_d D_l_digits hr (by rfl) (pa_cons (pv 0) (pa_cons pe_int (pa_cons pe_int pa_nil)))) (pa_cons pe_int pa_nil))))
    (pss_cons (ps_set (i := 5) sc_l_world.nd rfl (.inl rfl) (pe_op op_add pe_int (pe_d D_l_draw hr (by rfl) (pa_cons (pv 2) (pa_cons pe_int pa_nil)))))
    (pss_cons (ps_set (i := 6) sc_l_world.nd rfl (.inl rfl) (pe_op op_add pe_int (pe_d D_l_draw hr (by rfl) (pa_cons (pv 2) (pa_cons pe_int pa_nil)))))
    (pss_cons (ps_set (i := 7) sc_l_world.nd rfl (.inl rfl) (pe_ix (ix_sq (K := K) rfl) (pe_lst (pa_cons (pe_lst (pa_cons pe_int (pa_cons pe_int pa_nil))) (pa_cons (pe_lst (pa_cons pe_int (pa_cons pe_int pa_nil))) (pa_cons (pe_lst (pa_cons pe_int (pa_cons pe_int pa_nil))) (pa_cons (pe_lst (pa_cons pe_int (pa_cons pe_int pa_nil))) pa_nil))))) (pe_d D_l_draw hr (by rfl) (pa_cons (pv 2) (pa_cons pe_int pa_nil))) (fun _ _ => rfl)))
    (pss_cons (ps_set (i := 8) sc_l_world.nd rfl (.inl rfl) pe_dnewT)
    (pss_cons (ps_for PassesOwn.never rfl (pi_range1 (by rfl) B.range (pa_cons pe_int pa_nil)) (pg_name (i := 9) sc_l_world.nd rfl (.inl rfl))
      (pss_cons (ps_set (i := 10) sc_l_world.nd rfl (.inl rfl) (pe_tup (pa_cons (pe_op op_sub (pe_callB (ck_len (K := K) rfl) (by rfl) B.len bo_len (pa_cons (pv 3) pa_nil)) pe_int) (pa_cons (pe_ix (ix_sq (K := K) rfl) (pv 7) pe_int (fun _ _ => rfl)) (pa_cons (pe_ix (ix_sq (K := K) rfl) (pv 7) pe_int (fun _ _ => rfl)) (pa_cons (pv 5) (pa_cons (pv 6) pa_nil)))))))
      (pss_one (ps_if (pt_cmpR op_gt (pe_d D_l_count hr (by rfl) (pa_cons (pv 3) (pa_cons (pv 4) (pa_cons (pv 10) (pa_cons (pv 8) pa_nil))))) (pv 1) (nomark _))
        (pss_one (ps_if (pt_cmpR op_ge (pv 5) (pv 6) (nomark _))
          (pss_one (ps_set (i := 5) sc_l_world.nd rfl (.inl rfl) (pe_op op_sub (pv 5) pe_int)))
          (pss_one (ps_set (i := 6) sc_l_world.nd rfl (.inl rfl) (pe_op op_sub (pv 6) pe_int)))))
        pss_nil))))
    (pss_cons (ps_set (i := 11) sc_l_world.nd rfl (.inl rfl) (pe_d D_l_all hr (by rfl) (pa_cons (pv 3) (pa_cons (pv 4) (pa_cons (pv 10) (pa_cons (pv 8) pa_nil))))))
    (pss_one (ps_ret (pe_lst (pa_cons (pv 3) (pa_cons (pv 4) (pa_cons (pv 10) (pa_cons (pv 11) (pa_cons (pv 8) (pa_cons (pv 2) pa_nil))))))))))))))))))), ?_⟩
  walk_at "go"
  refine ⟨a, ns, 0, 16, rfl, ha, by decide, by decide, fun p1 ds1 H1 g1 p1n hp1 => ?_⟩
  walk_at "go"
  refine lst_new (by show 2 ≤ sizeLine; decide) fun b1 H2 b1n hb1 g2 => ?_
  have hp1' := g2.lst id hp1
  have bx1 : Bx H2 b1 p1 ds1 := ⟨(fun z => by subst z; rw [hp1] at b1n; cases b1n), hp1', 0, hb1⟩
  have b1nH := g1.nn _ b1n
  walk_at "go"
  refine ⟨b1, p1, ds1, 2, rfl, by decide, bx1, fun st H3 hst g3 bx3 => ?_⟩
  walk_at "go"
  have e1 : (1 : Int) + (st : Int) = ((1 + st : Nat) : Int) := by omega
  rw [e1]
  refine ⟨b1, p1, ds1, 1 + st, rfl, by omega, bx3, fun vp ps lf H4 hps hl2 hl4 g4 bx4 hvp => ?_⟩
  have G4 : Gr S0 H H4 := (g1.trans g2).local (g3.trans g4) fun a z => by rw [show a = b1 from z]; exact b1nH
  have gd := goodL_of hps hl4 (by omega)
  have hplen : ps.length = lf + (1 + st) := hps.1
  walk_at "go"
  refine ⟨vp, ps, rfl, hvp, by have := gd.len; omega, gd.stk, fun vw H5 g5 hvw => ?_⟩
  have G5 := G4.trans g5
  walk_at "go"
  refine ⟨a, ns, 16, 28, rfl, G5.sql id ha, by decide, by decide, fun p2 ds2 H6 g6 p2n hp2 => ?_⟩
  walk_at "go"
  refine lst_new (by show 2 ≤ sizeLine; decide) fun b H7 bn hb g7 => ?_
  have bx7 : Bx H7 b p2 ds2 := ⟨(fun z => by subst z; rw [hp2] at bn; cases bn), g7.lst id hp2, 0, hb⟩
  have G7 := G5.trans (g6.trans g7)
  have bnH : H b = none := G5.nn _ (g6.nn _ bn)
  walk_at "go"
  refine ⟨b, p2, ds2, 6, rfl, by decide, bx7, fun w0' H8 hw0 g8 bx8 => ?_⟩
  walk_at "go"
  have e2 : (1 : Int) + (w0' : Int) = ((1 + w0' : Nat) : Int) := by omega
  rw [e2]
  refine ⟨b, p2, ds2, 4, rfl, by decide, bx8, fun h0' H9 hh0 g9 bx9 => ?_⟩
  have hvp9 : Rep H9 (partsD ps) vp := hvp.mono (g5.tp.trans (g6.tp.trans (g7.tp.trans (g8.tp.trans g9.tp))))
  have hvw9 : Rep H9 (waysD ps) vw := hvw.mono (g6.tp.trans (g7.tp.trans (g8.tp.trans g9.tp)))
  have G9 : Gr S0 H H9 := G7.local (g8.trans g9) fun a z => by rw [show a = b from z]; exact bnH
  walk_at "go"
  have e3 : (1 : Int) + (h0' : Int) = ((1 + h0' : Nat) : Int) := by omega
  rw [e3]
  refine lst_new (by show 2 ≤ sizeLine; decide) fun q1 H10 q1n hq1 g10 => ?_
  walk_at "go"
  refine lst_new (by show 2 ≤ sizeLine; decide) fun q2 H11 q2n hq2 g11 => ?_
  walk_at "go"
  refine lst_new (by show 2 ≤ sizeLine; decide) fun q3 H12 q3n hq3 g12 => ?_
  walk_at "go"
  refine lst_new (by show 2 ≤ sizeLine; decide) fun q4 H13 q4n hq4 g13 => ?_
  walk_at "go"
  refine lst_new (by show 4 ≤ sizeLine; decide) fun q5 H14 q5n hq5 g14 => ?_
  have gg := g10.trans (g11.trans (g12.trans (g13.trans g14)))
  have bx14 := bx9.gr gg
  walk_at "go"
  refine ⟨b, p2, ds2, 4, rfl, by decide, bx14, fun pk H15 hpk g15 bx15 => ?_⟩
  have ne5 : q5 ≠ b := bx9.ne (g10.nn _ (g11.nn _ (g12.nn _ (g13.nn _ q5n))))
  obtain ⟨pq, px, py, hsel, hpq, hpqn, hpx, hpy⟩ : ∃ (pq : Addr) (px py : Nat), ([V.ref q1, V.ref q2, V.ref q3, V.ref q4] : List V)[pk]? = some (.ref pq) ∧ H14 pq = some (.lst [.int (px : Nat), .int (py : Nat)]) ∧ H9 pq = none ∧ px ≤ 10 ∧ py ≤ 10 := by
    match pk, hpk with
    | 0, _ => exact ⟨q1, 0, 0, rfl, g14.lst id (g13.lst id (g12.lst id (g11.lst id hq1))), q1n, by decide, by decide⟩
    | 1, _ => exact ⟨q2, 0, 0, rfl, g14.lst id (g13.lst id (g12.lst id hq2)), g10.nn _ q2n, by decide, by decide⟩
    | 2, _ => exact ⟨q3, 1, 0, rfl, g14.lst id (g13.lst id hq3), g10.nn _ (g11.nn _ q3n), by decide, by decide⟩
    | 3, _ => exact ⟨q4, 2, 3, rfl, g14.lst id hq4, g10.nn _ (g11.nn _ (g12.nn _ q4n)), by decide, by decide⟩
  have hq515 := g15.lst ne5 hq5
  have hpq15 := g15.lst (bx9.ne hpqn) hpq
  refine w_ixL hq515 (by omega) (by rw [Int.toNat_natCast]; exact hsel) ?_
  walk_at "go"
  refine w_dnewT fun tbl H16 tbn htb g16 => ?_
  have hpq16 := g16.lst id hpq15
  have bx16 := bx15.gr g16
  have tbb : tbl ≠ b := bx15.ne tbn
  have pqt : pq ≠ tbl := fun z => by subst z; rw [hpq15] at tbn; cases tbn
  have tbn2 : tbl ≠ p2 := bx15.nl tbn
  have G15 : Gr S0 H H15 := (G9.trans gg).local g15 fun a z => by rw [show a = b from z]; exact bnH
  have G16 := G15.trans g16
  have tbnH : H tbl = none := G15.nn _ tbn
  have T16 : Tp H9 H16 := gg.tp.trans (g15.tp.trans g16.tp)
  have hvp16 := hvp9.mono T16
  have hvw16 := hvw9.mono T16
  have hlen8 := gd.len
  have htwo := gd.two
  walk_at "go"
  refine rng1 (n := 9) (by omega) (fun i σ H' => ∃ (d9 d10 d11 : Option V) (wd ht : Nat) (ks : List Rg), σ = [some (.ref a), some (.int 150), some (.ref b), some vp, some vw, some (.int (wd : Nat)), some (.int (ht : Nat)), some (.ref pq), some (.ref tbl), d9, d10, d11] ∧ Gr (S1 tbl) H16 H' ∧ TabI (fun _ => False) ps lf ⟨ps.length - 1, px, py, 1 + w0', 1 + h0'⟩ H' tbl ks ∧ 1 ≤ wd ∧ wd ≤ 1 + w0' ∧ 1 ≤ ht ∧ ht ≤ 1 + h0' ∧
    (wd + ht + i ≤ 10 ∨ (∃ vr n, d10 = some vr ∧ Rep H' (encRg ⟨ps.length - 1, px, py, wd, ht⟩) vr ∧ CardR (Fil ps ⟨ps.length - 1, px, py, wd, ht⟩) n ∧ n ≤ 150))) ⟨_, _, _, 1 + w0', 1 + h0', [], rfl, Gr.refl _ _, ⟨⟨[], htb, rfl, fun r hr => absurd hr (by simp)⟩, List.nodup_nil, fun r hr => absurd hr (by simp)⟩, by omega, Nat.le_refl _, by omega, Nat.le_refl _, .inl (by omega)⟩ (fun i σ H17 hi hp => ?_) (fun σ H17 hp => ?_)
  · obtain ⟨d9, d10, d11, wd, ht, ks, rfl, g17, ht17, hw1, hw2, hh1, hh2, halt⟩ := hp
    have hvp17 := hvp16.mono g17.tp
    have hpq17 := g17.lst pqt hpq16
    have hvp17' := hvp17
    change Rep H17 (.tuple (ps.map encPart)) vp at hvp17'
    walk_at "go"
    rw [List.length_map]
    have e4 : ((ps.length : Nat) : Int) - 1 = ((ps.length - 1 : Nat) : Int) := by omega
    rw [e4]
    refine tup_new (ds := [.int (ps.length - 1 : Nat), .int (px : Nat), .int (py : Nat), .int (wd : Nat), .int (ht : Nat)]) (by walk_at "repl") (by simp) fun vr H18 _ _ g18 hvr => ?_
    have ht18 := ht17.gr g18
    walk_at "go"
    have hin : InR ps.length ⟨ps.length - 1, px, py, 1 + w0', 1 + h0'⟩ ⟨ps.length - 1, px, py, wd, ht⟩ := ⟨by show ps.length - 1 < _; omega, Nat.le_refl _, by show px + wd ≤ px + (1 + w0'); omega, Nat.le_refl _, by show py + ht ≤ py + (1 + h0'); omega⟩
    refine ⟨vp, vw, .ref vr, tbl, ps, (fun _ => False), lf, ⟨ps.length - 1, px, py, wd, ht⟩, ⟨ps.length - 1, px, py, 1 + w0', 1 + h0'⟩, ks, rfl, hvp17.mono g18.tp, hvw16.mono (g17.tp.trans g18.tp), hvr, gd, hin, by show 1 + w0' ≤ 6; omega, by show 1 + h0' ≤ 6; omega, by show ps.length - 1 + 1 - lf < 3; omega, ht18, fun _ z => z.elim, fun n H19 ks2 g19 ht19 _ _ _ hc hn => ?_⟩
    have g17' := g17.trans (g18.any.trans g19)
    walk_at "go"
    refine if_of (fun h => ?_) (fun h => ?_)
    · have hn150 : 150 < n := by have := of_decide_eq_true h; omega
      have hsum : wd + ht + i ≤ 10 := by
        rcases halt with h | ⟨_, n', _, _, hc', hn'⟩
        · exact h
        · have := hc.inj hc'
          omega
      have hbig : ¬ (wd = 1 ∧ ht = 1) := fun ⟨e5, e6⟩ => by
        obtain ⟨L, l1, l2, l3⟩ := hc
        have h3 := one_le gd 2 (r := ⟨ps.length - 1, px, py, wd, ht⟩) (by show ps.length - 1 + 1 - lf ≤ 2; omega) e5 e6 l1 (fun row hr => (l2 row).mp hr)
        have h64 : (8 : Nat) ^ 2 = 64 := by decide
        omega
      walk_at "go"
      refine if_of (fun h => ?_) (fun h => ?_)
      · have := of_decide_eq_true h
        walk_at "go"
        have e5 : ((wd : Nat) : Int) - 1 = ((wd - 1 : Nat) : Int) := by omega
        rw [e5]
        exact ⟨_, _, _, wd - 1, ht, ks2, rfl, g17', ht19, by omega, by omega, hh1, hh2, .inl (by omega)⟩
      · have := of_decide_eq_false h
        walk_at "go"
        have e5 : ((ht : Nat) : Int) - 1 = ((ht - 1 : Nat) : Int) := by omega
        rw [e5]
        exact ⟨_, _, _, wd, ht - 1, ks2, rfl, g17', ht19, hw1, hw2, by omega, by omega, .inl (by omega)⟩
    · have hn150 : n ≤ 150 := by have := of_decide_eq_false h; omega
      exact ⟨_, _, _, wd, ht, ks2, rfl, g17', ht19, hw1, hw2, hh1, hh2, .inr ⟨_, n, rfl, hvr.mono g19.tp, hc, hn150⟩⟩
  · obtain ⟨d9, d10, d11, wd, ht, ks, rfl, g17, ht17, hw1, hw2, hh1, hh2, halt⟩ := hp
    rcases halt with h | ⟨vr, n, rfl, hvr, hc, hn⟩
    · omega
    have hin : InR ps.length ⟨ps.length - 1, px, py, 1 + w0', 1 + h0'⟩ ⟨ps.length - 1, px, py, wd, ht⟩ := ⟨by show ps.length - 1 < _; omega, Nat.le_refl _, by show px + wd ≤ px + (1 + w0'); omega, Nat.le_refl _, by show py + ht ≤ py + (1 + h0'); omega⟩
    walk_at "go"
    refine ⟨vp, vw, vr, tbl, ps, (fun _ => False), lf, ⟨ps.length - 1, px, py, wd, ht⟩, ⟨ps.length - 1, px, py, 1 + w0', 1 + h0'⟩, ks, n, rfl, hvp16.mono g17.tp, hvw16.mono g17.tp, hvr, gd, hin, by show 1 + w0' ≤ 6; omega, by show 1 + h0' ≤ 6; omega, by show ps.length - 1 + 1 - lf < 3; omega, ht17, fun _ z => z.elim, hc, Nat.le_trans hn (by decide), fun la L H18 ks2 g18 lan hL hLn hLm ht18 _ _ => ?_⟩
    walk_at "go"
    refine lst_new (by show 6 ≤ sizeLine; decide) fun res H19 resn hres g19 => ?_
    have g17' := g17.trans (g18.trans g19.any)
    have hLl : L.length ≤ 150 := by rw [← hc.inj ⟨L, hLn, hLm, rfl⟩]; exact hn
    have bx19 : Bx H19 b p2 ds2 := ⟨bx16.1, g17'.lst tbn2.symm bx16.2.1, bx16.2.2.choose, g17'.lst tbb.symm bx16.2.2.choose_spec⟩
    refine q res vp vw vr la tbl b p2 ds2 H19 ps lf ⟨ps.length - 1, px, py, wd, ht⟩ L (G16.local g17' fun a z => by rw [show a = tbl from z]; exact tbnH) hres (hvp16.mono g17'.tp) (hvw16.mono g17'.tp) (hvr.mono (g18.tp.trans g19.tp)) (hL.gr g19 id) hLl hLm hLn gd (by show ps.length - 1 < _; omega) hw1 (by show wd ≤ 6; omega) hh1 (by show ht ≤ 6; omega) hpx hpy bx19
end
end Sr
/-! SrBB: the plain law: the cost of a reading is its price and the wrong pixels. -/
namespace Sr
open PySem PySem.Spec PyProof.Rows L2
/-! ### sums -/
theorem sumN_congr : ∀ {n : Nat} {f g : Nat → Nat}, (∀ i < n, f i = g i) → sumN n f = sumN n g
  | 0, _, _, _ => rfl
  | n + 1, f, g, h => by
    show sumN n f + f n = sumN n g + g n
    rw [sumN_congr (n := n) (fun i hi => h i (by omega)), h n (by omega)]
theorem sumN_add : ∀ (a b : Nat) (f : Nat → Nat), sumN (a + b) f = sumN a f + sumN b fun i => f (a + i)
  | a, 0, f => rfl
  | a, b + 1, f => by
    show sumN (a + b) f + f (a + b) = sumN a f + (sumN b (fun i => f (a + i)) + f (a + b))
    rw [sumN_add a b f]; omega
theorem sumN_plus : ∀ (n : Nat) (f g : Nat → Nat), (sumN n fun i => f i + g i) = sumN n f + sumN n g
  | 0, _, _ => rfl
  | n + 1, f, g => by
    show (sumN n fun i => f i + g i) + (f n + g n) = (sumN n f + f n) + (sumN n g + g n)
    rw [sumN_plus n f g]; omega
theorem sumN_le : ∀ {n : Nat} {f g : Nat → Nat}, (∀ i < n, f i ≤ g i) → sumN n f ≤ sumN n g
  | 0, _, _, _ => Nat.le_refl _
  | n + 1, f, g, h => by
    have h1 := sumN_le (n := n) (f := f) (g := g) fun i hi => h i (by omega)
    have h2 := h n (by omega)
    show sumN n f + f n ≤ sumN n g + g n
    omega
theorem sumN_zero : ∀ (n : Nat), (sumN n fun _ => 0) = 0
  | 0 => rfl
  | n + 1 => by
    show (sumN n fun _ => 0) + 0 = 0
    rw [sumN_zero n]
/-- the triangle -/
theorem diffN_tri (w h : Nat) (a b c : Pic) : diffN w h a c ≤ diffN w h a b + diffN w h b c := by
  unfold diffN
  rw [← sumN_plus]
  refine sumN_le fun y _ => ?_
  rw [← sumN_plus]
  refine sumN_le fun x _ => ?_
  cases a x y <;> cases b x y <;> cases c x y <;> decide
theorem diffN_comm (w h : Nat) (a b : Pic) : diffN w h a b = diffN w h b a := by
  unfold diffN
  refine sumN_congr fun y _ => sumN_congr fun x _ => ?_
  cases a x y <;> cases b x y <;> rfl
theorem diffN_congr {w h : Nat} {a b a' b' : Pic} (e1 : ∀ x y, x < w → y < h → a x y = a' x y) (e2 : ∀ x y, x < w → y < h → b x y = b' x y) : diffN w h a b = diffN w h a' b' := by
  unfold diffN
  refine sumN_congr fun y hy => sumN_congr fun x hx => ?_
  rw [e1 x y hx hy, e2 x y hx hy]
def diffR (q : Rg) (a b : Pic) : Nat := diffN q.w q.h (atR q a) (atR q b)
theorem diffR_congr {q : Rg} {f a b : Pic} (h : ∀ x y, inR q x y → a x y = b x y) : diffR q f a = diffR q f b := by
  unfold diffR
  refine diffN_congr (fun _ _ _ _ => rfl) fun x y hx hy => ?_
  unfold atR
  exact h _ _ ⟨by omega, by omega, by omega, by omega⟩
theorem diff_split (ac : Bool) (r : Rg) (n n' n'' o z : Nat) (a b : Pic) (h : o + z ≤ ext ac r) : diffR (piece ac r n o (ext ac r - o)) a b = diffR (piece ac r n' o z) a b + diffR (piece ac r n'' (o + z) (ext ac r - (o + z))) a b := by
  unfold diffR piece ext diffN atR
  unfold ext at h
  cases ac
  · simp only [Bool.false_eq_true, if_false] at h ⊢
    have e : r.h - o = z + (r.h - (o + z)) := by omega
    rw [e, sumN_add]
    congr 1
    refine sumN_congr fun y _ => sumN_congr fun x _ => ?_
    have e2 : r.y + o + (z + y) = r.y + (o + z) + y := by omega
    rw [e2]
  · simp only [if_true] at h ⊢
    have e : r.w - o = z + (r.w - (o + z)) := by omega
    rw [e, ← sumN_plus]
    refine sumN_congr fun y _ => ?_
    rw [sumN_add]
    congr 1
    refine sumN_congr fun x _ => ?_
    have e2 : r.x + o + (z + x) = r.x + (o + z) + x := by omega
    rw [e2]
theorem paint_out {ps : List Part} : ∀ {L : List Rg} {g : Pic} {x y : Nat}, (∀ l ∈ L, ¬ inR l x y) → paint ps L g x y = g x y
  | [], _, _, _, _ => rfl
  | l :: L, g, x, y, h => by
    show paint ps L (paint1 ps g l) x y = g x y
    rw [paint_out fun l' hl' => h l' (List.mem_cons_of_mem _ hl')]
    unfold paint1
    rw [if_neg (h l (List.mem_cons_self ..))]
theorem paint_app (ps : List Part) (A B : List Rg) (g : Pic) : paint ps (A ++ B) g = paint ps B (paint ps A g) := by
  unfold paint
  rw [List.foldl_append]
theorem inR_sub {np : Nat} {r q : Rg} (h : InR np r q) {x y : Nat} (hx : inR q x y) : inR r x y := by
  obtain ⟨a1, a2, a3, a4, a5⟩ := h
  unfold inR at *
  omega
/-! ### the leaves of rests -/
def lvs (ps : List Part) (L : List Rg) : List Rg := L.filter (isLeafR ps)
def Wr (ps : List Part) (f : Pic) (l : Rg) : Nat := diffN l.w l.h (atR l f) (lpR ps l)
theorem leaves_leaf {ps : List Part} {r : Rg} {row : Row} {p : Part} (h : ps[r.n]? = some p) (hs : isStrip p = false) : Leaves ps r row = [r] := by
  have hl : isLeafR ps r = true := by
    unfold isLeafR
    rw [h]
    show (!isStrip p) = true
    rw [hs]; rfl
  unfold Leaves Regs
  rw [h]
  cases p with
  | strip => cases hs
  | plain => show List.filter _ [r] = [r]; rw [List.filter_cons, if_pos hl]; rfl
  | shape => show List.filter _ [r] = [r]; rw [List.filter_cons, if_pos hl]; rfl
theorem leaves_strip {ps : List Part} {r : Rg} {row : Row} {ac : Bool} {nm jt : Str} {e : Ex} (h : ps[r.n]? = some (.strip ac nm jt e)) : Leaves ps r row = lvs ps (RegR ps row ac (machineOf e) r 0) := by
  have hl : isLeafR ps r = false := by unfold isLeafR; rw [h]; rfl
  unfold Leaves Regs lvs
  rw [h]
  show List.filter _ (r :: _) = _
  rw [List.filter_cons, if_neg (by rw [hl]; decide)]
theorem lvs_cons {ps : List Part} {n z : Nat} {i rest : Row} {ac : Bool} {m : Mach} {r : Rg} {o : Nat} : lvs ps (RegR ps (.cons n z i rest) ac m r o) = Leaves ps (piece ac r (pnM m n) o z) i ++ lvs ps (RegR ps rest ac m r (o + z)) := by
  unfold lvs
  rw [regR_cons, List.filter_append]
  rfl
/-- the costs, by their leaves -/
theorem rest_cost (ps : List Part) (lc : Rg → Nat) : ∀ (row : Row) (ac : Bool) (m : Mach) (r : Rg) (s o c : Nat), RestR ps lc row ac m r s o c ↔ Rst ps ac m r s o row ∧ c = MovR ps row m + ((lvs ps (RegR ps row ac m r o)).map lc).sum := by
  intro row
  induction row with
  | nil =>
    intro ac m r s o c
    rw [rest_nil, rst_nil]
    show _ ↔ _ ∧ c = 0 + 0
    constructor
    · rintro ⟨h1, h2, h3⟩; exact ⟨⟨h1, h2⟩, h3⟩
    · rintro ⟨⟨h1, h2⟩, h3⟩; exact ⟨h1, h2, h3⟩
  | cons n z i rest ih1 ih2 =>
    intro ac m r s o c
    have fill : ∀ (q : Rg) (c : Nat), FillR ps lc q i c ↔ Fil ps q i ∧ c = Moved ps q.n i + ((Leaves ps q i).map lc).sum := fun q c => by
      cases e : ps[q.n]? with
      | none =>
        unfold FillR Fil FillR
        rw [e]
        constructor
        · exact fun h => absurd h id
        · rintro ⟨⟨_, h⟩, _⟩; exact absurd h id
      | some p =>
        cases hs : isStrip p with
        | false =>
          rw [leaves_leaf e hs]
          have hm : Moved ps q.n i = 0 := by
            unfold Moved
            rw [e]
            cases p with
            | strip => cases hs
            | plain => rfl
            | shape => rfl
          rw [hm]
          show _ ↔ _ ∧ c = 0 + (lc q + 0)
          rw [Nat.zero_add, Nat.add_zero]
          unfold Fil FillR
          rw [e]
          cases p with
          | strip => cases hs
          | plain => exact ⟨fun h => ⟨⟨_, h.1, h.2.1, rfl⟩, h.2.2⟩, fun ⟨⟨_, h1, h2, _⟩, h3⟩ => ⟨h1, h2, h3⟩⟩
          | shape => exact ⟨fun h => ⟨⟨_, h.1, h.2.1, rfl⟩, h.2.2⟩, fun ⟨⟨_, h1, h2, _⟩, h3⟩ => ⟨h1, h2, h3⟩⟩
        | true =>
          cases p with
          | plain => cases hs
          | shape => cases hs
          | strip ac' nm' jt' e' =>
            rw [leaves_strip e, fil_strip e]
            have hm : Moved ps q.n i = MovR ps i (machineOf e') := by unfold Moved; rw [e]
            rw [hm, ← ih1]
            unfold FillR
            rw [e]
    rw [rest_cons, rst_cons, movR_cons, lvs_cons, List.map_append, List.sum_append]
    constructor
    · rintro ⟨mv, c1, c2, h1, h2, h3, h4, h5, h6, h7, h8⟩
      have epn : pnM m n = mv.p := by unfold pnM; rw [h1]
      have ecn : pcM m n = mv.c := by unfold pcM; rw [h1]
      obtain ⟨k1, k2⟩ := (fill _ _).mp h6
      obtain ⟨k3, k4⟩ := (ih2 _ _ _ _ _ _).mp h7
      refine ⟨⟨mv, h1, h2, h3, h4, h5, k1, k3⟩, ?_⟩
      rw [epn, ecn, h8, k2, k4, piece_n]
      omega
    · rintro ⟨⟨mv, h1, h2, h3, h4, h5, h6, h7⟩, h8⟩
      have epn : pnM m n = mv.p := by unfold pnM; rw [h1]
      have ecn : pcM m n = mv.c := by unfold pcM; rw [h1]
      rw [epn, ecn] at h8
      refine ⟨mv, _, _, h1, h2, h3, h4, h5, (fill _ _).mpr ⟨h6, rfl⟩, (ih2 _ _ _ _ _ _).mpr ⟨h7, rfl⟩, ?_⟩
      rw [h8, piece_n]
      omega
theorem fill_cost (ps : List Part) (lc : Rg → Nat) (r : Rg) (row : Row) (c : Nat) : FillR ps lc r row c ↔ Fil ps r row ∧ c = Moved ps r.n row + ((Leaves ps r row).map lc).sum := by
  cases e : ps[r.n]? with
  | none =>
    unfold FillR Fil FillR
    rw [e]
    constructor
    · exact fun h => absurd h id
    · rintro ⟨⟨_, h⟩, _⟩; exact absurd h id
  | some p =>
    cases hs : isStrip p with
    | false =>
      rw [leaves_leaf e hs]
      have hm : Moved ps r.n row = 0 := by
        unfold Moved
        rw [e]
        cases p with
        | strip => cases hs
        | plain => rfl
        | shape => rfl
      rw [hm]
      show _ ↔ _ ∧ c = 0 + (lc r + 0)
      rw [Nat.zero_add, Nat.add_zero]
      unfold Fil FillR
      rw [e]
      cases p with
      | strip => cases hs
      | plain => exact ⟨fun h => ⟨⟨_, h.1, h.2.1, rfl⟩, h.2.2⟩, fun ⟨⟨_, h1, h2, _⟩, h3⟩ => ⟨h1, h2, h3⟩⟩
      | shape => exact ⟨fun h => ⟨⟨_, h.1, h.2.1, rfl⟩, h.2.2⟩, fun ⟨⟨_, h1, h2, _⟩, h3⟩ => ⟨h1, h2, h3⟩⟩
    | true =>
      cases p with
      | plain => cases hs
      | shape => cases hs
      | strip ac' nm' jt' e' =>
        rw [leaves_strip e, fil_strip e]
        have hm : Moved ps r.n row = MovR ps row (machineOf e') := by unfold Moved; rw [e]
        rw [hm, ← rest_cost]
        unfold FillR
        rw [e]
/-! ### the leaves tile the region -/
theorem regs_at {ps : List Part} {lf : Nat} (gd : GoodL ps lf) : ∀ {row : Row} {ac : Bool} {nm jt : Str} {e : Ex} {r : Rg} {s o : Nat}, ps[r.n]? = some (.strip ac nm jt e) → Rst ps ac (machineOf e) r s o row → ∀ q ∈ RegR ps row ac (machineOf e) r o, ∀ x y, inR q x y → inR (piece ac r r.n o (ext ac r - o)) x y
  | .nil, ac, nm, jt, e, r, s, o, hp, h => fun q hq => absurd hq (by simp [RegR])
  | .cons n z i rest, ac, nm, jt, e, r, s, o, hp, h => fun q hq x y hx => by
    obtain ⟨mv, hmv, hms, hz1, hz2, hz3, hfi, hrs⟩ := rst_cons.mp h
    have epn : pnM (machineOf e) n = mv.p := by unfold pnM; rw [hmv]
    rw [regR_cons, epn] at hq
    have hup := gd.up _ _ hp mv (List.mem_of_getElem? hmv)
    have hrl := (List.getElem?_eq_some_iff.mp hp).1
    rcases List.mem_append.mp hq with hq | hq
    · have h1 := inR_sub (regs_in0 gd (by rw [piece_n]; omega) hfi q hq) hx
      unfold inR piece ext at *
      cases ac
      · simp only [Bool.false_eq_true, if_false] at *
        omega
      · simp only [if_true] at *
        omega
    · have h1 := regs_at gd hp hrs q hq x y hx
      unfold inR piece ext at *
      cases ac
      · simp only [Bool.false_eq_true, if_false] at *
        omega
      · simp only [if_true] at *
        omega
theorem leaf_tile {ps : List Part} {r : Rg} {f g : Pic} : Wr ps f r = diffR r f (paint ps [r] g) := by
  unfold Wr diffR
  refine diffN_congr (fun _ _ _ _ => rfl) fun x y hx hy => ?_
  show lpR ps r x y = atR r (paint1 ps g r) x y
  unfold atR paint1
  rw [if_pos ⟨by omega, by omega, by omega, by omega⟩, Nat.add_sub_cancel_left, Nat.add_sub_cancel_left]
theorem tile {ps : List Part} {lf : Nat} (gd : GoodL ps lf) (f : Pic) : ∀ (row : Row) {ac : Bool} {nm jt : Str} {e : Ex} {r : Rg} {s o : Nat} (g : Pic), ps[r.n]? = some (.strip ac nm jt e) → Rst ps ac (machineOf e) r s o row → o ≤ ext ac r →
    ((lvs ps (RegR ps row ac (machineOf e) r o)).map (Wr ps f)).sum = diffR (piece ac r r.n o (ext ac r - o)) f (paint ps (lvs ps (RegR ps row ac (machineOf e) r o)) g) := by
  intro row
  induction row with
  | nil =>
    intro ac nm jt e r s o g hp h hol
    have ho := (rst_nil.mp h).1
    show 0 = _
    unfold diffR piece diffN
    cases ac
    · simp only [Bool.false_eq_true, if_false]
      rw [ho, Nat.sub_self]; rfl
    · simp only [if_true]
      rw [ho, Nat.sub_self]
      exact (sumN_zero _).symm
  | cons n z i rest ih1 ih2 =>
    intro ac nm jt e r s o g hp h hol
    obtain ⟨mv, hmv, hms, hz1, hz2, hz3, hfi, hrs⟩ := rst_cons.mp h
    have epn : pnM (machineOf e) n = mv.p := by unfold pnM; rw [hmv]
    have hup := gd.up _ _ hp mv (List.mem_of_getElem? hmv)
    have hrl := (List.getElem?_eq_some_iff.mp hp).1
    rw [lvs_cons, epn, List.map_append, List.sum_append, paint_app, diff_split ac r r.n mv.p r.n o z _ _ hz3]
    have hA : ((Leaves ps (piece ac r mv.p o z) i).map (Wr ps f)).sum = diffR (piece ac r mv.p o z) f (paint ps (Leaves ps (piece ac r mv.p o z) i) g) := by
      generalize hq : piece ac r mv.p o z = q at *
      have hqn : q.n < ps.length := by rw [← hq, piece_n]; omega
      cases e2 : ps[q.n]? with
      | none =>
        obtain ⟨c, hc⟩ := hfi
        unfold FillR at hc
        rw [e2] at hc
        exact absurd hc id
      | some p =>
        cases hs : isStrip p with
        | false =>
          rw [leaves_leaf e2 hs]
          show Wr ps f q + 0 = _
          rw [Nat.add_zero]
          exact leaf_tile
        | true =>
          cases p with
          | plain => cases hs
          | shape => cases hs
          | strip ac' nm' jt' e' =>
            rw [leaves_strip e2, ih1 g e2 ((fil_strip e2).mp hfi) (Nat.zero_le _)]
            unfold diffR piece ext atR
            cases ac'
            · simp only [Bool.false_eq_true, if_false, Nat.add_zero, Nat.sub_zero]
            · simp only [if_true, Nat.add_zero, Nat.sub_zero]
    rw [hA, ih2 (paint ps (Leaves ps (piece ac r mv.p o z) i) g) hp hrs hz3]
    congr 1
    refine diffR_congr fun x y hx => ?_
    refine (paint_out fun l hl hlx => ?_).symm
    have h1 := regs_at gd hp hrs l (List.mem_filter.mp hl).1 x y hlx
    unfold inR piece ext at *
    cases ac
    · simp only [Bool.false_eq_true, if_false] at *
      omega
    · simp only [if_true] at *
      omega
theorem tile0 {ps : List Part} {lf : Nat} (gd : GoodL ps lf) (f g : Pic) {r : Rg} {row : Row} (h : Fil ps r row) : ((Leaves ps r row).map (Wr ps f)).sum = diffR r f (paint ps (Leaves ps r row) g) := by
  cases e2 : ps[r.n]? with
  | none =>
    obtain ⟨c, hc⟩ := h
    unfold FillR at hc
    rw [e2] at hc
    exact absurd hc id
  | some p =>
    cases hs : isStrip p with
    | false =>
      rw [leaves_leaf e2 hs]
      show Wr ps f r + 0 = _
      rw [Nat.add_zero]
      exact leaf_tile
    | true =>
      cases p with
      | plain => cases hs
      | shape => cases hs
      | strip ac' nm' jt' e' =>
        rw [leaves_strip e2, tile gd f row g e2 ((fil_strip e2).mp h) (Nat.zero_le _)]
        unfold diffR piece ext atR
        cases ac'
        · simp only [Bool.false_eq_true, if_false, Nat.add_zero, Nat.sub_zero]
        · simp only [if_true, Nat.add_zero, Nat.sub_zero]
/-- THE COST OF A READING: its price and the wrong pixels -/
theorem cost_law {ps : List Part} {lf : Nat} (gd : GoodL ps lf) (img : List Str) (r : Rg) (row : Row) (c : Nat) : FillR ps (lcost ps img) r row c ↔ Fil ps r row ∧ c = Price ps r row + diffN r.w r.h (atR r (pix img)) (atR r (Drawn ps r row)) := by
  rw [fill_cost]
  refine and_congr_right fun h => ?_
  have e : ((Leaves ps r row).map (lcost ps img)).sum = ((Leaves ps r row).map (pcR ps)).sum + ((Leaves ps r row).map (Wr ps (pix img))).sum := by
    have hfit := regs_fit gd h
    generalize Leaves ps r row = L at hfit
    induction L with
    | nil => rfl
    | cons l L ih =>
      obtain ⟨p, hp, _⟩ := hfit l (List.mem_cons_self ..)
      have h1 : lcost ps img l = pcR ps l + Wr ps (pix img) l := by
        unfold lcost pcR Wr leafCost atR
        rw [hp]
        show pcost p + _ = pcost p + _
        congr 1
        refine diffN_congr (fun _ _ _ _ => rfl) fun x y _ _ => ?_
        unfold lpR
        rw [hp]
      rw [List.map_cons, List.map_cons, List.map_cons, List.sum_cons, List.sum_cons, List.sum_cons, h1, ih fun q hq => hfit q (List.mem_cons_of_mem _ hq)]
      omega
  have ht : ((Leaves ps r row).map (Wr ps (pix img))).sum = diffN r.w r.h (atR r (pix img)) (atR r (Drawn ps r row)) := tile0 gd _ _ h
  rw [e, ht]
  unfold Price
  omega
end Sr
/-! SrCC: promises where no guard stands (for repr). -/
namespace Sr
open PySem PySem.Spec PyProof.Rows L2
/-- a def's promise, asked for only where no repr is under way -/
structure FnG (P : Program) (w : World) (K : PySem.W.Frag) (mg : Str → Option Value) (base : Heap) (k : Nat) (f : Addr) (ps : List Str) (fd : FuncData) (sp : Sp) : Prop where
  len : ∀ vs H Q E, sp vs H Q E → vs.length = ps.length
  run : ∀ (A : Around) (outer : List Env) (s : Shared) (H : Hp) (args : Args) (us : List Value) (vs : List V) (Q : VK) (E : XK), A.guards = some [] → Room k A → Env0 P w K mg base A outer s H → BindsTo s fd args (ps.zip us) → Vals vs us → sp vs H Q E →
    codeAny (model P w) A (.call (.ref f) args) (CR CX0 outer P w H s Q E) s
def DefG (P : Program) (w : World) (K : PySem.W.Frag) (mg : Str → Option Value) (base : Heap) (k : Nat) (nm : Str) (ps : List Str) (sp : Sp) : Prop :=
  ∃ (f : Addr) (fd : FuncData), FnG P w K mg base k f ps fd sp ∧ mg nm = some (.ref f) ∧ PySem.W.keepIn K (.ref f) = true ∧ Binds K fd ps []
theorem guards_deeper (A : Around) (env : Env) : (A.deeper env).guards = A.guards := rfl
section
variable {P : Program} {w : World} {K : PySem.W.Frag} {mg : Str → Option Value} {base : Heap}
theorem Raw.okG {nm : Str} {st : Stmt} {N ps : List Str} {k : Nat} {sp : Sp} (R : Raw K mg nm st ps) (S : FnScope N ps (defScope st)) (len : ∀ vs H Q E, sp vs H Q E → vs.length = ps.length)
    (hbody : ∀ (f : Addr) (cdv : Value) (A : Around) (outer : List Env) (s : Shared) (H : Hp) (vs : List V) (Q : VK) (E : XK), A.guards = some [] → Room k (A.deeper (envOfC nm (defScope st) s.heap.objs.size f cdv)) → sp vs H Q E →
      ∃ t, PSs (cxOf CX0 P w K mg base N nm (defScope st) f cdv A outer s H E).nox (defBody st) t ∧ t { nx := fun _ H' => Q .non H', rt := Q } (L2.start N vs) H) : DefG P w K mg base (k + 1) nm ps sp := by
  obtain ⟨f, fd, F, m, b⟩ := R
  refine ⟨f, fd, ?_, m, F.kp, b⟩
  obtain ⟨oc, od, kV, doc, pm, an, cdv, ct, osl, rfl, lk, hcd⟩ := F.ex
  refine ⟨len, fun A outer s H args us vs Q E hg hr e0 hb r hsp => ?_⟩
  have hl := len _ _ _ _ hsp
  have KX : K.In s.heap := e0.mod.kin.keeps fun b o e => (e0.bs b o e).1
  have lim : s.heap.NoLimit := e0.mod.nolimit.keeps fun b o e => (e0.bs b o e).1
  have hkind : ∀ y ∈ ps.zip us, (defScope st).names.lookup y.1 = some .local ∨ ((defScope st).names.lookup y.1 = some .cell ∧ ((cellsFrom (s.heap.objs.size + 1) (defScope st).names []).lookup y.1).isSome = true) := fun ⟨n, v⟩ hy => by
    rcases S.par n (List.of_mem_zip hy).1 with q | q
    · exact .inl q
    · exact .inr ⟨q, PySem.W.cellsFrom_some _ _ _ (.inl q)⟩
  refine codeAny_call_function hr.depth (KX _ _ lk) rfl S.co S.gen rfl (PySem.W.codeRec_of KX hcd) (hb _ _ _ _ ?_)
  refine wpAny_newFunctionEnv_cells S.kind hkind fun env he s1 x => ?_
  subst he
  refine ⟨lim.keeps x.toInCall.keep, codeAny_func ?_⟩
  obtain ⟨t, ht, hq⟩ := hbody f cdv A outer s H vs Q E hg (hr.deeper _) hsp
  have ht' := ht.nox
  have I := inv_start (CX := CX0) (E := E) S hr.hd e0 hl r x
  refine wpAny_mono (ht'.run [] s1 (L2.start N vs) H _ I hq) (fun fl s' hs => ?_) fun e s' hs => hs
  have fin : ∀ {σ' : L2.St} {H' : Hp} {v : V} {u : Value}, L2.Inv (cxOf CX0 P w K mg base N nm (defScope st) f cdv A outer s H E) [] σ' H' s' → RelV v u → Q v H' → CE outer P w H s Q u s' :=
    fun {σ' H' v u} J rv q => ⟨v, H', J.os, J.bare, J.base, J.hok, rv, q⟩
  cases fl with
  | ret u =>
    obtain ⟨v, σ', H', J, rv, q⟩ := hs
    exact fin J rv q
  | next =>
    obtain ⟨σ', H', J, q⟩ := hs
    exact fin (v := V.non) (u := Value.none) J rfl q
  | brk =>
    obtain ⟨_, _, _, q⟩ := hs
    exact False.elim q
  | cont =>
    obtain ⟨_, _, _, q⟩ := hs
    exact False.elim q
end
section
variable {X : Cx} {k : Nat} {nm : Str} {ps : List Str} {sp : Sp} {e : Expr} {es : List Expr} {t : TA} {p pos : Pos}
theorem pe_dG (hg0 : X.A.guards = some []) (D : DefG X.prog X.w X.K X.mg X.base k nm ps sp) (hr : Room k X.A) (hg : Gl X nm)
    (ha : PA X (e :: es) t) (hdb : (nm == ("__debug__" : Str)) = false := by decide) (he : starEach (e :: es) X.env = (false, eval e X.env) :: starEach es X.env := by rfl) (hpl : (backTo pos (starEach es X.env)).any (·.1) = false := by rfl) :
    PE X (.Call (.Name nm p) (e :: es) [] pos) (tCall sp [] E0 t) := by
  obtain ⟨f, fd, F, m, kp, b⟩ := D
  refine ⟨fun pins s σ H Q I h => ?_⟩
  refine wpAny_Call_Name_kw (ld_glob I hg m ?_ hdb)
  refine PySem.W.callWith_K (h₀ := X.base) I.ok.mod.kin kp (thn (ha.run pos pins s σ H _ I h) fun us s1 ⟨vs, H1, I1, r, q⟩ => ⟨I1.kIn, ?_⟩) he hpl
  have q : sp (vs ++ []) H1 Q E0 := q
  rw [List.append_nil] at q
  have hl : us.length = ps.length := by rw [← r.length]; exact F.len _ _ _ _ q
  have hb := b s1 us I1.kIn (by rw [List.append_nil]; exact hl)
  rw [List.append_nil] at hb
  refine wpAny_call (codeAny_mono (F.run X.A X.stack s1 H1 ⟨us, []⟩ us vs Q E0 hg0 hr I1.env0 hb r q) fun r s' hq => ?_)
  cases r with
  | error e => exact pass0 pins σ H1 s1 e s' I1 hq
  | ok fl =>
    cases fl with
    | ret u => exact I1.after hq
    | next => exact False.elim hq
    | brk => exact False.elim hq
    | cont => exact False.elim hq
/-- repr of a tuple of data -/
def rReprD (K : PySem.W.Frag) : List V → Hp → VK → Prop := fun xs H Q => ∃ (v : V) (ds : List PD), xs = [v] ∧ Dp K H v (.tuple ds) ∧ PyData.showable (.tuple ds) = true ∧ PyData.hasDict (.tuple ds) = false ∧ PyData.depth (.tuple ds) ≤ 40 ∧ (PyData.shown (.tuple ds)).length ≤ sizeLine ∧ Q (.str (PyData.shown (.tuple ds))) H
theorem call_reprT {K : PySem.W.Frag} (hK : X.K = K) (hg0 : X.A.guards = some []) (hu : X.A.units + 65 < cLine) : CallR X (.builtin "repr") (rReprD K) := by
  subst hK
  intro pins s σ H vs us Q I r h
  obtain ⟨v, ds, rfl, hd, h1, h2, h3, h4, q⟩ := h
  obtain ⟨u, rfl, rx⟩ := r.one
  obtain ⟨as, r1⟩ := Dp.reads I _ v u hd rx
  cases hd with
  | tup hq hl =>
    obtain rfl : u = Value.ref _ := rx
    refine repr_of_reads' r1 h1 (PyData.noDict_hsm h2) hg0 (by omega) (fun _ _ e => e) (fun h' u tk hk => ?_) h4
    exact ⟨.str _, H, I.kept (t' := tk) hk, ⟨u, rfl⟩, q⟩
end
end Sr
/-! SrDD: readings as data. -/
namespace Sr
open PySem PySem.Spec PyProof.Rows L2
def RowSm : Row → Nat → Prop
  | .nil, _ => True
  | .cons n z i rest, d => 1 ≤ d ∧ n < 100 ∧ z ≤ 8 ∧ (rowL i).length ≤ 6 ∧ RowSm i (d - 1) ∧ RowSm rest d
theorem rst_sm {ps : List Part} {lf : Nat} (gd : GoodL ps lf) : ∀ (row : Row) {ac : Bool} {nm jt : Str} {e : Ex} {r : Rg} {s o d : Nat}, ps[r.n]? = some (.strip ac nm jt e) → r.n + 1 - lf ≤ d → r.w ≤ 6 → r.h ≤ 6 → Rst ps ac (machineOf e) r s o row → RowSm row d := by
  intro row
  induction row with
  | nil => intro ac nm jt e r s o d _ _ _ _ _; exact trivial
  | cons n z i rest ih1 ih2 =>
    intro ac nm jt e r s o d hp hd hw hh h
    obtain ⟨mv, hmv, hms, hz1, hz2, hz3, hfi, hrs⟩ := rst_cons.mp h
    have hpm := List.mem_of_getElem? hp
    have hml : MvL (machineOf e).mvs := gd.way _ hpm
    have hmm := List.mem_of_getElem? hmv
    have hup := gd.up _ _ hp mv hmm
    have hlf := (gd.ls _ _ hp).mp rfl
    have hnl := (List.getElem?_eq_some_iff.mp hmv).1
    have h1 := hml.1
    have h2 := hml.2 mv hmm
    have hx : ext ac r ≤ 6 := by unfold ext; cases ac <;> simp <;> assumption
    have hi : (rowL i).length ≤ 6 ∧ RowSm i (d - 1) := by
      generalize hq : piece ac r mv.p o z = q at *
      have hqn : q.n = mv.p := by rw [← hq, piece_n]
      have hqw : q.w ≤ 6 := by
        rw [← hq]
        unfold piece
        cases ac
        · exact hw
        · show z ≤ 6; omega
      have hqh : q.h ≤ 6 := by
        rw [← hq]
        unfold piece
        cases ac
        · show z ≤ 6; omega
        · exact hh
      cases e2 : ps[q.n]? with
      | none =>
        obtain ⟨c, hc⟩ := hfi
        unfold FillR at hc
        rw [e2] at hc
        exact absurd hc id
      | some p =>
        cases p with
        | strip ac' nm' jt' e' =>
          have hr := (fil_strip e2).mp hfi
          refine ⟨?_, ih1 e2 (by omega) hqw hqh hr⟩
          have hl := rest_len (fun m hm => ((gd.way _ (List.mem_of_getElem? e2) : MvL (machineOf e').mvs).2 m hm).1) hr.choose_spec
          have hx2 : ext ac' q ≤ 6 := by unfold ext; cases ac' <;> simp <;> assumption
          omega
        | plain =>
          obtain ⟨c, hc⟩ := hfi
          unfold FillR at hc
          rw [e2] at hc
          rw [hc.1]
          exact ⟨Nat.zero_le _, trivial⟩
        | shape =>
          obtain ⟨c, hc⟩ := hfi
          unfold FillR at hc
          rw [e2] at hc
          rw [hc.1]
          exact ⟨Nat.zero_le _, trivial⟩
    exact ⟨by omega, by omega, by omega, hi.1, hi.2, ih2 hp hd hw hh hrs⟩
theorem fil_sm {ps : List Part} {lf : Nat} (gd : GoodL ps lf) {r : Rg} {row : Row} (hd : r.n + 1 - lf ≤ 2) (hw : r.w ≤ 6) (hh : r.h ≤ 6) (h : Fil ps r row) : RowSm row 2 ∧ (rowL row).length ≤ 6 := by
  cases e2 : ps[r.n]? with
  | none =>
    obtain ⟨c, hc⟩ := h
    unfold FillR at hc
    rw [e2] at hc
    exact absurd hc id
  | some p =>
    cases p with
    | strip ac' nm' jt' e' =>
      have hr := (fil_strip e2).mp h
      refine ⟨rst_sm gd row e2 hd hw hh hr, ?_⟩
      have hl := rest_len (fun m hm => ((gd.way _ (List.mem_of_getElem? e2) : MvL (machineOf e').mvs).2 m hm).1) hr.choose_spec
      have hx2 : ext ac' r ≤ 6 := by unfold ext; cases ac' <;> simp <;> assumption
      omega
    | plain =>
      obtain ⟨c, hc⟩ := h
      unfold FillR at hc
      rw [e2] at hc
      rw [hc.1]
      exact ⟨trivial, Nat.zero_le _⟩
    | shape =>
      obtain ⟨c, hc⟩ := h
      unfold FillR at hc
      rw [e2] at hc
      rw [hc.1]
      exact ⟨trivial, Nat.zero_le _⟩
/-! ### as data -/
theorem row_lay : ∀ row : Row, PyData.canLayAll0 (rowL row) = true
  | .nil => rfl
  | .cons n z i r => by
    show ((true && (true && (PyData.canLayAll0 (rowL i) && true))) && PyData.canLayAll0 (rowL r)) = true
    rw [row_lay i, row_lay r]; rfl
theorem row_dict : ∀ row : Row, PyData.hasDictAll (rowL row) = false
  | .nil => rfl
  | .cons n z i r => by
    show ((false || (false || (PyData.hasDictAll (rowL i) || false))) || PyData.hasDictAll (rowL r)) = false
    rw [row_dict i, row_dict r]; rfl
theorem row_depth : ∀ (row : Row) (d : Nat), RowSm row d → PyData.depthAll (rowL row) ≤ 2 * d
  | .nil, d, _ => Nat.zero_le _
  | .cons n z i r, d, h => by
    have h1 := row_depth i (d - 1) h.2.2.2.2.1
    have h2 := row_depth r d h.2.2.2.2.2
    have hd := h.1
    simp only [rowL, PyData.depthAll, PyData.depth]
    omega
def WBd : Nat → Nat
  | 0 => 0
  | d + 1 => 20 + 6 * WBd d
theorem int_weight {n : Nat} (h : n < 128) : PyData.weight (.int (n : Nat)) ≤ 7 := by
  have key : ∀ n < 128, PyData.weight (.int (n : Nat)) ≤ 7 := by decide +kernel
  exact key n h
theorem row_weight : ∀ (row : Row) (d : Nat), RowSm row d → PyData.weightAll (rowL row) ≤ (rowL row).length * WBd d
  | .nil, d, _ => Nat.zero_le _
  | .cons n z i r, d, h => by
    obtain ⟨hd, hn, hz, hl, hi, hr⟩ := h
    have h1 := row_weight i (d - 1) hi
    have h2 := row_weight r d hr
    obtain ⟨d', rfl⟩ : ∃ d', d = d' + 1 := ⟨d - 1, by omega⟩
    rw [Nat.add_sub_cancel] at h1
    have w1 := int_weight (n := n) (by omega)
    have w2 := int_weight (n := z) (by omega)
    have h3 : (rowL i).length * WBd d' ≤ 6 * WBd d' := Nat.mul_le_mul_right _ hl
    show PyData.weight (.tuple [.int n, .int z, .tuple (rowL i)]) + 1 + PyData.weightAll (rowL r) ≤ ((rowL r).length + 1) * WBd (d' + 1)
    have e1 : PyData.weight (.tuple [.int n, .int z, .tuple (rowL i)]) = PyData.weight (.int (n : Nat)) + 1 + (PyData.weight (.int (z : Nat)) + 1 + (PyData.weightAll (rowL i) + 1 + 0)) := rfl
    rw [e1, Nat.succ_mul]
    have e2 : WBd (d' + 1) = 20 + 6 * WBd d' := rfl
    omega
theorem int_show {n : Nat} (h : n < 1024) : PyData.showable (.int (n : Nat)) = true ∧ PyData.intsShort 13 (.int (n : Nat)) = true := by
  have key : ∀ n < 1024, (PyData.showable (.int (n : Nat)) && PyData.intsShort 13 (.int (n : Nat))) = true := by decide +kernel
  have := key n h
  rwa [Bool.and_eq_true] at this
theorem row_show : ∀ (row : Row) (d : Nat), RowSm row d → PyData.showableAll (rowL row) = true ∧ PyData.intsShortAll 13 (rowL row) = true
  | .nil, d, _ => ⟨rfl, rfl⟩
  | .cons n z i r, d, h => by
    obtain ⟨hd, hn, hz, hl, hi, hr⟩ := h
    have h1 := row_show i (d - 1) hi
    have h2 := row_show r d hr
    have s1 := int_show (n := n) (by omega)
    have s2 := int_show (n := z) (by omega)
    constructor
    · show ((PyData.showable (.int (n : Nat)) && (PyData.showable (.int (z : Nat)) && (PyData.showableAll (rowL i) && true))) && PyData.showableAll (rowL r)) = true
      rw [s1.1, s2.1, h1.1, h2.1]; rfl
    · show ((PyData.intsShort 13 (.int (n : Nat)) && (PyData.intsShort 13 (.int (z : Nat)) && (PyData.intsShortAll 13 (rowL i) && true))) && PyData.intsShortAll 13 (rowL r)) = true
      rw [s1.2, s2.2, h1.2, h2.2]; rfl
theorem row_eqv : ∀ (a b : Row), PyData.eqvAll (rowL a) (rowL b) = decide (a = b)
  | .nil, .nil => rfl
  | .nil, .cons _ _ _ _ => rfl
  | .cons _ _ _ _, .nil => rfl
  | .cons n z i r, .cons n' z' i' r' => by
    show ((((n : Int) == (n' : Int)) && (((z : Int) == (z' : Int)) && (PyData.eqvAll (rowL i) (rowL i') && true))) && PyData.eqvAll (rowL r) (rowL r')) = _
    rw [row_eqv i i', row_eqv r r']
    by_cases h1 : n = n'
    · by_cases h2 : z = z'
      · by_cases h3 : i = i'
        · by_cases h4 : r = r'
          · subst h1 h2 h3 h4; simp
          · simp [h4]
        · simp [h3]
      · have : ((z : Int) == (z' : Int)) = false := beq_eq_false_iff_ne.mpr (by omega)
        rw [this]; simp [h2]
    · have : ((n : Int) == (n' : Int)) = false := beq_eq_false_iff_ne.mpr (by omega)
      rw [this]; simp [h1]
theorem row_shaped {row : Row} (h : RowSm row 2) : SeqAt.shaped (encRow row) = true := by
  have h1 := row_depth row 2 h
  show (PyData.canLayAll0 (rowL row) && decide (PyData.depth (.tuple (rowL row)) ≤ 64)) = true
  rw [row_lay, Bool.true_and]
  refine decide_eq_true ?_
  simp only [PyData.depth]
  omega
theorem told_show {row : Row} {c : Nat} (h : RowSm row 2) (hl : (rowL row).length ≤ 6) (hc : c < 1024) :
    PyData.showable (.tuple [.int (c : Nat), encRow row]) = true ∧ PyData.hasDict (.tuple [.int (c : Nat), encRow row]) = false ∧ PyData.depth (.tuple [.int (c : Nat), encRow row]) ≤ 40 ∧ (PyData.shown (.tuple [.int (c : Nat), encRow row])).length ≤ sizeLine := by
  obtain ⟨s1, s2⟩ := row_show row 2 h
  obtain ⟨c1, c2⟩ := int_show hc
  have hd := row_depth row 2 h
  have hw := row_weight row 2 h
  have e1 : WBd 2 = 140 := rfl
  have hw2 : (rowL row).length * WBd 2 ≤ 6 * 140 := Nat.mul_le_mul hl (Nat.le_of_eq e1)
  have hcw : PyData.weight (.int (c : Nat)) ≤ 10 := by
    have key : ∀ n < 1024, PyData.weight (.int (n : Nat)) ≤ 10 := by decide +kernel
    exact key c hc
  refine ⟨?_, ?_, ?_, ?_⟩
  · show (PyData.showable (.int (c : Nat)) && (PyData.showableAll (rowL row) && true)) = true
    rw [c1, s1]; rfl
  · show (false || (PyData.hasDictAll (rowL row) || false)) = false
    rw [row_dict]; rfl
  · simp only [encRow, PyData.depth, PyData.depthAll]
    omega
  · have hcl : PyData.canLay0 (.tuple [.int (c : Nat), encRow row]) = true := by
      show (true && (PyData.canLayAll0 (rowL row) && true)) = true
      rw [row_lay]; rfl
    have his : PyData.intsShort 13 (.tuple [.int (c : Nat), encRow row]) = true := by
      show (PyData.intsShort 13 (.int (c : Nat)) && (PyData.intsShortAll 13 (rowL row) && true)) = true
      rw [c2, s2]; rfl
    have h2 := PyData.shown_le 13 (by decide) _ (PyData.leavesShort_of_canLay0 13 _ hcl his)
    have ew : PyData.weight (.tuple [.int (c : Nat), encRow row]) = PyData.weight (.int (c : Nat)) + 1 + (PyData.weightAll (rowL row) + 1 + 0) := rfl
    rw [ew] at h2
    exact Nat.le_trans h2 (Nat.le_of_lt (small6 (by omega)))
def XBd : Nat → Nat
  | 0 => 0
  | d + 1 => 1 + 6 * XBd d
theorem regR_len (ps : List Part) : ∀ (row : Row) (d : Nat) (ac : Bool) (m : Mach) (r : Rg) (o : Nat), RowSm row d → (RegR ps row ac m r o).length ≤ (rowL row).length * XBd d
  | .nil, d, ac, m, r, o, _ => Nat.zero_le _
  | .cons k z i rest, d, ac, m, r, o, h => by
    obtain ⟨hd, hn, hz, hl, hi, hr⟩ := h
    obtain ⟨d', rfl⟩ : ∃ d', d = d' + 1 := ⟨d - 1, by omega⟩
    rw [Nat.add_sub_cancel] at hi
    have h2 := regR_len ps rest (d' + 1) ac m r (o + z) hr
    have h1 : (Regs ps (piece ac r (pnM m k) o z) i).length ≤ 1 + 6 * XBd d' := by
      unfold Regs
      rw [List.length_cons]
      cases e2 : ps[(piece ac r (pnM m k) o z).n]? with
      | none => show 0 + 1 ≤ _; omega
      | some p =>
        cases p with
        | plain => show 0 + 1 ≤ _; omega
        | shape => show 0 + 1 ≤ _; omega
        | strip ac' nm' jt' e' =>
          have h3 := regR_len ps i d' ac' (machineOf e') (piece ac r (pnM m k) o z) 0 hi
          have h4 : (rowL i).length * XBd d' ≤ 6 * XBd d' := Nat.mul_le_mul_right _ hl
          show (RegR ps i ac' (machineOf e') (piece ac r (pnM m k) o z) 0).length + 1 ≤ _
          omega
    rw [regR_cons, List.length_append]
    show _ ≤ ((rowL rest).length + 1) * XBd (d' + 1)
    rw [Nat.succ_mul]
    have e1 : XBd (d' + 1) = 1 + 6 * XBd d' := rfl
    omega
theorem regs_len {ps : List Part} {r : Rg} {row : Row} (hs : RowSm row 2) (hl : (rowL row).length ≤ 6) : (Regs ps r row).length ≤ 43 := by
  unfold Regs
  rw [List.length_cons]
  cases e2 : ps[r.n]? with
  | none => show 0 + 1 ≤ _; omega
  | some p =>
    cases p with
    | plain => show 0 + 1 ≤ _; omega
    | shape => show 0 + 1 ≤ _; omega
    | strip ac' nm' jt' e' =>
      have h3 := regR_len ps row 2 ac' (machineOf e') r 0 hs
      have h4 : (rowL row).length * XBd 2 ≤ 6 * XBd 2 := Nat.mul_le_mul_right _ hl
      have e1 : XBd 2 = 7 := rfl
      show (RegR ps row ac' (machineOf e') r 0).length + 1 ≤ _
      omega
/-! ### prices are small -/
theorem mov_le {ps : List Part} {lf : Nat} (gd : GoodL ps lf) : ∀ (row : Row) {n d : Nat} {nm jt : Str} {ac : Bool} {e : Ex}, ps[n]? = some (.strip ac nm jt e) → RowSm row d → MovR ps row (machineOf e) ≤ (rowL row).length * WBd d
  | .nil, n, d, nm, jt, ac, e, _, _ => Nat.zero_le _
  | .cons k z i r, n, d, nm, jt, ac, e, hp, h => by
    obtain ⟨hd, hn, hz, hl, hi, hr⟩ := h
    have h2 := mov_le gd r hp hr
    rw [movR_cons]
    obtain ⟨d', rfl⟩ : ∃ d', d = d' + 1 := ⟨d - 1, by omega⟩
    rw [Nat.add_sub_cancel] at hi
    have hc : pcM (machineOf e) k ≤ 2 := by
      unfold pcM
      cases e2 : (machineOf e).mvs[k]? with
      | none => exact Nat.zero_le _
      | some mv => exact (gd.mc _ (List.mem_of_getElem? hp) : ∀ mv ∈ (machineOf e).mvs, mv.c ≤ 2) mv (List.mem_of_getElem? e2)
    have h3 : Moved ps (pnM (machineOf e) k) i ≤ 6 * WBd d' := by
      unfold Moved
      cases e2 : ps[pnM (machineOf e) k]? with
      | none => exact Nat.zero_le _
      | some p =>
        cases p with
        | plain => exact Nat.zero_le _
        | shape => exact Nat.zero_le _
        | strip ac' nm' jt' e' => exact Nat.le_trans (mov_le gd i e2 hi) (Nat.mul_le_mul_right _ hl)
    have e1 : WBd (d' + 1) = 20 + 6 * WBd d' := rfl
    show _ ≤ ((rowL r).length + 1) * WBd (d' + 1)
    rw [Nat.succ_mul]
    omega
theorem price_le {ps : List Part} {lf : Nat} (gd : GoodL ps lf) {r : Rg} {row : Row} (hs : RowSm row 2) (hl : (rowL row).length ≤ 6) (hR : (Regs ps r row).length ≤ 43) : Price ps r row ≤ 969 := by
  have h1 : Moved ps r.n row ≤ 840 := by
    unfold Moved
    cases e2 : ps[r.n]? with
    | none => exact Nat.zero_le _
    | some p =>
      cases p with
      | plain => exact Nat.zero_le _
      | shape => exact Nat.zero_le _
      | strip ac' nm' jt' e' =>
        have := mov_le gd row e2 hs
        have h3 : (rowL row).length * WBd 2 ≤ 6 * WBd 2 := Nat.mul_le_mul_right _ hl
        exact Nat.le_trans this (Nat.le_trans h3 (by decide))
  have h2 : ((Leaves ps r row).map (pcR ps)).sum ≤ 129 := by
    have hl : (Leaves ps r row).length ≤ 43 := Nat.le_trans (List.length_filter_le _ _) hR
    have key : ∀ L : List Rg, (L.map (pcR ps)).sum ≤ 3 * L.length := by
      intro L
      induction L with
      | nil => exact Nat.zero_le _
      | cons l L ih =>
        have : pcR ps l ≤ 3 := by
          unfold pcR
          cases e : ps[l.n]? with
          | none => exact Nat.zero_le _
          | some p => exact gd.pc p (List.mem_of_getElem? e)
        rw [List.map_cons, List.sum_cons, List.length_cons]
        omega
    have := key (Leaves ps r row)
    omega
  unfold Price
  omega
end Sr
/-! SrEE: the law. -/
namespace Sr
open PySem PySem.Spec PyProof.Rows L2
local macro_rules | `(tactic| walk_at "tp") => `(tactic| first
  | exact Tp.refl _
  | assumption
  | exact Gr.tp (by assumption)
  | (refine Tp.trans ?_ (by first | assumption | exact Gr.tp (by assumption)); walk_at "tp"))
local macro_rules | `(tactic| walk_at "gr") => `(tactic| first
  | exact Gr.refl _ _
  | assumption
  | exact Gr.any (by assumption)
  | (refine Gr.trans ?_ (by first | assumption | exact Gr.any (by assumption)); walk_at "gr"))
local macro_rules | `(tactic| walk_at "rep") => `(tactic| first
  | exact Rep.int _ | exact Rep.str _ | exact Rep.bl _ | exact Rep.non
  | assumption
  | (refine Rep.mono ?_ (by assumption); walk_at "tp"))
local macro_rules | `(tactic| walk_at "repl") => `(tactic| repeat first
  | exact RepL.nil
  | (apply RepL.cons; (· walk_at "rep")))
local macro_rules | `(tactic| walk_at "step") => `(tactic| first
  | ((with_reducible apply w_var); rfl)
  | (with_reducible apply w_c)
  | (with_reducible apply w_op)
  | (with_reducible apply w_I0)
  | ((with_reducible apply w_ix); (· assumption); (· walk_at "tp"); (· decide); (· rfl); (intro x hx; first | (have e := Rep.intI hx; subst e; clear hx) | (have e := Rep.strI hx; subst e; clear hx) | (have e := Rep.blI hx; subst e; clear hx) | skip))
  | ((with_reducible apply w_ixU); (· assumption); (· walk_at "tp"); (· decide); (· rfl))
  | (with_reducible apply w_eqS)
  | (with_reducible apply w_eqI)
  | (with_reducible apply w_eqB)
  | (with_reducible apply w_neB)
  | (with_reducible apply w_test)
  | (with_reducible apply w_tB)
  | (with_reducible apply w_and)
  | (with_reducible apply w_or)
  | (with_reducible apply w_not)
  | (with_reducible apply w_nil)
  | (with_reducible apply w_cons)
  | (with_reducible apply w_CB)
  | (with_reducible apply w_call)
  | (with_reducible apply w_seq)
  | (with_reducible apply w_asg)
  | (with_reducible apply w_gname)
  | (with_reducible apply w_drop)
  | (with_reducible apply w_ret)
  | (with_reducible apply w_ifS)
  | (with_reducible apply w_next)
  | (with_reducible apply w_ifE)
  | (with_reducible apply w_andV)
  | (with_reducible apply w_orV)
  | (with_reducible apply w_notV)
  | (with_reducible apply w_tupE)
  | (with_reducible apply w_lstE)
  | (with_reducible apply w_bl)
  | ((with_reducible apply w_aug); rfl)
  | (with_reducible apply w_ip)
  | (with_reducible apply w_for1)
  | (with_reducible apply w_for2)
  | (with_reducible apply w_forT)
  | (with_reducible apply w_forL)
  | ((with_reducible apply w_lenD); (· assumption); (· walk_at "tp"))
  | (with_reducible apply w_min)
  | (with_reducible apply w_intI)
  | (with_reducible apply w_intB)
  | ((with_reducible apply w_I); (· first | decide | exact (by decide : (1000 : Int) ≠ 0) | exact ⟨by decide, by decide⟩ | exact ⟨by decide, by decide, by decide⟩ | exact .inr ⟨by decide, by decide⟩ | exact .inl ⟨by decide, by decide⟩))
  | (with_reducible apply w_bm)
  | (with_reducible apply w_bm0)
  | ((with_reducible apply w_tyL); (· assumption))
  | (with_reducible apply w_gsub)
  | (with_reducible apply w_fld)
  | (with_reducible apply w_gcons)
  | (with_reducible apply w_gnil)
  | ((with_reducible apply w_gtup); (· assumption); (· walk_at "tp"); (· rfl))
  | (with_reducible apply w_meth)
  | (with_reducible apply w_lc1)
  | (with_reducible apply w_lcL)
  | (with_reducible apply w_lcT)
  | (with_reducible apply w_yes)
  | (with_reducible apply w_m1)
  | (with_reducible apply w_dnotin)
  | (with_reducible apply w_din)
  | (with_reducible apply w_dget)
  | (with_reducible apply w_dput)
  | ((with_reducible apply w_ixL); (· assumption); (· decide); (· rfl)))
local macro_rules | `(tactic| walk_at "go") => `(tactic| repeat walk_at "step")
local macro_rules | `(tactic| walk_at "set") => `(tactic| dsimp only [List.set_cons_succ, List.set_cons_zero])

theorem op_neDK {X : Cx} {K : PySem.W.Frag} (h : X.K = K) (hu : X.A.units + 65 < cLine) : OpR X (compareOp .NotEq) (rNeD K) := h ▸ op_neD (by omega)
theorem w_unl {K : PySem.W.Frag} {σ : L2.St} {H : Hp} {a : Addr} {xs : List V} {n : Nat} {t : TGs} {R : L2.St → Hp → Prop} (h : H a = some (.lst xs)) (hn : xs.length = n) (q : t xs σ H R) : gUnl K n t (.ref a) σ H R := ⟨a, xs, rfl, SqL.of h, hn, q⟩
section
variable {P : Program} {w : World} {K : PySem.W.Frag} {mg : Str → Option Value} {base : Heap} {Pt : Addr}
def spSame : Sp := fun vs H Q _ => ∃ (v0 v1 : V) (ds : List PD), vs = [v0, v1] ∧ Rep H (.tuple ds) v0 ∧ Rep H (.tuple ds) v1 ∧ (PyData.showable (.tuple ds) = true ∧ PyData.hasDict (.tuple ds) = false ∧ PyData.depth (.tuple ds) ≤ 40 ∧ (PyData.shown (.tuple ds)).length ≤ sizeLine) ∧ Q (.bl true) H
theorem sc_l_same : FnScope ["_law_actual", "_law_due"] ["_law_actual", "_law_due"] (defScope (top 36)) := ⟨rfl, rfl, rfl, by decide +kernel, rfl, by decide +kernel, by decide +kernel⟩
theorem ok_l_same (R : Raw K mg "_law_same" (top 36) ["_law_actual", "_law_due"]) (B : Bi mg) : DefG P w K mg base 1 "_law_same" ["_law_actual", "_law_due"] spSame := by
  refine R.okG sc_l_same (fun vs H Q E h => ?_) (fun f cdv A outer s H vs Q E hg hr h => ?_)
  · obtain ⟨_, _, _, rfl, _⟩ := h; rfl
  obtain ⟨v0, v1, ds, rfl, h0, h1, ⟨k1, k2, k3, k4⟩, q⟩ := h
  refine ⟨_, (pss_one (ps_ret (pe_cmpR op_eq (pe_callB (call_reprT (K := K) rfl hg (hu65 hr)) (by rfl) B.repr bo_repr (pa_cons (pv 0) pa_nil)) (pe_callB (call_reprT (K := K) rfl hg (hu65 hr)) (by rfl) B.repr bo_repr (pa_cons (pv 1) pa_nil)) (nomark _)))), ?_⟩
  walk_at "go"
  refine ⟨v0, ds, rfl, h0.dp, k1, k2, k3, k4, ?_⟩
  walk_at "go"
  refine ⟨v1, ds, rfl, h1.dp, k1, k2, k3, k4, ?_⟩
  walk_at "go"
  rw [decide_eq_true rfl]
  exact q
def spLaw (K : PySem.W.Frag) (Pt : Addr) : Sp := fun vs H Q _ => ∃ (a : Addr) (ns : List Int), vs = [.ref a] ∧ SqL K H a (ns.map V.int) ∧ GxR.TabG H Pt ∧ ∀ H', Q (.bl true) H'
theorem sc_law : FnScope ["_law_script", "_law_parts_here", "_law_ways", "_law_region", "_law_readings", "_law_table", "_law_box", "_law_reading", "_law_rows", "_law_found", "_law_image", "_law_wrong_here", "_law_price_here", "_law_apart", "_law_other", "_law_gap", "_law_told"] ["_law_script"] (defScope (top 60)) := ⟨rfl, rfl, rfl, by decide +kernel, rfl, by decide +kernel, by decide +kernel⟩
theorem ok_law (k : Nat) (R : Raw K mg "law" (top 60) ["_law_script"]) (B : Bi mg) (D_l_world : Def P w K mg base k "_law_world" ["_law_script", "_law_limit"] (spWorld K)) (D_best : Def P w K mg base k "best" ["parts", "region", "rows", "wishes"] (spBest Pt)) (D_l_draw : Def P w K mg base k "_law_draw" ["_law_box", "_law_many"] spDraw) (D_l_drawn : Def P w K mg base k "_law_drawn" ["_law_parts_here", "_law_ways", "_law_region", "_law_reading"] spDrawn) (D_l_damaged : Def P w K mg base k "_law_damaged" ["_law_box", "_law_rows", "_law_region"] spDamaged) (D_l_unlike : Def P w K mg base k "_law_unlike" ["_law_one", "_law_other"] spUnlike) (D_l_price : Def P w K mg base k "_law_price" ["_law_parts_here", "_law_ways", "_law_region", "_law_reading"] spPrice) (D_l_same : DefG P w K mg base k "_law_same" ["_law_actual", "_law_due"] spSame) : DefG P w K mg base (k + 1) "law" ["_law_script"] (spLaw K Pt) := by
  refine R.okG sc_law (fun vs H Q E h => ?_) (fun f cdv A outer s H vs Q E hg hr h => ?_)
  · obtain ⟨_, _, rfl, _⟩ := h; rfl
  obtain ⟨a, ns, rfl, ha, hT, q⟩ := h
  refine ⟨_, (pss_cons (ps_asg (pe_d D_l_world hr (by rfl) (pa_cons (pv 0) (pa_cons pe_int pa_nil))) (pg_unl rfl (pgs_cons (pg_name (i := 1) sc_law.nd rfl (.inl rfl)) (pgs_cons (pg_name (i := 2) sc_law.nd rfl (.inl rfl)) (pgs_cons (pg_name (i := 3) sc_law.nd rfl (.inl rfl)) (pgs_cons (pg_name (i := 4) sc_law.nd rfl (.inl rfl)) (pgs_cons (pg_name (i := 5) sc_law.nd rfl (.inl rfl)) (pgs_cons (pg_name (i := 6) sc_law.nd rfl (.inl rfl)) pgs_nil))))))))
    (pss_cons (ps_if (pt_cmpR op_eq (pe_callB (ck_len (K := K) rfl) (by rfl) B.len bo_len (pa_cons (pv 4) pa_nil)) pe_int (nomark _))
      (pss_one (ps_ret (pe_cmpR op_isNa (pe_d D_best hr (by rfl) (pa_cons (pv 1) (pa_cons (pv 3) (pa_cons (pe_tup (pa_cons pe_str pa_nil)) (pa_cons (pe_tup (pa_cons (pe_tup pa_nil) (pa_cons (pe_tup pa_nil) pa_nil))) pa_nil))))) pe_non (nomark _))))
      pss_nil)
    (pss_cons (ps_set (i := 7) sc_law.nd rfl (.inl rfl) (pe_ix (ix_sq (K := K) rfl) (pv 4) (pe_op op_modN (pe_callTy cx_int (by rfl) B.int bo_int (pa_cons (pe_d D_l_draw hr (by rfl) (pa_cons (pv 6) (pa_cons pe_int pa_nil))) pa_nil)) (pe_callB (ck_len (K := K) rfl) (by rfl) B.len bo_len (pa_cons (pv 4) pa_nil))) (fun _ _ => rfl)))
    (pss_cons (ps_set (i := 8) sc_law.nd rfl (.inl rfl) (pe_d D_l_drawn hr (by rfl) (pa_cons (pv 1) (pa_cons (pv 2) (pa_cons (pv 3) (pa_cons (pv 7) pa_nil))))))
    (pss_cons (ps_asg (pe_d D_l_damaged hr (by rfl) (pa_cons (pv 6) (pa_cons (pv 8) (pa_cons (pv 3) pa_nil)))) (pg_unl rfl (pgs_cons (pg_name (i := 9) sc_law.nd rfl (.inl rfl)) (pgs_cons (pg_name (i := 10) sc_law.nd rfl (.inl rfl)) pgs_nil))))
    (pss_cons (ps_set (i := 11) sc_law.nd rfl (.inl rfl) (pe_d D_l_unlike hr (by rfl) (pa_cons (pv 8) (pa_cons (pv 9) pa_nil))))
    (pss_cons (ps_set (i := 12) sc_law.nd rfl (.inl rfl) (pe_d D_l_price hr (by rfl) (pa_cons (pv 1) (pa_cons (pv 2) (pa_cons (pv 3) (pa_cons (pv 7) pa_nil))))))
    (pss_cons (ps_set (i := 13) sc_law.nd rfl (.inl rfl) pe_bl)
    (pss_cons (ps_for PassesOwn.never rfl (pi_list (pv 4)) (pg_name (i := 14) sc_law.nd rfl (.inl rfl))
      (pss_one (ps_if (pt_cmpR (op_neDK (K := K) rfl (hu65 hr)) (pv 14) (pv 7) (nomark _))
        (pss_cons (ps_set (i := 15) sc_law.nd rfl (.inl rfl) (pe_op op_add (pe_d D_l_price hr (by rfl) (pa_cons (pv 1) (pa_cons (pv 2) (pa_cons (pv 3) (pa_cons (pv 14) pa_nil))))) (pe_d D_l_unlike hr (by rfl) (pa_cons (pv 8) (pa_cons (pe_d D_l_drawn hr (by rfl) (pa_cons (pv 1) (pa_cons (pv 2) (pa_cons (pv 3) (pa_cons (pv 14) pa_nil))))) pa_nil)))))
        (pss_one (ps_set (i := 13) sc_law.nd rfl (.inl rfl) (pe_and (pv 13) (pe_one (pe_cmpR op_gt (pv 15) (pe_op op_add (pv 12) (pe_op op_mul pe_int (pv 11))) (nomark _)))))))
        pss_nil)))
    (pss_cons (ps_set (i := 16) sc_law.nd rfl (.inl rfl) (pe_d D_best hr (by rfl) (pa_cons (pv 1) (pa_cons (pv 3) (pa_cons (pv 10) (pa_cons (pe_tup (pa_cons (pe_tup pa_nil) (pa_cons (pe_tup pa_nil) pa_nil))) pa_nil))))))
    (pss_cons (ps_if (PW.pt (pw_or (pt_cmpR op_isNa (pv 16) pe_non (nomark _)) (pw_or1 (pt_cmpR op_gt (pe_ix (ix_sq (K := K) rfl) (pv 16) pe_int (fun _ _ => rfl)) (pe_op op_add (pv 12) (pv 11)) (nomark _)))))
      (pss_one (ps_ret pe_bl))
      pss_nil)
    (pss_one (ps_ret (pe_or (pe_not (pv 13)) (pe_one (pe_dG hg D_l_same hr (by rfl) (pa_cons (pv 16) (pa_cons (pe_tup (pa_cons (pe_op op_add (pv 12) (pv 11)) (pa_cons (pv 7) pa_nil))) pa_nil)))))))))))))))))), ?_⟩
  walk_at "go"
  refine ⟨a, ns, rfl, ha, fun res vp vw vr la tbl b bl ds H1 ps lf r L g1 hres hvp hvw hvr hL hLl hLm hLn gd hn hw1 hw6 hh1 hh6 hx hy bx => ?_⟩
  refine w_unl hres rfl ?_
  have htwo := gd.two
  have hrk : r.n + 1 - lf ≤ 2 := by omega
  obtain ⟨lvs, hl, hlr⟩ := hL
  have hll : lvs.length = L.length := by rw [← hlr.length, List.length_map]
  have lab : la ≠ b := fun z => by
    subst z
    obtain ⟨_, _, n, hb⟩ := bx
    rw [hl] at hb
    have hb' : lvs = [V.ref bl, V.int (n : Nat)] := by injection hb with hb; injection hb
    subst hb'
    obtain ⟨d, hd, hr'⟩ := LD.getI hlr (i := 1) (x := .int (n : Nat)) rfl
    obtain ⟨row, _, rfl⟩ := map_getI hd
    obtain ⟨_, _, e, _⟩ := Rep.tupI hr'
    cases e
  walk_at "go"
  refine w_lenL hl ?_
  rw [hll]
  walk_at "go"
  refine if_of (fun h => ?_) (fun h => ?_)
  · have h0 : L.length = 0 := by have := of_decide_eq_true h; omega
    have hnone : ∀ row, ¬ Fil ps r row := fun row hr' => by
      have := (hLm row).mpr hr'
      rw [List.length_eq_zero_iff.mp h0] at this
      exact absurd this (by simp)
    walk_at "go"
    refine tup_new (ds := [.str "#"]) (by walk_at "repl") (by simp) fun p2 H2 _ _ g2 hp2 => ?_
    walk_at "go"
    refine tup_new .nil (Nat.zero_le _) fun p3 H3 _ _ g3 hp3 => ?_
    walk_at "go"
    refine tup_new .nil (Nat.zero_le _) fun p4 H4 _ _ g4 hp4 => ?_
    walk_at "go"
    refine tup_new (ds := [.tuple [], .tuple []]) (by walk_at "repl") (by simp) fun p5 H5 _ _ g5 hp5 => ?_
    walk_at "go"
    have G5 := g2.trans (g3.trans (g4.trans g5))
    refine ⟨vp, vr, .ref p2, .ref p5, ps, r, ["#"], rfl, hvp.mono G5.tp, hvr.mono G5.tp, hp2.mono (g3.tp.trans (g4.tp.trans g5.tp)), hp5, gd.toGood, hn, by omega, by omega, by omega, by omega, ?_, (g1.trans G5).tb _ hT, fun v H6 x g6 hv hb => ?_⟩
    · refine ⟨by decide, by decide, 1, by decide, fun z hz => ?_⟩
      rw [List.mem_singleton.mp hz]
      decide +kernel
    · cases x with
      | some p =>
        obtain ⟨c, row⟩ := p
        exact absurd ((cost_law gd _ r row c).mp hb.1).1 (hnone row)
      | none =>
        have := hv.nonI
        subst this
        walk_at "go"
        refine w_isN (b := true) rfl ?_
        exact q H6
  · have h0 : 0 < L.length := by have := of_decide_eq_false h; omega
    walk_at "go"
    refine ⟨b, bl, ds, 900, rfl, by decide, bx, fun u1 H2 hu1 g2 bx2 => ?_⟩
    have hl2 := g2.lst lab hl
    walk_at "go"
    refine w_lenL hl2 ?_
    rw [hll]
    obtain ⟨ix, hix, ex⟩ := fmod_nat (u1 : Int) (m := L.length) h0
    refine w_I (show ((L.length : Nat) : Int) ≠ 0 by omega) ?_
    rw [ex]
    have hLi : L[ix]? = some L[ix] := List.getElem?_eq_getElem hix
    obtain ⟨x0, hx0, rx0⟩ := hlr.get (n := ix) (d := encRow L[ix]) (by rw [List.getElem?_map, hLi]; rfl)
    have hmem0 : L[ix] ∈ L := List.getElem_mem _
    generalize L[ix] = row0 at *
    have hfil0 := (hLm row0).mp hmem0
    obtain ⟨sm0, ln0⟩ := fil_sm gd hrk hw6 hh6 hfil0
    walk_at "go"
    refine w_ixL hl2 (by omega) (by rw [Int.toNat_natCast]; exact hx0) ?_
    walk_at "go"
    have T2 := g2.tp
    refine ⟨vp, vw, vr, x0, ps, lf, r, row0, rfl, hvp.mono T2, hvw.mono T2, hvr.mono T2, rx0.mono T2, gd, hn, hw6, hh6, hfil0, fun ga as H3 g3 gan hga => ?_⟩
    have bx3 := bx2.gr g3
    have T3 := T2.trans g3.tp
    walk_at "go"
    refine ⟨b, bl, ds, ga, vr, r, _, rfl, bx3, hga.r, hvr.mono T3, hw1, hw6, hh1, hh6, by omega, by omega, fun ra fa vi H4 img g' g4 bx4 hra hfa hvi hio hpix => ?_⟩
    refine w_unl hra rfl ?_
    have hga4 : GridR H4 ga r.w r.h (atR r (Drawn ps r row0)) := ⟨as, g4.lst (bx2.ne gan) hga.top, hga.len, fun y a e => g4.lst (bx2.ne (hga.new a (List.mem_of_getElem? e))) (hga.row y a e)⟩
    have T4 := T3.trans g4.tp
    have hl4 := g4.lst lab (g3.lst id hl2)
    walk_at "go"
    refine ⟨ga, fa, r.w, r.h, _, g', rfl, hga4, hfa, by omega, by omega, ?_⟩
    walk_at "go"
    refine ⟨vp, vw, vr, x0, ps, lf, r, row0, rfl, hvp.mono T4, hvw.mono T4, hvr.mono T4, rx0.mono T4, gd, hn, hw6, hh6, hfil0, fun H5 g5 => ?_⟩
    have T5 := T4.trans g5.tp
    have hl5 := g5.lst id hl4
    have hga5 := hga4.gr g5
    have hT5 : GxR.TabG H5 Pt := g5.tb _ (g4.tb _ (g3.tb _ (g2.tb _ (g1.tb _ hT))))
    have hvi5 := hvi.mono g5.tp
    clear hga hfa hra hres
    walk_at "go"
    generalize hW : diffN r.w r.h (atR r (Drawn ps r row0)) g' = W
    generalize hP : Price ps r row0 = P0
    refine forL (SqL.of hl5) (fun i σ H' => ∃ (ap : Bool) (d14 d15 d16 : Option V), σ = [some (.ref a), some vp, some vw, some vr, some (.ref la), some (.ref tbl), some (.ref b), some x0, some (.ref ga), some (.ref fa), some vi, some (.int (W : Nat)), some (.int (P0 : Nat)), some (.bl ap), d14, d15, d16] ∧ Gr S0 H5 H' ∧
      (ap = true → ∀ row ∈ L.take i, row ≠ row0 → P0 + 2 * W < Price ps r row + diffN r.w r.h (atR r (Drawn ps r row0)) (atR r (Drawn ps r row)))) ⟨true, _, _, _, rfl, Gr.refl _ _, fun _ row hr' => absurd hr' (by simp)⟩ (fun i σ H' hp => by obtain ⟨_, _, _, _, _, g, _⟩ := hp; exact SqL.of (g.lst id hl5)) (fun i x σ H6 hi hp => ?_) (fun σ H6 hp => ?_)
    · obtain ⟨ap, d14, d15, d16, rfl, g6, hap⟩ := hp
      obtain ⟨d, hd, hxr⟩ := LD.getI hlr hi
      obtain ⟨row, hrow, rfl⟩ := map_getI hd
      have et := take_get hrow
      have hmem := List.mem_of_getElem? hrow
      have hfil := (hLm row).mp hmem
      obtain ⟨sm1, ln1⟩ := fil_sm gd hrk hw6 hh6 hfil
      have T6 := T5.trans g6.tp
      have hx6 := hxr.mono T6
      have rx6 := rx0.mono T6
      walk_at "go"
      refine ⟨encRow row, encRow row0, hx6.dp, rx6.dp, row_shaped sm1, row_shaped sm0, ?_⟩
      have eeq : PyData.eqv (encRow row) (encRow row0) = decide (row = row0) := row_eqv row row0
      rw [eeq, et]
      refine ⟨_, rfl, if_of (fun h => ?_) (fun h => ?_)⟩
      · have hne : row ≠ row0 := by simpa using h
        walk_at "go"
        refine ⟨vp, vw, vr, x, ps, lf, r, row, rfl, hvp.mono T6, hvw.mono T6, hvr.mono T6, hx6, gd, hn, hw6, hh6, hfil, fun H7 g7 => ?_⟩
        have T7 := T6.trans g7.tp
        walk_at "go"
        refine ⟨vp, vw, vr, x, ps, lf, r, row, rfl, hvp.mono T7, hvw.mono T7, hvr.mono T7, hx6.mono g7.tp, gd, hn, hw6, hh6, hfil, fun gb bs H8 g8 gbn hgb => ?_⟩
        walk_at "go"
        refine ⟨ga, gb, r.w, r.h, _, _, rfl, (hga5.gr g6).gr (g7.trans g8), hgb.r, by omega, by omega, ?_⟩
        walk_at "go"
        have G8 := g6.trans (g7.trans g8)
        refine if_of (fun hap1 => ?_) (fun hap0 => ?_)
        · walk_at "go"
          refine ⟨_, _, _, _, rfl, G8, fun e row' hr' hne' => ?_⟩
          have hgt := of_decide_eq_true e
          rcases List.mem_append.mp hr' with hr' | hr'
          · exact hap hap1 row' hr' hne'
          · rw [List.mem_singleton.mp hr']
            omega
        · walk_at "go"
          exact ⟨_, _, _, _, rfl, G8, fun e => by cases e⟩
      · have he : row = row0 := by simpa using h
        refine ⟨ap, _, _, _, rfl, g6, fun e row' hr' hne => ?_⟩
        rcases List.mem_append.mp hr' with hr' | hr'
        · exact hap e row' hr' hne
        · rw [List.mem_singleton.mp hr'] at hne
          exact absurd he hne
    · obtain ⟨ap, d14, d15, d16, rfl, g6, hap⟩ := hp
      rw [hll, List.take_length] at hap
      have T6 := T5.trans g6.tp
      walk_at "go"
      refine tup_new .nil (Nat.zero_le _) fun p3 H7 _ _ g7 hp3 => ?_
      walk_at "go"
      refine tup_new .nil (Nat.zero_le _) fun p4 H8 _ _ g8 hp4 => ?_
      walk_at "go"
      refine tup_new (ds := [.tuple [], .tuple []]) (by walk_at "repl") (by simp) fun p5 H9 _ _ g9 hp5 => ?_
      walk_at "go"
      have G9 := g7.trans (g8.trans g9)
      have T9 := T6.trans G9.tp
      have hfilc : FillR ps (lcost ps img) r row0 (P0 + W) := by
        rw [cost_law gd]
        refine ⟨hfil0, ?_⟩
        rw [hP, ← hW, diffN_comm]
        congr 1
        exact diffN_congr (fun x y hx hy => (hpix x y hx hy).symm) fun _ _ _ _ => rfl
      have hpg : ∀ row, diffN r.w r.h (atR r (pix img)) (atR r (Drawn ps r row)) = diffN r.w r.h g' (atR r (Drawn ps r row)) := fun row => diffN_congr (fun x y hx hy => hpix x y hx hy) fun _ _ _ _ => rfl
      refine ⟨vp, vr, vi, .ref p5, ps, r, img, rfl, hvp.mono T9, hvr.mono T9, hvi5.mono (g6.tp.trans G9.tp), hp5, gd.toGood, hn, by omega, by omega, by omega, by omega, hio, (g6.trans G9).tb _ hT5, fun v H10 x g10 hv hb => ?_⟩
      cases x with
      | none => exact absurd hfilc (hb row0 (P0 + W))
      | some pr =>
        obtain ⟨c, row1⟩ := pr
        have hc1 := hb.2 row0 (P0 + W) hfilc
        obtain ⟨hfil1, hcost1⟩ := (cost_law gd img r row1 c).mp hb.1
        rw [hpg] at hcost1
        obtain ⟨a1, us1, hve, ha1, hl1⟩ := Rep.tupI hv
        have hv' := hv
        change Rep H10 (.tuple [.int c, .tuple (rowL row1)]) v at hv'
        walk_at "go"
        refine w_isN (b := false) (by rw [hve]; rfl) ?_
        refine ⟨_, rfl, if_of (fun h => by cases h) (fun _ => ?_)⟩
        walk_at "go"
        refine if_of (fun h => ?_) (fun h => ?_)
        · have := of_decide_eq_true h
          omega
        walk_at "go"
        cases ap with
        | false =>
          refine if_of (fun _ => ?_) (fun h => by cases h)
          exact q H10
        | true =>
          refine if_of (fun h => by cases h) (fun _ => ?_)
          have hrow : row1 = row0 := by
            by_cases he : row1 = row0
            · exact he
            · exfalso
              have h1 := hap rfl row1 ((hLm row1).mpr hfil1) he
              have h2 := diffN_tri r.w r.h (atR r (Drawn ps r row0)) g' (atR r (Drawn ps r row1))
              rw [hW] at h2
              omega
          subst hrow
          have hcw : c = P0 + W := by
            rw [hcost1, hP, diffN_comm, hW]
          subst hcw
          have rx10 := rx0.mono (T9.trans g10.tp)
          walk_at "go"
          have e1 : (P0 : Int) + (W : Int) = ((P0 + W : Nat) : Int) := by omega
          rw [e1]
          refine tup_new (ds := [.int (P0 + W : Nat), encRow row1]) (.cons (.int _) (.cons rx10 .nil)) (by simp) fun p11 H11 _ _ g11 hp11 => ?_
          walk_at "go"
          have hP9 : P0 ≤ 969 := by rw [← hP]; exact price_le gd sm0 ln0 (regs_len sm0 ln0)
          have hW36 : W ≤ 36 := by
            rw [← hW]
            unfold diffN
            have h1 : (sumN r.h fun y => sumN r.w fun x => Sr.b2 (atR r (Drawn ps r row1) x y != g' x y)) ≤ sumN r.h fun _ => 6 := sumN_le fun y _ => by
              have h2 : (sumN r.w fun x => Sr.b2 (atR r (Drawn ps r row1) x y != g' x y)) ≤ sumN r.w fun _ => 1 := sumN_le fun x _ => by
                cases (atR r (Drawn ps r row1) x y != g' x y) <;> decide
              have h3 : ∀ n, (sumN n fun _ => 1) = n := fun n => by
                induction n with
                | zero => rfl
                | succ n ih => show (sumN n fun _ => 1) + 1 = n + 1; rw [ih]
              rw [h3] at h2
              omega
            have h4 : ∀ n, (sumN n fun _ => 6) = 6 * n := fun n => by
              induction n with
              | zero => rfl
              | succ n ih => show (sumN n fun _ => 6) + 6 = 6 * (n + 1); rw [ih]; omega
            rw [h4] at h1
            omega
          refine ⟨v, .ref p11, [.int (P0 + W : Nat), encRow row1], rfl, hv.mono g11.tp, hp11, told_show sm0 ln0 (by omega), ?_⟩
          exact q H11
end
end Sr
/-! SrFF: all defs in a row. -/
namespace Sr
open PySem PySem.Spec PyProof.Rows L2
structure Raws (K : PySem.W.Frag) (mg : Str → Option Value) (C c : Addr) : Prop where
  r_extent : Raw K mg "extent" (top 14) ["part", "region"]
  r_piece : Raw K mg "piece" (top 15) ["part", "region", "offset", "number", "size"]
  r_is_strip : Raw K mg "is_strip" (top 1) ["part"]
  r_pixel : Raw K mg "pixel" (top 22) ["rows", "x", "y"]
  r_leaf_pixel : Raw K mg "leaf_pixel" (top 26) ["part", "x", "y"]
  r_fits : Raw K mg "fits" (top 27) ["part", "region"]
  r_leaf_cost : Raw K mg "leaf_cost" (top 28) ["part", "region", "rows"]
  r_l_strip : Raw K mg "_law_strip" (top 41) ["_law_part"]
  r_l_extent : Raw K mg "_law_extent" (top 42) ["_law_part", "_law_region"]
  r_l_piece : Raw K mg "_law_piece" (top 43) ["_law_part", "_law_region", "_law_number", "_law_offset", "_law_size"]
  r_l_fits : Raw K mg "_law_fits" (top 44) ["_law_part", "_law_region"]
  r_l_cell : Raw K mg "_law_cell" (top 33) ["_law_script", "_law_k"]
  r_l_digits : Raw K mg "_law_digits" (top 34) ["_law_script", "_law_first", "_law_last"]
  r_l_draw : Raw K mg "_law_draw" (top 35) ["_law_box", "_law_many"]
  r_l_leaf : Raw K mg "_law_leaf" (top 37) ["_law_box", "_law_k", "_law_wide"]
  r_l_place : Raw K mg "_law_place" (top 38) ["_law_box", "_law_parts_here", "_law_direction"]
  r_l_choice : Raw K mg "_law_choice" (top 39) ["_law_box", "_law_parts_here", "_law_direction", "_law_depth"]
  r_l_parts : Raw K mg "_law_parts" (top 40) ["_law_box", "_law_wide", "_law_strips"]
  r_joined : Raw K mg "joined" (top 2) ["one", "other"]
  r_P_init : RawI K C "Places.__init__" (inClass (top 3) 0) ["self"]
  r_P_add : RawM K C "add" "Places.add" (inClass (top 3) 1) ["self", "place"]
  r_P_link : RawM K C "link" "Places.link" (inClass (top 3) 2) ["self", "lasts", "firsts"]
  r_walk_place : Raw K mg "walk_place" (top 4) ["places", "choice"]
  r_walk_sequence : Raw K mg "walk_sequence" (top 5) ["places", "choice"]
  r_walk_choice : Raw K mg "walk_choice" (top 6) ["places", "choice"]
  r_walk_repeated : Raw K mg "walk_repeated" (top 7) ["places", "choice"]
  r_walk_maybe : Raw K mg "walk_maybe" (top 8) ["places", "choice"]
  r_walk : Raw K mg "walk" (top 10) ["places", "choice"]
  r_machine : Raw K mg "machine" (top 11) ["choice"]
  r_machines : Raw K mg "machines" (top 12) ["parts"]
  r_reached : Raw K mg "reached" (top 16) ["moves", "far"]
  r_looks_at : Raw K mg "looks_at" (top 17) ["moves", "state", "left"]
  r_pieces_looked_at : Raw K mg "pieces_looked_at" (top 18) ["part", "moves", "region"]
  r_looks_of : Raw K mg "looks_of" (top 19) ["parts", "table", "region"]
  r_needed_with : Raw K mg "needed_with" (top 20) ["parts", "table", "region"]
  r_allowed : RawC K mg "allowed" (top 25) ["parts", "region", "wishes"] c
  r_best_rests : Raw K mg "best_rests" (top 29) ["part", "machine", "region", "table"]
  r_best_table : Raw K mg "best_table" (top 30) ["parts", "region", "rows", "wishes"]
  r_best : Raw K mg "best" (top 31) ["parts", "region", "rows", "wishes"]
  r_l_count : Raw K mg "_law_count" (top 46) ["_law_parts_here", "_law_ways", "_law_region", "_law_table"]
  r_l_spots : Raw K mg "_law_spots" (top 45) ["_law_parts_here", "_law_ways", "_law_region", "_law_table"]
  r_l_all : Raw K mg "_law_all" (top 48) ["_law_parts_here", "_law_ways", "_law_region", "_law_table"]
  r_l_rests : Raw K mg "_law_rests" (top 47) ["_law_parts_here", "_law_ways", "_law_region", "_law_spot", "_law_table"]
  r_l_regions : Raw K mg "_law_regions" (top 49) ["_law_parts_here", "_law_ways", "_law_region", "_law_reading"]
  r_l_moved : Raw K mg "_law_moved" (top 50) ["_law_ways", "_law_number", "_law_reading"]
  r_l_leaves : Raw K mg "_law_leaves" (top 53) ["_law_parts_here", "_law_found"]
  r_l_price : Raw K mg "_law_price" (top 57) ["_law_parts_here", "_law_ways", "_law_region", "_law_reading"]
  r_l_unlike : Raw K mg "_law_unlike" (top 58) ["_law_one", "_law_other"]
  r_l_drawn : Raw K mg "_law_drawn" (top 56) ["_law_parts_here", "_law_ways", "_law_region", "_law_reading"]
  r_l_damaged : Raw K mg "_law_damaged" (top 59) ["_law_box", "_law_rows", "_law_region"]
  r_l_world : Raw K mg "_law_world" (top 55) ["_law_script", "_law_limit"]
  r_l_same : Raw K mg "_law_same" (top 36) ["_law_actual", "_law_due"]
  r_law : Raw K mg "law" (top 60) ["_law_script"]
section
variable {P : Program} {w : World} {K : PySem.W.Frag} {mg : Str → Option Value} {base : Heap} {C c Pt wd : Addr}
theorem DefG.mono {j k : Nat} {nm : Str} {ps : List Str} {sp : Sp} (D : DefG P w K mg base j nm ps sp) (h : j ≤ k) : DefG P w K mg base k nm ps sp :=
  let ⟨f, fd, a, b⟩ := D; ⟨f, fd, ⟨a.len, fun A outer s H args us vs Q E hg hr => a.run A outer s H args us vs Q E hg (hr.mono h)⟩, b⟩
theorem law_all (R : Raws K mg C c) (B : Bi mg) (T : PT K mg C) (TW : WT K w mg wd) (TB : GxR.TabB base mg c Pt) : DefG P w K mg base 33 "law" ["_law_script"] (spLaw K Pt) := by
  have extent : Def P w K mg base 1 "extent" ["part", "region"] spExtent := ok_extent R.r_extent
  have piece : Def P w K mg base 1 "piece" ["part", "region", "offset", "number", "size"] spPiece := ok_piece R.r_piece
  have is_strip : Def P w K mg base 1 "is_strip" ["part"] spIsStrip := ok_is_strip R.r_is_strip
  have pixel : Def P w K mg base 1 "pixel" ["rows", "x", "y"] spPixel := ok_pixel R.r_pixel B
  have leaf_pixel : Def P w K mg base 1 "leaf_pixel" ["part", "x", "y"] spLeafPixel := ok_leaf_pixel R.r_leaf_pixel
  have fits : Def P w K mg base 1 "fits" ["part", "region"] spFits := ok_fits R.r_fits B
  have leaf_cost : Def P w K mg base 2 "leaf_cost" ["part", "region", "rows"] spLeafCost := ok_leaf_cost R.r_leaf_cost B pixel leaf_pixel
  have l_strip : Def P w K mg base 1 "_law_strip" ["_law_part"] spLStrip := ok_l_strip R.r_l_strip
  have l_extent : Def P w K mg base 1 "_law_extent" ["_law_part", "_law_region"] spExtent := ok_l_extent R.r_l_extent
  have l_piece : Def P w K mg base 1 "_law_piece" ["_law_part", "_law_region", "_law_number", "_law_offset", "_law_size"] spLPiece := ok_l_piece R.r_l_piece
  have l_fits : Def P w K mg base 1 "_law_fits" ["_law_part", "_law_region"] spFits := ok_l_fits R.r_l_fits B
  have l_cell : Def P w K mg base 1 "_law_cell" ["_law_script", "_law_k"] (spCell K) := ok_l_cell R.r_l_cell B
  have l_digits : Def P w K mg base 2 "_law_digits" ["_law_script", "_law_first", "_law_last"] (spDigits K) := ok_l_digits R.r_l_digits B l_cell
  have l_draw : Def P w K mg base 1 "_law_draw" ["_law_box", "_law_many"] spDraw := ok_l_draw R.r_l_draw B
  have l_leaf : Def P w K mg base 2 "_law_leaf" ["_law_box", "_law_k", "_law_wide"] spLeaf := ok_l_leaf R.r_l_leaf B l_draw
  have l_place : Def P w K mg base 2 "_law_place" ["_law_box", "_law_parts_here", "_law_direction"] spPlace := ok_l_place R.r_l_place B l_draw
  have l_choice0 : Def P w K mg base 0 "_law_choice" ["_law_box", "_law_parts_here", "_law_direction", "_law_depth"] (spChoice 0) := Raw.zero R.r_l_choice fun vs H Q E h => by
    obtain ⟨_, _, _, _, _, _, _, _, h, _⟩ := h
    omega
  have l_choice1 := ok_l_choice 0 R.r_l_choice B (l_draw.mono (by decide)) (l_place.mono (by decide)) (l_choice0.mono (by decide))
  have l_choice2 := ok_l_choice 1 R.r_l_choice B (l_draw.mono (by decide)) (l_place.mono (by decide)) (l_choice1.mono (by decide))
  have l_choice3 := ok_l_choice 2 R.r_l_choice B (l_draw.mono (by decide)) (l_place.mono (by decide)) (l_choice2.mono (by decide))
  have l_parts := ok_l_parts R.r_l_parts B (l_draw.mono (by decide)) (l_leaf.mono (by decide)) (l_choice3.mono (by decide))
  have joined : Def P w K mg base 1 "joined" ["one", "other"] spJoined := ok_joined R.r_joined
  have P_init : DefI P w K mg base C 1 ["self"] (spInit C) := ok_P_init R.r_P_init T
  have P_add : DefM P w K mg base C 1 "add" ["self", "place"] (spAdd C) := ok_P_add R.r_P_add T B
  have P_link : DefM P w K mg base C 2 "link" ["self", "lasts", "firsts"] (spLink C) := ok_P_link R.r_P_link T joined
  have walk := walk_all R.r_walk R.r_walk_place R.r_walk_sequence R.r_walk_choice R.r_walk_repeated R.r_walk_maybe T TW P_add P_link joined 4
  have P_init9 : DefI P w K mg base C 9 ["self"] (spInit C) := let ⟨f, fd, a, b⟩ := P_init; ⟨f, fd, a.mono (by decide), b⟩
  have machine := ok_machine R.r_machine B T P_init9 (P_link.mono (by decide)) walk
  have machines := ok_machines R.r_machines B (is_strip.mono (by decide)) machine
  have reached : Def P w K mg base 1 "reached" ["moves", "far"] spReached := ok_reached R.r_reached B
  have looks_at : Def P w K mg base 1 "looks_at" ["moves", "state", "left"] spLooksAt := ok_looks_at R.r_looks_at B
  have pieces := ok_pieces_looked_at R.r_pieces_looked_at B extent reached looks_at piece
  have looks_of := ok_looks_of R.r_looks_of B (is_strip.mono (by decide)) pieces
  have needed := ok_needed_with R.r_needed_with B looks_of
  have allowed := ok_allowed R.r_allowed B TB (is_strip.mono (by decide))
  have best_rests := ok_best_rests R.r_best_rests B extent reached looks_at piece
  have best_table := ok_best_table R.r_best_table B machines (needed.mono (by decide)) (allowed.mono (by decide)) (is_strip.mono (by decide)) (best_rests.mono (by decide)) (fits.mono (by decide)) (leaf_cost.mono (by decide))
  have best := ok_best R.r_best B best_table
  have count0 : Def P w K mg base 0 "_law_count" ["_law_parts_here", "_law_ways", "_law_region", "_law_table"] (spCount 0) := Raw.zero R.r_l_count fun vs H Q E h => by
      obtain ⟨_, _, _, _, _, _, _, _, _, _, _, _, _, _, _, _, _, _, h, _⟩ := h
      omega
  have count : ∀ d, Def P w K mg base (2 * d + 1) "_law_count" ["_law_parts_here", "_law_ways", "_law_region", "_law_table"] (spCount d) := fun d => by
    induction d with
    | zero => exact count0.mono (by decide)
    | succ d ih => exact ok_l_count d R.r_l_count B (l_strip.mono (by omega)) (l_fits.mono (by omega)) (ok_l_spots d R.r_l_spots B (l_extent.mono (by omega)) (l_piece.mono (by omega)) ih)
  have count3 := count 3
  have rests : ∀ d k, 7 ≤ k → Def P w K mg base k "_law_all" ["_law_parts_here", "_law_ways", "_law_region", "_law_table"] (spAll d) → ∀ b, Def P w K mg base (k + b) "_law_rests" ["_law_parts_here", "_law_ways", "_law_region", "_law_spot", "_law_table"] (spRests d b) := fun d k hk D b => by
    induction b with
    | zero =>
      refine (Raw.zero R.r_l_rests fun vs H Q E h => ?_).mono (Nat.zero_le _)
      obtain ⟨_, _, _, _, _, _, _, _, _, _, _, _, _, _, _, _, _, _, _, _, _, _, _, _, _, _, _, _, _, _, _, _, _, _, h, _⟩ := h
      omega
    | succ b ih => exact ok_l_rests d b (k + b) R.r_l_rests B (l_extent.mono (by omega)) (l_piece.mono (by omega)) (count3.mono (by omega)) ih (D.mono (by omega))
  have all : ∀ d, Def P w K mg base (8 * d + 7) "_law_all" ["_law_parts_here", "_law_ways", "_law_region", "_law_table"] (spAll d) := fun d => by
    induction d with
    | zero =>
      refine (Raw.zero R.r_l_all fun vs H Q E h => ?_).mono (Nat.zero_le _)
      obtain ⟨_, _, _, _, _, _, _, _, _, _, _, _, _, _, _, _, _, _, _, h, _⟩ := h
      omega
    | succ d ih => exact ok_l_all d (8 * d + 7 + 7) R.r_l_all B (l_strip.mono (by omega)) (count3.mono (by omega)) (rests d (8 * d + 7) (by omega) ih 7)
  have regions : ∀ d, Def P w K mg base (d + 1) "_law_regions" ["_law_parts_here", "_law_ways", "_law_region", "_law_reading"] (spRegions d) := fun d => by
    induction d with
    | zero =>
      refine (Raw.zero R.r_l_regions fun vs H Q E h => ?_).mono (Nat.zero_le _)
      obtain ⟨_, _, _, _, _, _, _, _, _, _, _, _, _, _, _, _, _, h, _⟩ := h
      omega
    | succ d ih => exact ok_l_regions d (d + 1) R.r_l_regions B (l_strip.mono (by omega)) (l_piece.mono (by omega)) ih
  have moved : ∀ d, Def P w K mg base d "_law_moved" ["_law_ways", "_law_number", "_law_reading"] (spMoved d) := fun d => by
    induction d with
    | zero =>
      refine (Raw.zero R.r_l_moved fun vs H Q E h => ?_).mono (Nat.zero_le _)
      obtain ⟨_, _, _, _, _, _, _, _, _, _, _, _, _, h, _⟩ := h
      omega
    | succ d ih => exact ok_l_moved d d R.r_l_moved B ih
  have leaves := ok_l_leaves R.r_l_leaves B l_strip
  have price := ok_l_price R.r_l_price B ((regions 3).mono (by decide)) ((moved 3).mono (by decide)) (leaves.mono (by decide))
  have drawn := ok_l_drawn R.r_l_drawn B ((regions 3).mono (by decide)) (leaves.mono (by decide))
  have unlike : Def P w K mg base 1 "_law_unlike" ["_law_one", "_law_other"] spUnlike := ok_l_unlike R.r_l_unlike B
  have damaged := ok_l_damaged R.r_l_damaged B l_draw
  have world := ok_l_world 31 R.r_l_world B (l_digits.mono (by decide)) (l_draw.mono (by decide)) (l_parts.mono (by decide)) (machines.mono (by decide)) (count3.mono (by decide)) (all 3)
  have same : DefG P w K mg base 1 "_law_same" ["_law_actual", "_law_due"] spSame := ok_l_same R.r_l_same B
  exact ok_law 32 R.r_law B world (best.mono (by decide)) (l_draw.mono (by decide)) (drawn.mono (by decide)) (damaged.mono (by decide)) (unlike.mono (by decide)) (price.mono (by decide)) (same.mono (by decide))
end
end Sr
/-! SrGG: the law's call from the top, one table of a code object; the promise is asked for where no guard stands. -/
namespace Sr
open PySem PySem.Spec PyProof.Rows L2
/-- what is tracked when the law starts: the table, and the script if the top's fragment does not hold it -/
def start0 (K : PySem.W.Frag) (Pt a : Addr) (ob : Obj) (xs : List V) : Hp := fun b =>
  if b = Pt then some (.tbl #[]) else if b = a ∧ K.lookup a = none then some (.frz ob (.lst xs)) else none
theorem start0_cases {K : PySem.W.Frag} {Pt a : Addr} {ob : Obj} {xs : List V} {b : Addr} {u : HO} (h : start0 K Pt a ob xs b = some u) :
    (b = Pt ∧ u = .tbl #[]) ∨ (b = a ∧ K.lookup a = none ∧ u = .frz ob (.lst xs)) := by
  unfold start0 at h
  split at h
  · rename_i e
    exact .inl ⟨e, (Option.some.inj h).symm⟩
  · split at h
    · rename_i e
      exact .inr ⟨e.1, e.2, (Option.some.inj h).symm⟩
    · cases h
theorem start0_free {K : PySem.W.Frag} {Pt a : Addr} {ob : Obj} {xs : List V} {b : Addr} (h1 : b ≠ Pt) (h2 : b ≠ a) : start0 K Pt a ob xs b = none := by
  unfold start0
  rw [if_neg h1, if_neg fun z => h2 z.1]
theorem law_callG {P : Program} {w : World} {K : PySem.W.Frag} {mg mb : Str → Option Value} {k : Nat} {fa a c Pt : Addr} {nm x : Str} {sp : Sp} {s₁ : Shared} {vs : List Value} {ns : List Int}
    (KX : K.In s₁.heap) (hns : s₁.heap.Ns mainGlobals mg) (hb : s₁.heap.Ns builtinsNs mb) (hbb : ∀ x : Str, x ≠ "__name__" → mb x = bootBuiltins x) (hlim : s₁.heap.NoLimit) (hg : s₁.gens = #[])
    (hT : s₁.heap.get? Pt = some { cls := .none, data := .fields #[] }) (nT : K.lookup Pt = none) (C : PySem.W.CodeHd s₁.heap c Pt)
    (hbm : ∃ (bm : Addr) (ob : Obj), mg "__builtins__" = some (.ref bm) ∧ bm ≠ builtinsNs ∧ s₁.heap.get? bm = some ob ∧ ob.cls = .type "module" ∧ ob.dict = some builtinsNs ∧ ob.data = .plain)
    (ha : s₁.heap.get? a = some { cls := .type "list", data := .seq vs.toArray }) (hi : IntsAre vs ns) (hl : ns.length ≤ sizeLine) (hr : Room k callerA)
    (F : ∀ base : Heap, K.In base → base.Ns mainGlobals mg → GxR.TabB base mg c Pt → DefG P w K mg base k nm [x] sp) (hfa : mg nm = some (.ref fa))
    (hsp : ∀ H : Hp, H Pt = some (.tbl #[]) → SqL K H a (ns.map V.int) → sp [.ref a] H (fun v _ => v = .bl true) fun _ _ _ => False) :
    codeAny (model P w) callerA (.call (.ref fa) ⟨[.ref a], []⟩) (fun r s' => r = .ok (.ret (.bool true)) ∧ OldK s₁.heap s'.heap ∧ s'.os = s₁.os ∧ AllBare s'.gens) s₁ := by
  have rv := vals_ints hi
  have nPa : a ≠ Pt := fun z => by
    rw [z, hT] at ha
    cases ha
  let ob : Obj := { cls := .type "list", data := .seq vs.toArray }
  let H : Hp := start0 K Pt a ob (ns.map V.int)
  have hPt : H Pt = some (.tbl #[]) := if_pos rfl
  have hHa : K.lookup a = none → H a = some (.frz ob (.lst (ns.map V.int))) := fun e => (if_neg nPa).trans (if_pos ⟨rfl, e⟩)
  -- the object at a tracked place is the table or the script
  have trk : ∀ {b : Addr} {o : Obj}, s₁.heap.get? b = some o → H b = none ∨ o.data = .fields #[] ∨ o = ob := fun {b o} e => by
    cases q : H b with
    | none => exact .inl rfl
    | some u =>
      rcases start0_cases q with ⟨e', _⟩ | ⟨e', _, _⟩
      · rw [e', hT] at e
        cases e
        exact .inr (.inl rfl)
      · rw [e', ha] at e
        exact .inr (.inr (Option.some.inj e).symm)
  have low : ∀ {b : Addr} {o : Obj}, s₁.heap.get? b = some o → (∀ us n, o.data ≠ .seq us n) → o.data ≠ .fields #[] → (hidT s₁.heap H).get? b = some o := fun {b o} e h1 h2 => by
    rcases trk e with z | z | z
    · exact hidT_get e z
    · exact absurd z h2
    · subst z
      exact absurd rfl (h1 _ _)
  have nsD : ∀ {b : Addr} {m : Str → Option Value}, s₁.heap.Ns b m → (hidT s₁.heap H).Ns b m := fun {b m} ⟨o, es, ep, e, d, r⟩ =>
    ⟨o, es, ep, low e (fun us n z => by rw [d] at z; cases z) (fun z => by rw [d] at z; cases z), d, r⟩
  have KB : K.In (hidT s₁.heap H) := fun b o e => by
    cases q : H b with
    | none => exact hidT_get (KX b o e) q
    | some u =>
      rcases start0_cases q with ⟨e', _⟩ | ⟨e', n, _⟩
      · rw [e', nT] at e; cases e
      · rw [e', n] at e; cases e
  have hM : L2.Mod K mg (hidT s₁.heap H) := ⟨KB, nsD hns, ⟨mb, nsD hb, hbb⟩, let ⟨mc, h1, h2⟩ := hlim; ⟨mc, nsD h1, h2⟩⟩
  have TB : GxR.TabB (hidT s₁.heap H) mg c Pt := by
    refine ⟨?_, ?_, fun z => ?_⟩
    · obtain ⟨o, us, file, tf, flags, tg, inF, text, tt, e1, r1, r2, r3, r4, r5, r6, r7, r8, hne⟩ := C
      refine ⟨o, us, file, tf, flags, tg, inF, text, tt, low e1 (fun _ n z => ?_) fun z => ?_, r1, r2, r3, r4, r5, r6, r7, r8, hne⟩
      · rw [r2] at z; cases z
      · rw [r2] at z
        cases z
        simp at r3
    · obtain ⟨bm, o, b1, b2, b3, b4, b5, b6⟩ := hbm
      refine ⟨bm, o, b1, b2, fun q => ?_, fun q => ?_, low b3 (fun _ n z => ?_) fun z => ?_, b4, b5, b6⟩
      · obtain ⟨o', es, ep, e, hd, _⟩ := hns
        rw [q, e] at b3
        cases b3
        rw [hd] at b6
        cases b6
      · rw [q, hT] at b3
        cases b3
        cases b6
      · rw [b6] at z; cases z
      · rw [b6] at z; cases z
    · obtain ⟨o, es, ep, e, hd, _⟩ := hns
      rw [z, hT] at e
      cases e
      cases hd
  have hok : HOk P w H s₁.heap := fun b u z => by
    rcases start0_cases z with ⟨rfl, rfl⟩ | ⟨rfl, _, rfl⟩
    · exact hT
    · exact ⟨ha, by rw [List.length_map]; exact hl, vs, _, rv, ha⟩
  have hS : SqL K H a (ns.map V.int) := by
    cases q : K.lookup a with
    | none => exact .inl (.inr ⟨_, hHa q⟩)
    | some o =>
      have e := KX a o q
      rw [ha] at e
      cases e
      exact .inr ⟨_, vs.toArray, _, q, rfl, rfl, rfl, by rw [List.size_toArray, hi.length]; exact hl, by simpa using rv⟩
  have e0 : Env0 P w K mg (hidT s₁.heap H) callerA [] s₁ H := ⟨rfl, hM, fun b o e => of_hidT e, Nat.le_of_eq (hidT_size _ _), trivial, fun b hb => absurd (show b ∈ ([] : List Addr) from hb) (by simp), hok, .of_eq hg⟩
  obtain ⟨f, fd, FG, m, _, b⟩ := F _ KB (nsD hns) TB
  have ef := m.symm.trans hfa
  cases ef
  refine codeAny_mono (FG.run callerA [] s₁ H ⟨[.ref a], []⟩ [.ref a] [.ref a] _ _ rfl hr e0 (b s₁ [.ref a] KX rfl) (.cons rfl .nil) (hsp H hPt hS)) fun r s' h => ?_
  cases r with
  | error e => exact False.elim h
  | ok fl =>
    cases fl with
    | next => exact False.elim h
    | brk => exact False.elim h
    | cont => exact False.elim h
    | ret u =>
      obtain ⟨v, H', os, bare, un, hok', r', q⟩ := h
      have q' : v = .bl true := q
      subst q'
      obtain rfl : u = Value.bool true := r'
      obtain ⟨more, hm⟩ := un.tbls Pt #[] hPt
      have hm' := hok' Pt _ hm
      rw [Array.empty_append] at hm'
      have old : ∀ b o, b ≠ Pt → s₁.heap.get? b = some o → s'.heap.get? b = some o := fun b o nb e => by
        cases q : H b with
        | none => exact un.keep b o e q (by intro z; exact absurd (show b ∈ ([] : List Addr) from z) (by simp)) (by simp)
        | some u =>
          rcases start0_cases q with ⟨e', _⟩ | ⟨rfl, n, rfl⟩
          · exact absurd e' nb
          · have z2 := hok' b _ (un.frzs b ob _ q)
            rw [ha] at e
            cases e
            exact z2.1
      refine ⟨rfl, ⟨fun b o e => ?_, fun b o e => ?_⟩, os, bare⟩
      · by_cases hbP : b = Pt
        · subst hbP
          rw [hT] at e
          cases e
          exact .inr (.inl ⟨(C.tab hT).isCodeTable, rfl, #[], more, rfl, by rw [Array.empty_append]; exact hm'⟩)
        · exact .inl (old b o hbP e)
      · by_cases hbP : b = Pt
        · rw [hbP]
          exact ⟨_, hm'⟩
        · exact ⟨o, old b o hbP e⟩
/-- what the head has to give -/
def LawG (l : PySem.W.OpenLaw) (w : World) (K : PySem.W.Frag) (k n : Nat) (nm x : Str) (mg : Str → Option Value) (h : Heap) : Prop :=
  ∃ (c Pt : Addr) (sp : Sp), h.get? Pt = some { cls := .none, data := .fields #[] } ∧ K.lookup Pt = none ∧ PySem.W.CodeHd h c Pt ∧
    (∀ (H : Hp) (a : Addr) (ns : List Int), ns.length ≤ n → H Pt = some (.tbl #[]) → SqL K H a (ns.map V.int) → sp [.ref a] H (fun v _ => v = .bl true) fun _ _ _ => False) ∧
    ∀ base : Heap, K.In base → base.Ns mainGlobals mg → GxR.TabB base mg c Pt → DefG l.prog w K mg base k nm [x] sp
theorem walk_ofG {l : PySem.W.OpenLaw} {n k : Nat} {q : Program} {loose : List Str} {XP : (Str → Option Value) → Heap → Prop} {YP : World → Heap → Prop} {d : DefRec} {K : Params → PySem.W.Frag} {x : Str}
    (hn : l.most = some n) (hn2 : n ≤ sizeLine) (hdf : d.params.defaults = []) (hr : Room k callerA) (hY : ∀ (w : World) (h : Heap), YP w h → (K w.params).In h)
    (F : ∀ (w : World) (mg : Str → Option Value) (fa : Addr) (h : Heap), YP w h → (K w.params).In h → h.Ns mainGlobals mg → mg d.name = some (.ref fa) → LawG l w (K w.params) k n d.name x mg h) :
    PySem.W.WalkO q loose XP YP l.row.toRowW d [] (fun f vs => PySem.call f vs) := by
  refine Att.attach_callB hn hdf fun w s₀ s₁ mg mb fa o pm cd doc a vs ns G Y ho hd hcd hmg hobj hints hlen hbits hg => ?_
  have KX := hY w _ Y
  obtain ⟨c, Pt, sp, hT, nT, C, hsp, hF⟩ := F w mg fa _ Y KX G.T.g hmg
  exact law_callG KX G.T.g G.T.b G.T.builtins G.T.nolimit hg hT nT C G.T.bmain hobj hints (Nat.le_trans hlen hn2) hr hF hmg (fun H hH hS => hsp H a ns hlen hH hS)
end Sr
/-! SrHH: raw facts from what the head has written. -/
namespace Sr
open PySem PySem.Spec PyProof.Rows L2
section
variable {K : PySem.W.Frag} {h : Heap} {mg : Str → Option Value} {nm qual : Str} {st : Stmt} {ps : List Str} {f C c : Addr} {oc : Value} {od an : Option Addr} {osl : Array (Option Value)} {kV doc pm cdv ct : Value}
abbrev BindQ (nm : Str) (st : Stmt) (ps : List Str) : Prop := ∀ (kV doc pm : Value) (an : Option Addr) (cdv ct : Value) (us : List Value), us.length = ps.length → bindArgs (PySem.W.fnOf nm nm (defArgs st) (defBody st) (defScope st) .none kV doc pm an cdv ct) ⟨us, []⟩ = pure (ps.zip us)
theorem raw_mk (X : K.In h) (G : h.Ns mainGlobals mg) (hb : BindQ nm st ps) (a : PySem.W.nsIn K mainGlobals nm = some (some (.ref f)))
    (l : K.lookup f = some ⟨oc, od, .func (PySem.W.fnOf nm nm (defArgs st) (defBody st) (defScope st) .none kV doc pm an cdv ct), osl⟩) (c : PySem.W.codeIn K cdv nm = true) (k : PySem.W.keepIn K (.ref f) = true) : Raw K mg nm st ps :=
  ⟨f, _, fun_mk l c k, PySem.W.mg_of X G a, (fun_mk l c k).binds hb⟩
theorem rawC_mk (X : K.In h) (G : h.Ns mainGlobals mg) (hb : BindQ nm st ps) (a : PySem.W.nsIn K mainGlobals nm = some (some (.ref f)))
    (l : K.lookup f = some ⟨oc, od, .func (PySem.W.fnOf nm nm (defArgs st) (defBody st) (defScope st) .none kV doc pm an (.ref c) ct), osl⟩) (cc : PySem.W.codeIn K (.ref c) nm = true) (k : PySem.W.keepIn K (.ref f) = true) : RawC K mg nm st ps c :=
  ⟨f, _, ⟨oc, od, kV, doc, pm, an, ct, osl, rfl, l, cc⟩, k, PySem.W.mg_of X G a, (fun_mk l cc k).binds hb⟩
theorem rawM_mk (_X : K.In h) (hb : ∀ (kV doc pm : Value) (an : Option Addr) (cdv ct : Value) (us : List Value), us.length = ps.length → bindArgs (PySem.W.fnOf nm qual (defArgs st) (defBody st) (defScope st) .none kV doc pm an cdv ct) ⟨us, []⟩ = pure (ps.zip us))
    (a : PySem.W.findIn K (.ref C) nm = some (some (.ref f))) (i : PySem.W.isFn K (.ref f) = true)
    (l : K.lookup f = some ⟨oc, od, .func (PySem.W.fnOf nm qual (defArgs st) (defBody st) (defScope st) .none kV doc pm an cdv ct), osl⟩) (c : PySem.W.codeIn K cdv qual = true) (k : PySem.W.keepIn K (.ref f) = true) : RawM K C nm qual st ps :=
  ⟨f, _, fun_mk l c k, ⟨a, i, k⟩, (fun_mk l c k).binds hb⟩
theorem rawI_mk (_X : K.In h) (hb : ∀ (kV doc pm : Value) (an : Option Addr) (cdv ct : Value) (us : List Value), us.length = ps.length → bindArgs (PySem.W.fnOf "__init__" qual (defArgs st) (defBody st) (defScope st) .none kV doc pm an cdv ct) ⟨us, []⟩ = pure (ps.zip us))
    (mk : PySem.W.makesIn K C = true) (kc : PySem.W.keepIn K (.ref C) = true) (a : PySem.W.findIn K (.ref C) "__init__" = some (some (.ref f))) (i : PySem.W.isFn K (.ref f) = true)
    (l : K.lookup f = some ⟨oc, od, .func (PySem.W.fnOf "__init__" qual (defArgs st) (defBody st) (defScope st) .none kV doc pm an cdv ct), osl⟩) (c : PySem.W.codeIn K cdv qual = true) (k : PySem.W.keepIn K (.ref f) = true) : RawI K C qual st ps :=
  ⟨f, _, fun_mk l c k, ⟨mk, a, i, kc⟩, (fun_mk l c k).binds hb⟩
end
section
variable {K : PySem.W.Frag} {w : World} {h : Heap} {mg : Str → Option Value} {wd f1 f2 f3 f4 f6 : Addr} {es : Array DictEntry} {n : Nat}
theorem kl_cons {P : Params} {hs : Int} {k v : Value} {x : Str} {t : Addr} {r : List DictEntry} (e1 : k = .str x t) (e2 : hs = PyData.keyHash P x) (l : PySem.W.KeysLit P r) : PySem.W.KeysLit P (⟨hs, k, v⟩ :: r) := ⟨⟨x, t, e1, e2⟩, l⟩
theorem kl_nil {P : Params} : PySem.W.KeysLit P [] := trivial
theorem wt_mk (KX : K.In h) (G : h.Ns mainGlobals mg) (g : PySem.W.nsIn K mainGlobals "WALKS" = some (some (.ref wd))) (l : K.lookup wd = some ⟨.type "dict", none, .dict es n, #[]⟩) (k : PySem.W.KeysLit w.params es.toList)
    (m1 : PySem.W.nsIn K mainGlobals "walk_place" = some (some (.ref f1))) (m2 : PySem.W.nsIn K mainGlobals "walk_sequence" = some (some (.ref f2))) (m3 : PySem.W.nsIn K mainGlobals "walk_choice" = some (some (.ref f3))) (m4 : PySem.W.nsIn K mainGlobals "walk_repeated" = some (some (.ref f4))) (m6 : PySem.W.nsIn K mainGlobals "walk_maybe" = some (some (.ref f6)))
    (d1 : PySem.W.nsIn K wd "place" = some (some (.ref f1))) (d2 : PySem.W.nsIn K wd "sequence" = some (some (.ref f2))) (d3 : PySem.W.nsIn K wd "choice" = some (some (.ref f3))) (d4 : PySem.W.nsIn K wd "any" = some (some (.ref f4))) (d5 : PySem.W.nsIn K wd "some" = some (some (.ref f4))) (d6 : PySem.W.nsIn K wd "maybe" = some (some (.ref f6))) : WT K w mg wd :=
  ⟨PySem.W.mg_of KX G g, ⟨_, PySem.W.mg_of KX G m1, _, _, _, l, k, d1, rfl⟩, ⟨_, PySem.W.mg_of KX G m2, _, _, _, l, k, d2, rfl⟩, ⟨_, PySem.W.mg_of KX G m3, _, _, _, l, k, d3, rfl⟩, ⟨_, PySem.W.mg_of KX G m4, _, _, _, l, k, d4, rfl⟩, ⟨_, PySem.W.mg_of KX G m4, _, _, _, l, k, d5, rfl⟩, ⟨_, PySem.W.mg_of KX G m6, _, _, _, l, k, d6, rfl⟩⟩
theorem pt_mk {C : Addr} (KX : K.In h) (G : h.Ns mainGlobals mg) (t1 : PySem.W.plainGet K C Str.empty = true) (t2 : PySem.W.hasDictIn K C = true) (t3 : PySem.W.plainOver K C = true) (t4 : PySem.W.findIn K (.ref C) "__setattr__" = some (some (.builtin "object.__setattr__")))
    (t5 : PySem.W.findIn K (.ref C) "places" = some none) (t6 : PySem.W.findIn K (.ref C) "followers" = some none) (t7 : PySem.W.nsIn K mainGlobals "Places" = some (some (.ref C))) : PT K mg C := ⟨⟨t1, t2, t3, t4⟩, t5, t6, PySem.W.mg_of KX G t7⟩
end
end Sr
/-! SrII: how each def binds its arguments. -/
namespace Sr
open PySem PySem.Spec PyProof.Rows L2
theorem b_extent (kV doc pm : Value) (an : Option Addr) (cdv ct : Value) (us : List Value) (hl : us.length = (["part", "region"] : List Str).length) : bindArgs (PySem.W.fnOf "extent" "extent" (defArgs (top 14)) (defBody (top 14)) (defScope (top 14)) .none kV doc pm an cdv ct) ⟨us, []⟩ = pure (List.zip (["part", "region"] : List Str) us) := match us, hl with | [_, _], _ => rfl
theorem b_piece (kV doc pm : Value) (an : Option Addr) (cdv ct : Value) (us : List Value) (hl : us.length = (["part", "region", "offset", "number", "size"] : List Str).length) : bindArgs (PySem.W.fnOf "piece" "piece" (defArgs (top 15)) (defBody (top 15)) (defScope (top 15)) .none kV doc pm an cdv ct) ⟨us, []⟩ = pure (List.zip (["part", "region", "offset", "number", "size"] : List Str) us) := match us, hl with | [_, _, _, _, _], _ => rfl
theorem b_is_strip (kV doc pm : Value) (an : Option Addr) (cdv ct : Value) (us : List Value) (hl : us.length = (["part"] : List Str).length) : bindArgs (PySem.W.fnOf "is_strip" "is_strip" (defArgs (top 1)) (defBody (top 1)) (defScope (top 1)) .none kV doc pm an cdv ct) ⟨us, []⟩ = pure (List.zip (["part"] : List Str) us) := match us, hl with | [_], _ => rfl
theorem b_pixel (kV doc pm : Value) (an : Option Addr) (cdv ct : Value) (us : List Value) (hl : us.length = (["rows", "x", "y"] : List Str).length) : bindArgs (PySem.W.fnOf "pixel" "pixel" (defArgs (top 22)) (defBody (top 22)) (defScope (top 22)) .none kV doc pm an cdv ct) ⟨us, []⟩ = pure (List.zip (["rows", "x", "y"] : List Str) us) := match us, hl with | [_, _, _], _ => rfl
theorem b_leaf_pixel (kV doc pm : Value) (an : Option Addr) (cdv ct : Value) (us : List Value) (hl : us.length = (["part", "x", "y"] : List Str).length) : bindArgs (PySem.W.fnOf "leaf_pixel" "leaf_pixel" (defArgs (top 26)) (defBody (top 26)) (defScope (top 26)) .none kV doc pm an cdv ct) ⟨us, []⟩ = pure (List.zip (["part", "x", "y"] : List Str) us) := match us, hl with | [_, _, _], _ => rfl
theorem b_fits (kV doc pm : Value) (an : Option Addr) (cdv ct : Value) (us : List Value) (hl : us.length = (["part", "region"] : List Str).length) : bindArgs (PySem.W.fnOf "fits" "fits" (defArgs (top 27)) (defBody (top 27)) (defScope (top 27)) .none kV doc pm an cdv ct) ⟨us, []⟩ = pure (List.zip (["part", "region"] : List Str) us) := match us, hl with | [_, _], _ => rfl
theorem b_leaf_cost (kV doc pm : Value) (an : Option Addr) (cdv ct : Value) (us : List Value) (hl : us.length = (["part", "region", "rows"] : List Str).length) : bindArgs (PySem.W.fnOf "leaf_cost" "leaf_cost" (defArgs (top 28)) (defBody (top 28)) (defScope (top 28)) .none kV doc pm an cdv ct) ⟨us, []⟩ = pure (List.zip (["part", "region", "rows"] : List Str) us) := match us, hl with | [_, _, _], _ => rfl
theorem b_l_strip (kV doc pm : Value) (an : Option Addr) (cdv ct : Value) (us : List Value) (hl : us.length = (["_law_part"] : List Str).length) : bindArgs (PySem.W.fnOf "_law_strip" "_law_strip" (defArgs (top 41)) (defBody (top 41)) (defScope (top 41)) .none kV doc pm an cdv ct) ⟨us, []⟩ = pure (List.zip (["_law_part"] : List Str) us) := match us, hl with | [_], _ => rfl
theorem b_l_extent (kV doc pm : Value) (an : Option Addr) (cdv ct : Value) (us : List Value) (hl : us.length = (["_law_part", "_law_region"] : List Str).length) : bindArgs (PySem.W.fnOf "_law_extent" "_law_extent" (defArgs (top 42)) (defBody (top 42)) (defScope (top 42)) .none kV doc pm an cdv ct) ⟨us, []⟩ = pure (List.zip (["_law_part", "_law_region"] : List Str) us) := match us, hl with | [_, _], _ => rfl
theorem b_l_piece (kV doc pm : Value) (an : Option Addr) (cdv ct : Value) (us : List Value) (hl : us.length = (["_law_part", "_law_region", "_law_number", "_law_offset", "_law_size"] : List Str).length) : bindArgs (PySem.W.fnOf "_law_piece" "_law_piece" (defArgs (top 43)) (defBody (top 43)) (defScope (top 43)) .none kV doc pm an cdv ct) ⟨us, []⟩ = pure (List.zip (["_law_part", "_law_region", "_law_number", "_law_offset", "_law_size"] : List Str) us) := match us, hl with | [_, _, _, _, _], _ => rfl
theorem b_l_fits (kV doc pm : Value) (an : Option Addr) (cdv ct : Value) (us : List Value) (hl : us.length = (["_law_part", "_law_region"] : List Str).length) : bindArgs (PySem.W.fnOf "_law_fits" "_law_fits" (defArgs (top 44)) (defBody (top 44)) (defScope (top 44)) .none kV doc pm an cdv ct) ⟨us, []⟩ = pure (List.zip (["_law_part", "_law_region"] : List Str) us) := match us, hl with | [_, _], _ => rfl
theorem b_l_cell (kV doc pm : Value) (an : Option Addr) (cdv ct : Value) (us : List Value) (hl : us.length = (["_law_script", "_law_k"] : List Str).length) : bindArgs (PySem.W.fnOf "_law_cell" "_law_cell" (defArgs (top 33)) (defBody (top 33)) (defScope (top 33)) .none kV doc pm an cdv ct) ⟨us, []⟩ = pure (List.zip (["_law_script", "_law_k"] : List Str) us) := match us, hl with | [_, _], _ => rfl
theorem b_l_digits (kV doc pm : Value) (an : Option Addr) (cdv ct : Value) (us : List Value) (hl : us.length = (["_law_script", "_law_first", "_law_last"] : List Str).length) : bindArgs (PySem.W.fnOf "_law_digits" "_law_digits" (defArgs (top 34)) (defBody (top 34)) (defScope (top 34)) .none kV doc pm an cdv ct) ⟨us, []⟩ = pure (List.zip (["_law_script", "_law_first", "_law_last"] : List Str) us) := match us, hl with | [_, _, _], _ => rfl
theorem b_l_draw (kV doc pm : Value) (an : Option Addr) (cdv ct : Value) (us : List Value) (hl : us.length = (["_law_box", "_law_many"] : List Str).length) : bindArgs (PySem.W.fnOf "_law_draw" "_law_draw" (defArgs (top 35)) (defBody (top 35)) (defScope (top 35)) .none kV doc pm an cdv ct) ⟨us, []⟩ = pure (List.zip (["_law_box", "_law_many"] : List Str) us) := match us, hl with | [_, _], _ => rfl
theorem b_l_leaf (kV doc pm : Value) (an : Option Addr) (cdv ct : Value) (us : List Value) (hl : us.length = (["_law_box", "_law_k", "_law_wide"] : List Str).length) : bindArgs (PySem.W.fnOf "_law_leaf" "_law_leaf" (defArgs (top 37)) (defBody (top 37)) (defScope (top 37)) .none kV doc pm an cdv ct) ⟨us, []⟩ = pure (List.zip (["_law_box", "_law_k", "_law_wide"] : List Str) us) := match us, hl with | [_, _, _], _ => rfl
theorem b_l_place (kV doc pm : Value) (an : Option Addr) (cdv ct : Value) (us : List Value) (hl : us.length = (["_law_box", "_law_parts_here", "_law_direction"] : List Str).length) : bindArgs (PySem.W.fnOf "_law_place" "_law_place" (defArgs (top 38)) (defBody (top 38)) (defScope (top 38)) .none kV doc pm an cdv ct) ⟨us, []⟩ = pure (List.zip (["_law_box", "_law_parts_here", "_law_direction"] : List Str) us) := match us, hl with | [_, _, _], _ => rfl
theorem b_l_choice (kV doc pm : Value) (an : Option Addr) (cdv ct : Value) (us : List Value) (hl : us.length = (["_law_box", "_law_parts_here", "_law_direction", "_law_depth"] : List Str).length) : bindArgs (PySem.W.fnOf "_law_choice" "_law_choice" (defArgs (top 39)) (defBody (top 39)) (defScope (top 39)) .none kV doc pm an cdv ct) ⟨us, []⟩ = pure (List.zip (["_law_box", "_law_parts_here", "_law_direction", "_law_depth"] : List Str) us) := match us, hl with | [_, _, _, _], _ => rfl
theorem b_l_parts (kV doc pm : Value) (an : Option Addr) (cdv ct : Value) (us : List Value) (hl : us.length = (["_law_box", "_law_wide", "_law_strips"] : List Str).length) : bindArgs (PySem.W.fnOf "_law_parts" "_law_parts" (defArgs (top 40)) (defBody (top 40)) (defScope (top 40)) .none kV doc pm an cdv ct) ⟨us, []⟩ = pure (List.zip (["_law_box", "_law_wide", "_law_strips"] : List Str) us) := match us, hl with | [_, _, _], _ => rfl
theorem b_joined (kV doc pm : Value) (an : Option Addr) (cdv ct : Value) (us : List Value) (hl : us.length = (["one", "other"] : List Str).length) : bindArgs (PySem.W.fnOf "joined" "joined" (defArgs (top 2)) (defBody (top 2)) (defScope (top 2)) .none kV doc pm an cdv ct) ⟨us, []⟩ = pure (List.zip (["one", "other"] : List Str) us) := match us, hl with | [_, _], _ => rfl
theorem b_P_init (kV doc pm : Value) (an : Option Addr) (cdv ct : Value) (us : List Value) (hl : us.length = (["self"] : List Str).length) : bindArgs (PySem.W.fnOf "__init__" "Places.__init__" (defArgs (inClass (top 3) 0)) (defBody (inClass (top 3) 0)) (defScope (inClass (top 3) 0)) .none kV doc pm an cdv ct) ⟨us, []⟩ = pure (List.zip (["self"] : List Str) us) := match us, hl with | [_], _ => rfl
theorem b_P_add (kV doc pm : Value) (an : Option Addr) (cdv ct : Value) (us : List Value) (hl : us.length = (["self", "place"] : List Str).length) : bindArgs (PySem.W.fnOf "add" "Places.add" (defArgs (inClass (top 3) 1)) (defBody (inClass (top 3) 1)) (defScope (inClass (top 3) 1)) .none kV doc pm an cdv ct) ⟨us, []⟩ = pure (List.zip (["self", "place"] : List Str) us) := match us, hl with | [_, _], _ => rfl
theorem b_P_link (kV doc pm : Value) (an : Option Addr) (cdv ct : Value) (us : List Value) (hl : us.length = (["self", "lasts", "firsts"] : List Str).length) : bindArgs (PySem.W.fnOf "link" "Places.link" (defArgs (inClass (top 3) 2)) (defBody (inClass (top 3) 2)) (defScope (inClass (top 3) 2)) .none kV doc pm an cdv ct) ⟨us, []⟩ = pure (List.zip (["self", "lasts", "firsts"] : List Str) us) := match us, hl with | [_, _, _], _ => rfl
theorem b_walk_place (kV doc pm : Value) (an : Option Addr) (cdv ct : Value) (us : List Value) (hl : us.length = (["places", "choice"] : List Str).length) : bindArgs (PySem.W.fnOf "walk_place" "walk_place" (defArgs (top 4)) (defBody (top 4)) (defScope (top 4)) .none kV doc pm an cdv ct) ⟨us, []⟩ = pure (List.zip (["places", "choice"] : List Str) us) := match us, hl with | [_, _], _ => rfl
theorem b_walk_sequence (kV doc pm : Value) (an : Option Addr) (cdv ct : Value) (us : List Value) (hl : us.length = (["places", "choice"] : List Str).length) : bindArgs (PySem.W.fnOf "walk_sequence" "walk_sequence" (defArgs (top 5)) (defBody (top 5)) (defScope (top 5)) .none kV doc pm an cdv ct) ⟨us, []⟩ = pure (List.zip (["places", "choice"] : List Str) us) := match us, hl with | [_, _], _ => rfl
theorem b_walk_choice (kV doc pm : Value) (an : Option Addr) (cdv ct : Value) (us : List Value) (hl : us.length = (["places", "choice"] : List Str).length) : bindArgs (PySem.W.fnOf "walk_choice" "walk_choice" (defArgs (top 6)) (defBody (top 6)) (defScope (top 6)) .none kV doc pm an cdv ct) ⟨us, []⟩ = pure (List.zip (["places", "choice"] : List Str) us) := match us, hl with | [_, _], _ => rfl
theorem b_walk_repeated (kV doc pm : Value) (an : Option Addr) (cdv ct : Value) (us : List Value) (hl : us.length = (["places", "choice"] : List Str).length) : bindArgs (PySem.W.fnOf "walk_repeated" "walk_repeated" (defArgs (top 7)) (defBody (top 7)) (defScope (top 7)) .none kV doc pm an cdv ct) ⟨us, []⟩ = pure (List.zip (["places", "choice"] : List Str) us) := match us, hl with | [_, _], _ => rfl
theorem b_walk_maybe (kV doc pm : Value) (an : Option Addr) (cdv ct : Value) (us : List Value) (hl : us.length = (["places", "choice"] : List Str).length) : bindArgs (PySem.W.fnOf "walk_maybe" "walk_maybe" (defArgs (top 8)) (defBody (top 8)) (defScope (top 8)) .none kV doc pm an cdv ct) ⟨us, []⟩ = pure (List.zip (["places", "choice"] : List Str) us) := match us, hl with | [_, _], _ => rfl
theorem b_walk (kV doc pm : Value) (an : Option Addr) (cdv ct : Value) (us : List Value) (hl : us.length = (["places", "choice"] : List Str).length) : bindArgs (PySem.W.fnOf "walk" "walk" (defArgs (top 10)) (defBody (top 10)) (defScope (top 10)) .none kV doc pm an cdv ct) ⟨us, []⟩ = pure (List.zip (["places", "choice"] : List Str) us) := match us, hl with | [_, _], _ => rfl
theorem b_machine (kV doc pm : Value) (an : Option Addr) (cdv ct : Value) (us : List Value) (hl : us.length = (["choice"] : List Str).length) : bindArgs (PySem.W.fnOf "machine" "machine" (defArgs (top 11)) (defBody (top 11)) (defScope (top 11)) .none kV doc pm an cdv ct) ⟨us, []⟩ = pure (List.zip (["choice"] : List Str) us) := match us, hl with | [_], _ => rfl
theorem b_machines (kV doc pm : Value) (an : Option Addr) (cdv ct : Value) (us : List Value) (hl : us.length = (["parts"] : List Str).length) : bindArgs (PySem.W.fnOf "machines" "machines" (defArgs (top 12)) (defBody (top 12)) (defScope (top 12)) .none kV doc pm an cdv ct) ⟨us, []⟩ = pure (List.zip (["parts"] : List Str) us) := match us, hl with | [_], _ => rfl
theorem b_reached (kV doc pm : Value) (an : Option Addr) (cdv ct : Value) (us : List Value) (hl : us.length = (["moves", "far"] : List Str).length) : bindArgs (PySem.W.fnOf "reached" "reached" (defArgs (top 16)) (defBody (top 16)) (defScope (top 16)) .none kV doc pm an cdv ct) ⟨us, []⟩ = pure (List.zip (["moves", "far"] : List Str) us) := match us, hl with | [_, _], _ => rfl
theorem b_looks_at (kV doc pm : Value) (an : Option Addr) (cdv ct : Value) (us : List Value) (hl : us.length = (["moves", "state", "left"] : List Str).length) : bindArgs (PySem.W.fnOf "looks_at" "looks_at" (defArgs (top 17)) (defBody (top 17)) (defScope (top 17)) .none kV doc pm an cdv ct) ⟨us, []⟩ = pure (List.zip (["moves", "state", "left"] : List Str) us) := match us, hl with | [_, _, _], _ => rfl
theorem b_pieces_looked_at (kV doc pm : Value) (an : Option Addr) (cdv ct : Value) (us : List Value) (hl : us.length = (["part", "moves", "region"] : List Str).length) : bindArgs (PySem.W.fnOf "pieces_looked_at" "pieces_looked_at" (defArgs (top 18)) (defBody (top 18)) (defScope (top 18)) .none kV doc pm an cdv ct) ⟨us, []⟩ = pure (List.zip (["part", "moves", "region"] : List Str) us) := match us, hl with | [_, _, _], _ => rfl
theorem b_looks_of (kV doc pm : Value) (an : Option Addr) (cdv ct : Value) (us : List Value) (hl : us.length = (["parts", "table", "region"] : List Str).length) : bindArgs (PySem.W.fnOf "looks_of" "looks_of" (defArgs (top 19)) (defBody (top 19)) (defScope (top 19)) .none kV doc pm an cdv ct) ⟨us, []⟩ = pure (List.zip (["parts", "table", "region"] : List Str) us) := match us, hl with | [_, _, _], _ => rfl
theorem b_needed_with (kV doc pm : Value) (an : Option Addr) (cdv ct : Value) (us : List Value) (hl : us.length = (["parts", "table", "region"] : List Str).length) : bindArgs (PySem.W.fnOf "needed_with" "needed_with" (defArgs (top 20)) (defBody (top 20)) (defScope (top 20)) .none kV doc pm an cdv ct) ⟨us, []⟩ = pure (List.zip (["parts", "table", "region"] : List Str) us) := match us, hl with | [_, _, _], _ => rfl
theorem b_allowed (kV doc pm : Value) (an : Option Addr) (cdv ct : Value) (us : List Value) (hl : us.length = (["parts", "region", "wishes"] : List Str).length) : bindArgs (PySem.W.fnOf "allowed" "allowed" (defArgs (top 25)) (defBody (top 25)) (defScope (top 25)) .none kV doc pm an cdv ct) ⟨us, []⟩ = pure (List.zip (["parts", "region", "wishes"] : List Str) us) := match us, hl with | [_, _, _], _ => rfl
theorem b_best_rests (kV doc pm : Value) (an : Option Addr) (cdv ct : Value) (us : List Value) (hl : us.length = (["part", "machine", "region", "table"] : List Str).length) : bindArgs (PySem.W.fnOf "best_rests" "best_rests" (defArgs (top 29)) (defBody (top 29)) (defScope (top 29)) .none kV doc pm an cdv ct) ⟨us, []⟩ = pure (List.zip (["part", "machine", "region", "table"] : List Str) us) := match us, hl with | [_, _, _, _], _ => rfl
theorem b_best_table (kV doc pm : Value) (an : Option Addr) (cdv ct : Value) (us : List Value) (hl : us.length = (["parts", "region", "rows", "wishes"] : List Str).length) : bindArgs (PySem.W.fnOf "best_table" "best_table" (defArgs (top 30)) (defBody (top 30)) (defScope (top 30)) .none kV doc pm an cdv ct) ⟨us, []⟩ = pure (List.zip (["parts", "region", "rows", "wishes"] : List Str) us) := match us, hl with | [_, _, _, _], _ => rfl
theorem b_best (kV doc pm : Value) (an : Option Addr) (cdv ct : Value) (us : List Value) (hl : us.length = (["parts", "region", "rows", "wishes"] : List Str).length) : bindArgs (PySem.W.fnOf "best" "best" (defArgs (top 31)) (defBody (top 31)) (defScope (top 31)) .none kV doc pm an cdv ct) ⟨us, []⟩ = pure (List.zip (["parts", "region", "rows", "wishes"] : List Str) us) := match us, hl with | [_, _, _, _], _ => rfl
theorem b_l_count (kV doc pm : Value) (an : Option Addr) (cdv ct : Value) (us : List Value) (hl : us.length = (["_law_parts_here", "_law_ways", "_law_region", "_law_table"] : List Str).length) : bindArgs (PySem.W.fnOf "_law_count" "_law_count" (defArgs (top 46)) (defBody (top 46)) (defScope (top 46)) .none kV doc pm an cdv ct) ⟨us, []⟩ = pure (List.zip (["_law_parts_here", "_law_ways", "_law_region", "_law_table"] : List Str) us) := match us, hl with | [_, _, _, _], _ => rfl
theorem b_l_spots (kV doc pm : Value) (an : Option Addr) (cdv ct : Value) (us : List Value) (hl : us.length = (["_law_parts_here", "_law_ways", "_law_region", "_law_table"] : List Str).length) : bindArgs (PySem.W.fnOf "_law_spots" "_law_spots" (defArgs (top 45)) (defBody (top 45)) (defScope (top 45)) .none kV doc pm an cdv ct) ⟨us, []⟩ = pure (List.zip (["_law_parts_here", "_law_ways", "_law_region", "_law_table"] : List Str) us) := match us, hl with | [_, _, _, _], _ => rfl
theorem b_l_all (kV doc pm : Value) (an : Option Addr) (cdv ct : Value) (us : List Value) (hl : us.length = (["_law_parts_here", "_law_ways", "_law_region", "_law_table"] : List Str).length) : bindArgs (PySem.W.fnOf "_law_all" "_law_all" (defArgs (top 48)) (defBody (top 48)) (defScope (top 48)) .none kV doc pm an cdv ct) ⟨us, []⟩ = pure (List.zip (["_law_parts_here", "_law_ways", "_law_region", "_law_table"] : List Str) us) := match us, hl with | [_, _, _, _], _ => rfl
theorem b_l_rests (kV doc pm : Value) (an : Option Addr) (cdv ct : Value) (us : List Value) (hl : us.length = (["_law_parts_here", "_law_ways", "_law_region", "_law_spot", "_law_table"] : List Str).length) : bindArgs (PySem.W.fnOf "_law_rests" "_law_rests" (defArgs (top 47)) (defBody (top 47)) (defScope (top 47)) .none kV doc pm an cdv ct) ⟨us, []⟩ = pure (List.zip (["_law_parts_here", "_law_ways", "_law_region", "_law_spot", "_law_table"] : List Str) us) := match us, hl with | [_, _, _, _, _], _ => rfl
theorem b_l_regions (kV doc pm : Value) (an : Option Addr) (cdv ct : Value) (us : List Value) (hl : us.length = (["_law_parts_here", "_law_ways", "_law_region", "_law_reading"] : List Str).length) : bindArgs (PySem.W.fnOf "_law_regions" "_law_regions" (defArgs (top 49)) (defBody (top 49)) (defScope (top 49)) .none kV doc pm an cdv ct) ⟨us, []⟩ = pure (List.zip (["_law_parts_here", "_law_ways", "_law_region", "_law_reading"] : List Str) us) := match us, hl with | [_, _, _, _], _ => rfl
theorem b_l_moved (kV doc pm : Value) (an : Option Addr) (cdv ct : Value) (us : List Value) (hl : us.length = (["_law_ways", "_law_number", "_law_reading"] : List Str).length) : bindArgs (PySem.W.fnOf "_law_moved" "_law_moved" (defArgs (top 50)) (defBody (top 50)) (defScope (top 50)) .none kV doc pm an cdv ct) ⟨us, []⟩ = pure (List.zip (["_law_ways", "_law_number", "_law_reading"] : List Str) us) := match us, hl with | [_, _, _], _ => rfl
theorem b_l_leaves (kV doc pm : Value) (an : Option Addr) (cdv ct : Value) (us : List Value) (hl : us.length = (["_law_parts_here", "_law_found"] : List Str).length) : bindArgs (PySem.W.fnOf "_law_leaves" "_law_leaves" (defArgs (top 53)) (defBody (top 53)) (defScope (top 53)) .none kV doc pm an cdv ct) ⟨us, []⟩ = pure (List.zip (["_law_parts_here", "_law_found"] : List Str) us) := match us, hl with | [_, _], _ => rfl
theorem b_l_price (kV doc pm : Value) (an : Option Addr) (cdv ct : Value) (us : List Value) (hl : us.length = (["_law_parts_here", "_law_ways", "_law_region", "_law_reading"] : List Str).length) : bindArgs (PySem.W.fnOf "_law_price" "_law_price" (defArgs (top 57)) (defBody (top 57)) (defScope (top 57)) .none kV doc pm an cdv ct) ⟨us, []⟩ = pure (List.zip (["_law_parts_here", "_law_ways", "_law_region", "_law_reading"] : List Str) us) := match us, hl with | [_, _, _, _], _ => rfl
theorem b_l_unlike (kV doc pm : Value) (an : Option Addr) (cdv ct : Value) (us : List Value) (hl : us.length = (["_law_one", "_law_other"] : List Str).length) : bindArgs (PySem.W.fnOf "_law_unlike" "_law_unlike" (defArgs (top 58)) (defBody (top 58)) (defScope (top 58)) .none kV doc pm an cdv ct) ⟨us, []⟩ = pure (List.zip (["_law_one", "_law_other"] : List Str) us) := match us, hl with | [_, _], _ => rfl
theorem b_l_drawn (kV doc pm : Value) (an : Option Addr) (cdv ct : Value) (us : List Value) (hl : us.length = (["_law_parts_here", "_law_ways", "_law_region", "_law_reading"] : List Str).length) : bindArgs (PySem.W.fnOf "_law_drawn" "_law_drawn" (defArgs (top 56)) (defBody (top 56)) (defScope (top 56)) .none kV doc pm an cdv ct) ⟨us, []⟩ = pure (List.zip (["_law_parts_here", "_law_ways", "_law_region", "_law_reading"] : List Str) us) := match us, hl with | [_, _, _, _], _ => rfl
theorem b_l_damaged (kV doc pm : Value) (an : Option Addr) (cdv ct : Value) (us : List Value) (hl : us.length = (["_law_box", "_law_rows", "_law_region"] : List Str).length) : bindArgs (PySem.W.fnOf "_law_damaged" "_law_damaged" (defArgs (top 59)) (defBody (top 59)) (defScope (top 59)) .none kV doc pm an cdv ct) ⟨us, []⟩ = pure (List.zip (["_law_box", "_law_rows", "_law_region"] : List Str) us) := match us, hl with | [_, _, _], _ => rfl
theorem b_l_world (kV doc pm : Value) (an : Option Addr) (cdv ct : Value) (us : List Value) (hl : us.length = (["_law_script", "_law_limit"] : List Str).length) : bindArgs (PySem.W.fnOf "_law_world" "_law_world" (defArgs (top 55)) (defBody (top 55)) (defScope (top 55)) .none kV doc pm an cdv ct) ⟨us, []⟩ = pure (List.zip (["_law_script", "_law_limit"] : List Str) us) := match us, hl with | [_, _], _ => rfl
theorem b_l_same (kV doc pm : Value) (an : Option Addr) (cdv ct : Value) (us : List Value) (hl : us.length = (["_law_actual", "_law_due"] : List Str).length) : bindArgs (PySem.W.fnOf "_law_same" "_law_same" (defArgs (top 36)) (defBody (top 36)) (defScope (top 36)) .none kV doc pm an cdv ct) ⟨us, []⟩ = pure (List.zip (["_law_actual", "_law_due"] : List Str) us) := match us, hl with | [_, _], _ => rfl
theorem b_law (kV doc pm : Value) (an : Option Addr) (cdv ct : Value) (us : List Value) (hl : us.length = (["_law_script"] : List Str).length) : bindArgs (PySem.W.fnOf "law" "law" (defArgs (top 60)) (defBody (top 60)) (defScope (top 60)) .none kV doc pm an cdv ct) ⟨us, []⟩ = pure (List.zip (["_law_script"] : List Str) us) := match us, hl with | [_], _ => rfl
end Sr
open PySem PySem.W PyProof.Rows
local macro_rules | `(tactic| o_head ($f $k $a $e)) => `(tactic| o_head (PySem.W.kmHook $k $a $e [177]))
set_option maxHeartbeats 0 in
theorem PySem.Challenge.cw_surelyread_k25_whole_read_back_holds : PySem.Challenge.rw_surelyread_k25_whole_read_back.Holds := by
  w_on; o_law; k_head
  (case hw => w_witness2)
  k_fill
  refine Sr.walk_ofG (l := PySem.Challenge.rw_surelyread_k25_whole_read_back) (n := 63) (k := 33) (x := "_law_script") rfl (by decide) rfl ⟨rfl, by decide, by decide⟩ (fun w h Y => PySem.W.km_in_of Y) ?F
  case F =>
    intro w mg fa h Y KX G hmg
    have hT : h.get? 177 = some { cls := .none, data := .fields #[] } := PySem.W.km_tabs_of Y 177 (List.mem_singleton.mpr rfl)
    have hc : PySem.W.CodeHd h 181 177 := PySem.W.codeHd_of_K KX (by kernel_rfl)
    have B : Sr.Bi mg := ⟨PySem.W.mg_none_of KX G (by k_is), PySem.W.mg_none_of KX G (by k_is), PySem.W.mg_none_of KX G (by k_is), PySem.W.mg_none_of KX G (by k_is), PySem.W.mg_none_of KX G (by k_is), PySem.W.mg_none_of KX G (by k_is), PySem.W.mg_none_of KX G (by k_is), PySem.W.mg_none_of KX G (by k_is), PySem.W.mg_none_of KX G (by k_is), PySem.W.mg_none_of KX G (by k_is), PySem.W.mg_none_of KX G (by k_is), PySem.W.mg_none_of KX G (by k_is), PySem.W.mg_none_of KX G (by k_is)⟩
    have T := Sr.pt_mk (C := 57) KX G (by k_is) (by k_is) (by k_is) (by k_is) (by k_is) (by k_is) (by k_is)
    have TW := Sr.wt_mk (w := w) (wd := 97) KX G (by k_is) (by k_is) (Sr.kl_cons rfl rfl (Sr.kl_cons rfl rfl (Sr.kl_cons rfl rfl (Sr.kl_cons rfl rfl (Sr.kl_cons rfl rfl (Sr.kl_cons rfl rfl Sr.kl_nil)))))) (by k_is) (by k_is) (by k_is) (by k_is) (by k_is) (by k_is) (by k_is) (by k_is) (by k_is) (by k_is) (by k_is)
    have r_extent := Sr.raw_mk KX G Sr.b_extent (by k_is) (by k_is) (by k_is) (by k_is)
    have r_piece := Sr.raw_mk KX G Sr.b_piece (by k_is) (by k_is) (by k_is) (by k_is)
    have r_is_strip := Sr.raw_mk KX G Sr.b_is_strip (by k_is) (by k_is) (by k_is) (by k_is)
    have r_pixel := Sr.raw_mk KX G Sr.b_pixel (by k_is) (by k_is) (by k_is) (by k_is)
    have r_leaf_pixel := Sr.raw_mk KX G Sr.b_leaf_pixel (by k_is) (by k_is) (by k_is) (by k_is)
    have r_fits := Sr.raw_mk KX G Sr.b_fits (by k_is) (by k_is) (by k_is) (by k_is)
    have r_leaf_cost := Sr.raw_mk KX G Sr.b_leaf_cost (by k_is) (by k_is) (by k_is) (by k_is)
    have r_l_strip := Sr.raw_mk KX G Sr.b_l_strip (by k_is) (by k_is) (by k_is) (by k_is)
    have r_l_extent := Sr.raw_mk KX G Sr.b_l_extent (by k_is) (by k_is) (by k_is) (by k_is)
    have r_l_piece := Sr.raw_mk KX G Sr.b_l_piece (by k_is) (by k_is) (by k_is) (by k_is)
    have r_l_fits := Sr.raw_mk KX G Sr.b_l_fits (by k_is) (by k_is) (by k_is) (by k_is)
    have r_l_cell := Sr.raw_mk KX G Sr.b_l_cell (by k_is) (by k_is) (by k_is) (by k_is)
    have r_l_digits := Sr.raw_mk KX G Sr.b_l_digits (by k_is) (by k_is) (by k_is) (by k_is)
    have r_l_draw := Sr.raw_mk KX G Sr.b_l_draw (by k_is) (by k_is) (by k_is) (by k_is)
    have r_l_leaf := Sr.raw_mk KX G Sr.b_l_leaf (by k_is) (by k_is) (by k_is) (by k_is)
    have r_l_place := Sr.raw_mk KX G Sr.b_l_place (by k_is) (by k_is) (by k_is) (by k_is)
    have r_l_choice := Sr.raw_mk KX G Sr.b_l_choice (by k_is) (by k_is) (by k_is) (by k_is)
    have r_l_parts := Sr.raw_mk KX G Sr.b_l_parts (by k_is) (by k_is) (by k_is) (by k_is)
    have r_joined := Sr.raw_mk KX G Sr.b_joined (by k_is) (by k_is) (by k_is) (by k_is)
    have r_P_init := Sr.rawI_mk (C := 57) KX Sr.b_P_init (by k_is) (by k_is) (by k_is) (by k_is) (by k_is) (by k_is) (by k_is)
    have r_P_add := Sr.rawM_mk (C := 57) KX Sr.b_P_add (by k_is) (by k_is) (by k_is) (by k_is) (by k_is)
    have r_P_link := Sr.rawM_mk (C := 57) KX Sr.b_P_link (by k_is) (by k_is) (by k_is) (by k_is) (by k_is)
    have r_walk_place := Sr.raw_mk KX G Sr.b_walk_place (by k_is) (by k_is) (by k_is) (by k_is)
    have r_walk_sequence := Sr.raw_mk KX G Sr.b_walk_sequence (by k_is) (by k_is) (by k_is) (by k_is)
    have r_walk_choice := Sr.raw_mk KX G Sr.b_walk_choice (by k_is) (by k_is) (by k_is) (by k_is)
    have r_walk_repeated := Sr.raw_mk KX G Sr.b_walk_repeated (by k_is) (by k_is) (by k_is) (by k_is)
    have r_walk_maybe := Sr.raw_mk KX G Sr.b_walk_maybe (by k_is) (by k_is) (by k_is) (by k_is)
    have r_walk := Sr.raw_mk KX G Sr.b_walk (by k_is) (by k_is) (by k_is) (by k_is)
    have r_machine := Sr.raw_mk KX G Sr.b_machine (by k_is) (by k_is) (by k_is) (by k_is)
    have r_machines := Sr.raw_mk KX G Sr.b_machines (by k_is) (by k_is) (by k_is) (by k_is)
    have r_reached := Sr.raw_mk KX G Sr.b_reached (by k_is) (by k_is) (by k_is) (by k_is)
    have r_looks_at := Sr.raw_mk KX G Sr.b_looks_at (by k_is) (by k_is) (by k_is) (by k_is)
    have r_pieces_looked_at := Sr.raw_mk KX G Sr.b_pieces_looked_at (by k_is) (by k_is) (by k_is) (by k_is)
    have r_looks_of := Sr.raw_mk KX G Sr.b_looks_of (by k_is) (by k_is) (by k_is) (by k_is)
    have r_needed_with := Sr.raw_mk KX G Sr.b_needed_with (by k_is) (by k_is) (by k_is) (by k_is)
    have r_allowed := Sr.rawC_mk (c := 181) KX G Sr.b_allowed (by k_is) (by k_is) (by k_is) (by k_is)
    have r_best_rests := Sr.raw_mk KX G Sr.b_best_rests (by k_is) (by k_is) (by k_is) (by k_is)
    have r_best_table := Sr.raw_mk KX G Sr.b_best_table (by k_is) (by k_is) (by k_is) (by k_is)
    have r_best := Sr.raw_mk KX G Sr.b_best (by k_is) (by k_is) (by k_is) (by k_is)
    have r_l_count := Sr.raw_mk KX G Sr.b_l_count (by k_is) (by k_is) (by k_is) (by k_is)
    have r_l_spots := Sr.raw_mk KX G Sr.b_l_spots (by k_is) (by k_is) (by k_is) (by k_is)
    have r_l_all := Sr.raw_mk KX G Sr.b_l_all (by k_is) (by k_is) (by k_is) (by k_is)
    have r_l_rests := Sr.raw_mk KX G Sr.b_l_rests (by k_is) (by k_is) (by k_is) (by k_is)
    have r_l_regions := Sr.raw_mk KX G Sr.b_l_regions (by k_is) (by k_is) (by k_is) (by k_is)
    have r_l_moved := Sr.raw_mk KX G Sr.b_l_moved (by k_is) (by k_is) (by k_is) (by k_is)
    have r_l_leaves := Sr.raw_mk KX G Sr.b_l_leaves (by k_is) (by k_is) (by k_is) (by k_is)
    have r_l_price := Sr.raw_mk KX G Sr.b_l_price (by k_is) (by k_is) (by k_is) (by k_is)
    have r_l_unlike := Sr.raw_mk KX G Sr.b_l_unlike (by k_is) (by k_is) (by k_is) (by k_is)
    have r_l_drawn := Sr.raw_mk KX G Sr.b_l_drawn (by k_is) (by k_is) (by k_is) (by k_is)
    have r_l_damaged := Sr.raw_mk KX G Sr.b_l_damaged (by k_is) (by k_is) (by k_is) (by k_is)
    have r_l_world := Sr.raw_mk KX G Sr.b_l_world (by k_is) (by k_is) (by k_is) (by k_is)
    have r_l_same := Sr.raw_mk KX G Sr.b_l_same (by k_is) (by k_is) (by k_is) (by k_is)
    have r_law := Sr.raw_mk KX G Sr.b_law (by k_is) (by k_is) (by k_is) (by k_is)
    have R := Sr.Raws.mk r_extent r_piece r_is_strip r_pixel r_leaf_pixel r_fits r_leaf_cost r_l_strip r_l_extent r_l_piece r_l_fits r_l_cell r_l_digits r_l_draw r_l_leaf r_l_place r_l_choice r_l_parts r_joined r_P_init r_P_add r_P_link r_walk_place r_walk_sequence r_walk_choice r_walk_repeated r_walk_maybe r_walk r_machine r_machines r_reached r_looks_at r_pieces_looked_at r_looks_of r_needed_with r_allowed r_best_rests r_best_table r_best r_l_count r_l_spots r_l_all r_l_rests r_l_regions r_l_moved r_l_leaves r_l_price r_l_unlike r_l_drawn r_l_damaged r_l_world r_l_same r_law
    exact ⟨181, 177, Sr.spLaw _ 177, hT, by kernel_rfl, hc, fun H a ns hl hH hS => ⟨a, ns, rfl, hS, ⟨#[], hH, by simp [TriplesOk]⟩, fun _ => rfl⟩, fun base _ _ TB => Sr.law_all R B T TW TB⟩
