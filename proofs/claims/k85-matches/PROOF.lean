import PyProof.Rows.All
import Wide.All
import OpenK.AllK
import Wide.FinOn
import HandS.ForMost
import HandS.IsInst
import HandS.Wide
import HandS.WideBits
import HandS.Deep
import HandS.Defaults
import HandS.TupAny
import HandS.TryMany
import HandS.Lambda
import HandS.ExcOwn
import HandS.ExcInit
import HandS.ExcField
import HandS.MakeKwOnly
import HandS.RaiseMore
import PyProof.ReprRoads
import PyProof.ReprLen
import HandS.Zip
import HandS.Zip0
import KE.KDictZip
import KE.KItemsList
import HandS.ListItems
import HandS.Walk
import HandS.More
import HandS.SortInts
import HandS.ExcIs
import HandS.CallRecv
import KE.KExcIs
import KE.KAssignIn
import KE.KStateDown
import KE.KNestM
import HandS.NestedK
import HandS.Head0
import HandS.Head1
import HandS.Head2
import HandS.HeadEnd
import HandS.HeadHook1
import HandS.HeadHook2
import HandS.HeadHook3
import HandS.HeadHook4
import HandS.HeadWalk
import HandS.EndTab
import HandS.Style
import PySem.Challenge.RW_defended_k85_whole_matches_by_hand
set_option Elab.async false
set_option linter.all false
set_option maxRecDepth 100000
set_option maxHeartbeats 0
/-! ### text Lay -/
namespace Lay
open PySem PySem.Spec PyProof.Rows L2
/-! ## heaps: R M H H': all but M stays; M holds pots -/
def PotOk (a b : Int) : Prop := 0 ≤ a ∧ a.natAbs < 2 ^ 1048577 ∧ 0 ≤ b ∧ b < 4294967296
def PotAt (H : Hp) (p : Addr) : Prop := ∃ a b : Int, PotOk a b ∧ H p = some (.lst [.int a, .int b])
structure R (M : List Addr) (H H' : Hp) : Prop where
  keep : ∀ a o, a ∉ M → H a = some o → H' a = some o
  tups : ∀ a xs, H a = some (.tup xs) → H' a = some (.tup xs)
  frzs : ∀ a o u, H a = some (.frz o u) → H' a = some (.frz o u)
  pots : ∀ p ∈ M, PotAt H p → PotAt H' p
abbrev Ex (H H' : Hp) : Prop := R [] H H'
section
variable {M : List Addr} {K : PySem.W.Frag} {H H1 H2 H' : Hp} {a p : Addr} {o : HO} {xs : List V} {v : V} {d : PyData}
theorem R.refl (H : Hp) : R M H H := ⟨fun _ _ _ h => h, fun _ _ h => h, fun _ _ _ h => h, fun _ _ h => h⟩
theorem R.trans (a : R M H H1) (b : R M H1 H2) : R M H H2 :=
  ⟨fun x o n h => b.keep x o n (a.keep x o n h), fun x o h => b.tups x o (a.tups x o h), fun x o u h => b.frzs x o u (a.frzs x o u h), fun p h q => b.pots p h (a.pots p h q)⟩
theorem R.of (e : Ex H H') : R M H H' := ⟨fun x o _ h => e.keep x o (by simp) h, e.tups, e.frzs, fun p _ ⟨a, b, c, d⟩ => ⟨a, b, c, e.keep p _ (by simp) d⟩⟩
theorem R.new (h : H p = none) : R M H (upd H p o) :=
  have k : ∀ b u, H b = some u → upd H p o b = some u := fun b u e => by rw [upd_ne (ne_of_none e h)]; exact e
  ⟨fun b u _ e => k b u e, fun b u e => k b _ e, fun b u w e => k b _ e, fun q _ ⟨a, b, c, d⟩ => ⟨a, b, c, k q _ d⟩⟩
/-- an object that was not there at H may change -/
theorem R.mut (e : R M H H') (h : H p = none) : R M H (upd H' p o) :=
  have k : ∀ b u, H b = some u → H' b = some u → upd H' p o b = some u := fun b u e e' => by rw [upd_ne (ne_of_none e h)]; exact e'
  ⟨fun b u n q => k b u q (e.keep b u n q), fun b u q => k b _ q (e.tups b u q), fun b u w q => k b _ q (e.frzs b u w q), fun q m ⟨a, b, c, d⟩ => by
    obtain ⟨a', b', c', d'⟩ := e.pots q m ⟨a, b, c, d⟩
    exact ⟨a', b', c', by rw [upd_ne (ne_of_none d h)]; exact d'⟩⟩
theorem R.free (e : R M H H') (h : H' p = none) (n : p ∉ M) : H p = none := by
  cases q : H p with
  | none => rfl
  | some o => rw [e.keep p o n q] at h; cases h
theorem R.exfree (e : Ex H H') (h : H' p = none) : H p = none := R.free e h (by simp)
theorem R.sqt (e : R M H H') (h : SqT K H a xs) : SqT K H' a xs := by
  rcases h with (h | ⟨o, h⟩) | h
  · exact .inl (.inl (e.tups _ _ h))
  · exact .inl (.inr ⟨o, e.frzs _ _ _ h⟩)
  · exact .inr h
theorem R.sql (e : R M H H') (n : a ∉ M) (h : SqL K H a xs) : SqL K H' a xs := by
  rcases h with (h | ⟨o, h⟩) | h
  · exact .inl (.inl (e.keep _ _ n h))
  · exact .inl (.inr ⟨o, e.frzs _ _ _ h⟩)
  · exact .inr h
end
/-! ## data -/
mutual
/-- without lists, dicts -/
def im : PyData → Bool
  | .none => true
  | .bool _ => true
  | .int _ => true
  | .str _ => true
  | .list _ => false
  | .tuple xs => ims xs
  | .dict _ => false
def ims : List PyData → Bool
  | [] => true
  | x :: xs => im x && ims xs
end
theorem ims_get : ∀ {ds : List PyData} {i : Nat} {d : PyData}, ims ds = true → ds[i]? = some d → im d = true
  | [], _, _, _, e => by simp at e
  | x :: xs, 0, _, h, e => by
    unfold ims at h
    simp at e
    subst e
    exact (Bool.and_eq_true_iff.mp h).1
  | x :: xs, i + 1, _, h, e => by
    unfold ims at h
    exact ims_get (Bool.and_eq_true_iff.mp h).2 (by simpa using e)
theorem ims_of : ∀ {ds : List PyData}, (∀ d ∈ ds, im d = true) → ims ds = true
  | [], _ => rfl
  | x :: xs, h => by
    unfold ims
    rw [h x (by simp), ims_of (ds := xs) fun d hd => h d (by simp [hd])]
    rfl
section
variable {M : List Addr} {K : PySem.W.Frag} {H H' : Hp}
mutual
theorem R.dp (e : R M H H') : ∀ (d : PyData) (v : V), im d = true → Dp K H v d → Dp K H' v d
  | .none, _, _, h => by cases h; exact .non
  | .bool _, _, _, h => by cases h; exact .bl _
  | .int _, _, _, h => by cases h; exact .int _
  | .str _, _, _, h => by cases h; exact .str _
  | .tuple ds, _, i, h => by
    cases h with
    | tup q r => exact .tup (e.sqt q) (R.dps e ds _ (by unfold im at i; exact i) r)
theorem R.dps (e : R M H H') : ∀ (ds : List PyData) (vs : List V), ims ds = true → DpAll K H vs ds → DpAll K H' vs ds
  | [], _, _, h => by cases h; exact .nil
  | d :: ds, _, i, h => by
    cases h with
    | cons q r =>
      unfold ims at i
      obtain ⟨i1, i2⟩ := Bool.and_eq_true_iff.mp i
      exact .cons (R.dp e d _ i1 q) (R.dps e ds _ i2 r)
end
mutual
theorem R.xp (e : Ex H H') : ∀ (d : PyData) (v : V), Dp K H v d → Dp K H' v d
  | .none, _, h => by cases h; exact .non
  | .bool _, _, h => by cases h; exact .bl _
  | .int _, _, h => by cases h; exact .int _
  | .str _, _, h => by cases h; exact .str _
  | .tuple ds, _, h => by
    cases h with
    | tup q r => exact .tup (e.sqt q) (R.xps e ds _ r)
  | .list ds, _, h => by
    cases h with
    | lst q r => exact .lst (e.sql (by simp) q) (R.xps e ds _ r)
  | .dict _, _, h => by cases h
theorem R.xps (e : Ex H H') : ∀ (ds : List PyData) (vs : List V), DpAll K H vs ds → DpAll K H' vs ds
  | [], _, h => by cases h; exact .nil
  | d :: ds, _, h => by
    cases h with
    | cons q r => exact .cons (R.xp e d _ q) (R.xps e ds _ r)
end
end
end Lay
namespace L2
open PySem PySem.Spec PyProof.Rows
section
variable {K : PySem.W.Frag} {H : Hp}
theorem Dp.int_inv {v : V} {i : Int} (h : Dp K H v (.int i)) : v = .int i := by cases h; rfl
theorem Dp.str_inv {v : V} {i : Str} (h : Dp K H v (.str i)) : v = .str i := by cases h; rfl
theorem Dp.bl_inv {v : V} {i : Bool} (h : Dp K H v (.bool i)) : v = .bl i := by cases h; rfl
theorem Dp.non_inv {v : V} (h : Dp K H v .none) : v = .non := by cases h; rfl
theorem Dp.tup_inv {v : V} {ds : List PyData} (h : Dp K H v (.tuple ds)) : ∃ a vs, v = .ref a ∧ SqT K H a vs ∧ DpAll K H vs ds := by
  cases h with
  | tup q r => exact ⟨_, _, rfl, q, r⟩
theorem Dp.lst_inv {v : V} {ds : List PyData} (h : Dp K H v (.list ds)) : ∃ a vs, v = .ref a ∧ SqL K H a vs ∧ DpAll K H vs ds := by
  cases h with
  | lst q r => exact ⟨_, _, rfl, q, r⟩
theorem DpAll.len : ∀ {vs : List V} {ds : List PyData}, DpAll K H vs ds → vs.length = ds.length
  | _, _, .nil => rfl
  | _, _, .cons _ t => by simp [DpAll.len t]
theorem DpAll.get : ∀ {vs : List V} {ds : List PyData} {i : Nat} {d : PyData}, DpAll K H vs ds → ds[i]? = some d → ∃ v, vs[i]? = some v ∧ Dp K H v d
  | _, _, _, _, .nil, e => by simp at e
  | _, _, 0, _, .cons q _, e => by simp at e; subst e; exact ⟨_, rfl, q⟩
  | _, _, i + 1, _, .cons _ t, e => by
    obtain ⟨v, h1, h2⟩ := DpAll.get (i := i) t (by simpa using e)
    exact ⟨v, by simpa using h1, h2⟩
theorem DpAll.getv : ∀ {vs : List V} {ds : List PyData} {i : Nat} {v : V}, DpAll K H vs ds → vs[i]? = some v → ∃ d, ds[i]? = some d ∧ Dp K H v d
  | _, _, _, _, .nil, e => by simp at e
  | _, _, 0, _, .cons q _, e => by simp at e; subst e; exact ⟨_, rfl, q⟩
  | _, _, i + 1, _, .cons _ t, e => by
    obtain ⟨v, h1, h2⟩ := DpAll.getv (i := i) t (by simpa using e)
    exact ⟨v, by simpa using h1, h2⟩
theorem DpAll.app : ∀ {vs ws : List V} {ds es : List PyData}, DpAll K H vs ds → DpAll K H ws es → DpAll K H (vs ++ ws) (ds ++ es)
  | _, _, _, _, .nil, s => s
  | _, _, _, _, .cons q t, s => .cons q (DpAll.app t s)
theorem atI_len {α β : Type} {xs : List α} {ys : List β} (h : xs.length = ys.length) {i : Int} {y : β} (e : atI ys i = some y) : ∃ j : Nat, ixN ys.length i = some j ∧ ys[j]? = some y ∧ atI xs i = xs[j]? := by
  unfold atI at e ⊢
  rw [h]
  cases q : ixN ys.length i with
  | none => rw [q] at e; cases e
  | some j =>
    rw [q] at e
    have e' : ys[j]? = some y := e
    have hj : j < xs.length := by rw [h]; exact (List.getElem?_eq_some_iff.mp e').1
    exact ⟨j, rfl, e', rfl⟩
theorem DpAll.at {vs : List V} {ds : List PyData} {i : Int} {d : PyData} (h : DpAll K H vs ds) (e : atI ds i = some d) : ∃ v, atI vs i = some v ∧ Dp K H v d := by
  obtain ⟨j, _, e', q⟩ := atI_len h.len e
  obtain ⟨v, h1, h2⟩ := h.get e'
  exact ⟨v, q.trans h1, h2⟩
end
end L2
namespace Lay
open PySem PySem.Spec PyProof.Rows L2
section
variable {M : List Addr} {K : PySem.W.Frag} {H H' : Hp}
theorem dp_lst {l : Addr} {vs : List V} {ds : List PyData} (h : H l = some (.lst vs)) (r : DpAll K H vs ds) : Dp K H (.ref l) (.list ds) := .lst (SqL.of h) r
theorem dp_tup {l : Addr} {vs : List V} {ds : List PyData} (h : H l = some (.tup vs)) (r : DpAll K H vs ds) : Dp K H (.ref l) (.tuple ds) := .tup (SqT.of h) r
end
/-! ## reading, step by step -/
section
variable {K : PySem.W.Frag} {σ : L2.St} {H : Hp} {Q : VK} {QB : Bool → Hp → Prop} {QL : List V → Hp → Prop} {ta tb te : TE} {t u : TT} {tl tr : TA} {v w x y : V} {D : Ends} {ts tw : TS} {g : TG}
theorem x_var {i : Nat} (h : σ[i]? = some (some v)) (q : Q v H) : tVar i σ H Q := ⟨v, h, q⟩
theorem x_c (q : Q v H) : tC v σ H Q := q
theorem x_op {r : R2} (q : ta σ H fun x H1 => tb σ H1 fun y H2 => r x y H2 Q) : tOp r ta tb σ H Q := q
theorem x_un {r : V → Hp → VK → Prop} (q : ta σ H fun x H1 => r x H1 Q) : tUn r ta σ H Q := q
theorem x_cb {r : List V → Hp → VK → Prop} (q : tl σ H fun vs H1 => r vs H1 Q) : tCB r tl σ H Q := q
theorem x_nil (q : QL [] H) : tNil σ H QL := q
theorem x_cons (q : ta σ H fun x H1 => tr σ H1 fun xs H2 => QL (x :: xs) H2) : tCons ta tr σ H QL := q
theorem x_if (q : t σ H fun c H1 => if c = true then ta σ H1 Q else tb σ H1 Q) : tIf t ta tb σ H Q := q
theorem x_test (q : ta σ H fun x H' => ∃ k, x = .bl k ∧ QB k H') : tTest ta σ H QB := q
theorem x_B (q : ta σ H fun x H' => ∃ k, x = .bl k ∧ QB k H') : tB ta σ H QB := q
theorem x_k {b : Bool} {P : Bool → Prop} (q : P b) : ∃ k, V.bl b = .bl k ∧ P k := ⟨b, rfl, q⟩
theorem x_and (q : t σ H fun c H1 => if c = true then u σ H1 QB else QB false H1) : tAnd t u σ H QB := q
theorem x_or (q : t σ H fun c H1 => if c = true then QB true H1 else u σ H1 QB) : tOr t u σ H QB := q
theorem x_not (q : t σ H fun c H1 => QB (!c) H1) : tNot t σ H QB := q
theorem x_andV (q : ta σ H fun x H1 => ∃ c, x = .bl c ∧ if c = true then tb σ H1 Q else Q (.bl false) H1) : tAndV ta tb σ H Q := q
theorem x_orV (q : ta σ H fun x H1 => ∃ c, x = .bl c ∧ if c = true then Q (.bl true) H1 else tb σ H1 Q) : tOrV ta tb σ H Q := q
theorem x_notV (q : ta σ H fun x H1 => ∃ c, x = .bl c ∧ Q (.bl (!c)) H1) : tNotV ta σ H Q := q
theorem x_I0 {f : Int → Int → V} {i j : Int} (q : Q (f i j) H) : rI0 f (.int i) (.int j) H Q := ⟨i, j, rfl, rfl, q⟩
theorem x_I {C : Int → Int → Prop} {f : Int → Int → V} {i j : Int} (c : C i j) (q : Q (f i j) H) : rI C f (.int i) (.int j) H Q := ⟨i, j, rfl, rfl, c, q⟩
theorem x_U {f : Int → V} {i : Int} (q : Q (f i) H) : rU f (.int i) H Q := ⟨i, rfl, q⟩
theorem x_eq (h : scal x y = true) (q : Q (.bl (decide (x = y))) H) : rEq x y H Q := ⟨h, q⟩
theorem x_ne (h : scal x y = true) (q : Q (.bl (!decide (x = y))) H) : rNe x y H Q := ⟨h, q⟩
theorem x_ixT {ds : List PyData} {i : Int} {d : PyData} (h : Dp K H v (.tuple ds)) (e : atI ds i = some d) (q : ∀ w, Dp K H w d → Q w H) : rIxT K v (.int i) H Q := by
  obtain ⟨a, vs, rfl, hs, hd⟩ := Dp.tup_inv h
  obtain ⟨w, h1, h2⟩ := hd.at e
  exact ⟨a, vs, i, w, rfl, rfl, hs, h1, q w h2⟩
theorem x_ixL {ds : List PyData} {i : Int} {d : PyData} (h : Dp K H v (.list ds)) (e : atI ds i = some d) (q : ∀ w, Dp K H w d → Q w H) : rIxL K v (.int i) H Q := by
  obtain ⟨a, vs, rfl, hs, hd⟩ := Dp.lst_inv h
  obtain ⟨w, h1, h2⟩ := hd.at e
  exact ⟨a, vs, i, w, rfl, rfl, hs, h1, q w h2⟩
def TupK (Q : VK) : List V → Hp → Prop := fun xs H1 => xs.length ≤ sizeLine ∧ ∀ p, H1 p = none → Q (.ref p) (upd H1 p (.tup xs))
def LstK (Q : VK) : List V → Hp → Prop := fun xs H1 => xs.length ≤ sizeLine ∧ ∀ p, H1 p = none → Q (.ref p) (upd H1 p (.lst xs))
theorem x_tup {xs : List V} {ds : List PyData} (h : DpAll K H xs ds) (hl : xs.length ≤ 100000) (q : ∀ v H', Ex H H' → Dp K H' v (.tuple ds) → Q v H') : TupK Q xs H :=
  ⟨Nat.le_trans hl (by decide), fun p hp => q _ _ (R.new hp) (dp_tup upd_same (R.xps (R.new hp) _ _ h))⟩
theorem x_tupE (q : tl σ H (TupK Q)) : tTup tl σ H Q := q
theorem x_lstE (q : tl σ H (LstK Q)) : tLst tl σ H Q := q
theorem x_lst {xs : List V} {ds : List PyData} (h : DpAll K H xs ds) (hl : xs.length ≤ 100000) (q : ∀ l H', Ex H H' → H l = none → H' l = some (.lst xs) → Dp K H' (.ref l) (.list ds) → Q (.ref l) H') : LstK Q xs H :=
  ⟨Nat.le_trans hl (by decide), fun p hp => q _ _ (R.new hp) hp upd_same (dp_lst upd_same (R.xps (R.new hp) _ _ h))⟩
theorem x_lenD {ds : List PyData} (h : Dp K H v (.tuple ds) ∨ Dp K H v (.list ds)) (q : Q (.int (ds.length : Int)) H) : ∃ p ys, [v] = [V.ref p] ∧ (SqL K H p ys ∨ SqT K H p ys) ∧ Q (.int (ys.length : Int)) H := by
  rcases h with h | h
  · obtain ⟨a, vs, rfl, hs, hd⟩ := Dp.tup_inv h
    exact ⟨a, vs, rfl, .inr hs, by rw [hd.len]; exact q⟩
  · obtain ⟨a, vs, rfl, hs, hd⟩ := Dp.lst_inv h
    exact ⟨a, vs, rfl, .inl hs, by rw [hd.len]; exact q⟩
/-! statements -/
theorem x_seq (q : ts { D with nx := tw D } σ H) : tSeq ts tw D σ H := q
theorem x_next (q : D.nx σ H) : tNext D σ H := q
theorem x_drop (q : te σ H fun _ H1 => D.nx σ H1) : tDrop te D σ H := q
theorem x_ret (q : te σ H D.rt) : tRet te D σ H := q
theorem x_retN (q : D.rt .non H) : tRetN D σ H := q
theorem x_ifS (q : t σ H fun b H1 => if b = true then ts D σ H1 else tw D σ H1) : tIfS t ts tw D σ H := q
theorem x_asg (q : te σ H fun x H1 => g x σ H1 D.nx) : tAsg te g D σ H := q
theorem x_name {i : Nat} {N : L2.St → Hp → Prop} (q : N (σ.set i (some v)) H) : gName i v σ H N := q
theorem x_gnil {N : L2.St → Hp → Prop} (q : N σ H) : gNil [] σ H N := ⟨rfl, q⟩
theorem x_gcons {gs : TGs} {N : L2.St → Hp → Prop} {r : List V} (q : g v σ H fun σ' H' => gs r σ' H' N) : gCons g gs (v :: r) σ H N := ⟨v, r, rfl, q⟩
theorem dps_inv {ds : List PyData} {n : Nat} (h : Dp K H v (.tuple ds)) : ∃ a vs, v = .ref a ∧ SqT K H a vs ∧ DpAll K H vs ds := Dp.tup_inv h
theorem x_gtup2 {gs : TGs} {N : L2.St → Hp → Prop} {d1 d2 : PyData} (h : Dp K H v (.tuple [d1, d2])) (q : ∀ v1 v2, Dp K H v1 d1 → Dp K H v2 d2 → gs [v1, v2] σ H N) : gTup K 2 gs v σ H N := by
  obtain ⟨a, vs, rfl, hs, hd⟩ := Dp.tup_inv h
  cases hd with
  | cons h1 r => cases r with
    | cons h2 r => cases r; exact ⟨a, _, rfl, hs, rfl, q _ _ h1 h2⟩
theorem x_iT {R' : It → Hp → Prop} (q : te σ H fun x H1 => ∃ a, x = V.ref a ∧ (∃ xs, SqT K H1 a xs) ∧ R' (Itt K a) H1) : iTup K te σ H R' := q
theorem x_iL {R' : It → Hp → Prop} (q : te σ H fun x H1 => ∃ a, x = V.ref a ∧ (∃ xs, SqL K H1 a xs) ∧ R' (Itl K a) H1) : iList K te σ H R' := q
theorem x_forT {M : List Addr} {ds : List PyData} (W : Nat → L2.St → Hp → Prop) (h : Dp K H v (.tuple ds)) (h0 : W 0 σ H) (hW : ∀ i σ' H', W i σ' H' → R M H H') (hm : M = [] ∨ ims ds = true)
    (hs : ∀ (i : Nat) d x σ' H', ds[i]? = some d → W i σ' H' → Dp K H' x d → g x σ' H' fun σ2 H2 => ts { D with nx := W (i + 1), ct := W (i + 1), bk := D.nx } σ2 H2) (hd : ∀ σ' H', W ds.length σ' H' → D.nx σ' H') :
    ∃ a, v = V.ref a ∧ (∃ xs, SqT K H a xs) ∧ ∃ W : Nat → Nat → L2.St → Hp → Prop, (∃ m, W 0 m σ H) ∧ ∀ i m σ H, W i m σ H →
  ((Itt K a).stop i H ∧ D.nx σ H) ∨ ((Itt K a).go i H ∧ ∃ N : L2.St → Hp → Prop, (∀ σ' H', N σ' H' → ∃ m', m' < m ∧ W (i + 1) m' σ' H') ∧ ∀ x H', (Itt K a).yld i H x H' → g x σ H' fun σ2 H2 => ts { D with nx := N, ct := N, bk := D.nx } σ2 H2) := by
  obtain ⟨a, vs, rfl, hq, hda⟩ := Dp.tup_inv h
  refine ⟨a, rfl, ⟨vs, hq⟩, for_tup (xs := vs) W h0 (fun i σ' H' _ p => (hW i σ' H' p).sqt hq) (fun i x σ' H' e p => ?_) fun σ' H' p => hd σ' H' (by rw [← hda.len]; exact p)⟩
  obtain ⟨d, e1, e2⟩ := hda.getv e
  refine hs i d x σ' H' e1 p ?_
  have r := hW i σ' H' p
  rcases hm with hm | hm
  · subst hm
    exact R.xp r _ _ e2
  · exact R.dp r _ _ (ims_get hm e1) e2
theorem x_forE {wi : TI} (q : wi σ H fun J H1 => ∃ W : Nat → Nat → L2.St → Hp → Prop, (∃ m, W 0 m σ H1) ∧ ∀ i m σ H, W i m σ H →
  (J.stop i H ∧ D.nx σ H) ∨ (J.go i H ∧ ∃ N : L2.St → Hp → Prop, (∀ σ' H', N σ' H' → ∃ m', m' < m ∧ W (i + 1) m' σ' H') ∧ ∀ x H', J.yld i H x H' → g x σ H' fun σ2 H2 => ts { D with nx := N, ct := N, bk := D.nx } σ2 H2)) : tFor wi g ts D σ H := q
end
theorem atI_nn {α : Type} {xs : List α} {i : Int} {x : α} (h0 : 0 ≤ i) (e : xs[i.toNat]? = some x) : atI xs i = some x := by
  have q := atI_nat e
  rwa [show ((i.toNat : Nat) : Int) = i by omega] at q
/-! ## defs -/
def IsDef (K : PySem.W.Frag) (mg : Str → Option Value) (x : Str) (st : Stmt) : Prop := ∃ f fd, mg x = some (.ref f) ∧ Fun K x x st f fd
/-- the def that the module's name x stands for keeps the promise sp -/
def Cal (P : Program) (w : World) (K : PySem.W.Frag) (mg : Str → Option Value) (base : Heap) (x : Str) (ps : List Str) (k : Nat) (sp : Sp) : Prop :=
  ∃ f fd, mg x = some (.ref f) ∧ PySem.W.keepIn K (.ref f) = true ∧ Binds K fd ps [] ∧ FnOk P w K mg base CX0 k f fd ps sp
section
variable {P : Program} {w : World} {K : PySem.W.Frag} {mg : Str → Option Value} {base : Heap} {x : Str} {st : Stmt} {N ps : List Str} {k : Nat} {sp : Sp}
theorem cal_of (F : IsDef K mg x st) (S : FnScope N ps (defScope st)) (len : ∀ vs H Q E, sp vs H Q E → vs.length = ps.length)
    (hbind : ∀ (kV doc pm : Value) (an : Option Addr) (cdv ct : Value) (us : List Value), us.length = ps.length → bindArgs (PySem.W.fnOf x x (defArgs st) (defBody st) (defScope st) .none kV doc pm an cdv ct) ⟨us, []⟩ = pure (ps.zip us))
    (hbody : ∀ (f : Addr) (cdv : Value) (A : Around) (outer : List Env) (s : Shared) (H : Hp) (vs : List V) (Q : VK) (E : XK), Room k (A.deeper (envOfC x (defScope st) s.heap.objs.size f cdv)) → sp vs H Q E →
      ∃ t, PSs (cxOf CX0 P w K mg base N x (defScope st) f cdv A outer s H E).nox (defBody st) t ∧ t { nx := fun _ H' => Q .non H', rt := Q } (start N vs) H) : Cal P w K mg base x ps (k + 1) sp := by
  obtain ⟨f, fd, hm, F⟩ := F
  exact ⟨f, fd, hm, F.kp, F.binds hbind, F.ok S len fun cdv A outer s H vs Q E hr h => hbody f cdv A outer s H vs Q E hr h⟩
theorem Cal.mono {j : Nat} (C : Cal P w K mg base x ps k sp) (h : k ≤ j) : Cal P w K mg base x ps j sp := by
  obtain ⟨f, fd, hm, hk, hb, F⟩ := C
  exact ⟨f, fd, hm, hk, hb, F.mono h⟩
theorem Cal.imp {sp' : Sp} (C : Cal P w K mg base x ps k sp) (h : ∀ vs H Q E, sp' vs H Q E → sp vs H Q E) : Cal P w K mg base x ps k sp' := by
  obtain ⟨f, fd, hm, hk, hb, F⟩ := C
  exact ⟨f, fd, hm, hk, hb, F.imp h⟩
theorem pe_def {X : Cx} {e : Expr} {es : List Expr} {p pos : Pos} {t : TA} (C : Cal X.prog X.w X.K X.mg X.base x ps k sp) (hr : Room k X.A) (ha : PA X (e :: es) t) (hg : Gl X x := by rfl)
    (hdb : (x == ("__debug__" : Str)) = false := by decide) (he : starEach (e :: es) X.env = (false, eval e X.env) :: starEach es X.env := by rfl) (hpl : (backTo pos (starEach es X.env)).any (·.1) = false := by rfl) :
    PE X (.Call (.Name x p) (e :: es) [] pos) (tCall sp [] E0 t) := by
  obtain ⟨f, fd, hm, hk, hb, F⟩ := C
  exact pe_call F hr hg hm hk hb .nil pass0 ha hdb he hpl
theorem pe_gstr {X : Cx} {x z : Str} {pos : Pos} (hm : ∃ t, X.mg x = some (.str z t)) (hg : Gl X x := by rfl) (hd : (x == ("__debug__" : Str)) = false := by decide) : PE X (.Name x pos) (tC (.str z)) := by
  obtain ⟨t, h⟩ := hm
  exact pe_glob hg h ⟨t, rfl⟩ hd
theorem pe_gint {X : Cx} {x : Str} {i : Int} {pos : Pos} (hm : ∃ t, X.mg x = some (.int i t)) (hg : Gl X x := by rfl) (hd : (x == ("__debug__" : Str)) = false := by decide) : PE X (.Name x pos) (tC (.int i)) := by
  obtain ⟨t, h⟩ := hm
  exact pe_glob hg h ⟨t, rfl⟩ hd
theorem pe_gref {X : Cx} {x : Str} {a : Addr} {pos : Pos} (hm : X.mg x = some (.ref a)) (hg : Gl X x := by rfl) (hd : (x == ("__debug__" : Str)) = false := by decide) : PE X (.Name x pos) (tC (.ref a)) := pe_glob hg hm rfl hd
theorem x_call {σ : L2.St} {H : Hp} {Q : VK} {E : XK} {t : TA} {dvs : List V} (q : t σ H fun vs H1 => sp (vs ++ dvs) H1 Q E) : tCall sp dvs E t σ H Q := q
/-- a promise: of data to data, nothing written -/
def spG (K : PySem.W.Frag) {α : Type} (inp : α → List PyData) (pre : α → Prop) (out : α → PyData) : Sp := fun vs H Q _ => ∃ a : α, DpAll K H vs (inp a) ∧ pre a ∧ ∀ v H', Ex H H' → Dp K H' v (out a) → Q v H'
theorem x_spG {α : Type} {inp : α → List PyData} {pre : α → Prop} {out : α → PyData} {vs : List V} {H : Hp} {Q : VK} {E : XK} (a : α) (h : DpAll K H vs (inp a)) (p : pre a) (q : ∀ v H', Ex H H' → Dp K H' v (out a) → Q v H') : spG K inp pre out vs H Q E := ⟨a, h, p, q⟩
end
end Lay

/-! ### text TryAs -/
/-! several except clauses, each with a name -/
namespace L2
open PySem PySem.Spec PyProof.Rows
/-- the clauses: (class, slot of the name, the suite's reading) -/
abbrev AsCl : Type := Value × Nat × (Addr → Value → Option Addr → TS)
/-- what clauses with names wish of an exception of the body, one after the other -/
def wAsMany (K : PySem.W.Frag) (Wout : WX) (D : Ends) : List AsCl → WX
  | [] => Wout
  | (c, i, ts) :: r => fun cls d σ H => ∃ b, PySem.W.exmOne K cls c = some b ∧ (b = true → ∀ a, H a = none → ts a cls d { nx := fun σ' H' => D.nx (σ'.set i none) H', rt := D.rt, bk := fun σ' H' => D.bk (σ'.set i none) H', ct := fun σ' H' => D.ct (σ'.set i none) H' } (σ.set i (some (.ref a))) H) ∧ (b = false → wAsMany K Wout D r cls d σ H)
inductive HdsAs (X : Cx) : List ExceptHandler → List AsCl → Prop
  | nil : HdsAs X [] []
  | cons {x n : Str} {i : Nat} {c : Value} {ts : Addr → Value → Option Addr → TS} {b₀ : Stmt} {suite : List Stmt} {np pos' : Pos} {hds : List ExceptHandler} {l : List AsCl} (hc : Names X x c) (hi : X.N[i]? = some n) (hln : X.env.kindOf n = some .local)
      (hsu : ∀ (a : Addr) (oe : Obj) (cls : Value) (d : Option Addr) (pn : List (Addr × Obj)), Zc cls d oe → (∃ vs, oe.data = .fields vs) → PSs (X.suite a ((a, oe) :: pn)) (b₀ :: suite) (ts a cls d)) (r : HdsAs X hds l) :
      HdsAs X (.ExceptHandler (some (.Name x np)) (some n) (b₀ :: suite) pos' :: hds) ((c, i, ts) :: l)
section
variable {X : Cx} {body : List Stmt} {h₀ : ExceptHandler} {hds : List ExceptHandler} {l : List AsCl} {pos : Pos} {tb : WX → TS} {Wout : WX}
theorem ps_try_asMany (hs : X.stack = X.env :: X.outer) (hf : X.env.frame = some X.env.locals) (hN : X.N.Nodup) (tk : Takes X Wout)
    (hb : ∀ (W : WX) (pn : List (Addr × Obj)) (xe : Value → Shared → Prop), Takes (X.tr pn xe) W → PassesOwn (model X.prog X.w) X.A X.env xe → PSs (X.tr pn xe) body (tb W))
    (hh : HdsAs X (h₀ :: hds) l) : PS X (.Try body (h₀ :: hds) [] [] pos) (fun D σ H => tb (wAsMany X.K Wout D l) D σ H) := by
  refine ⟨fun pins s σ H D I h => ?_⟩
  have ok := I.ok
  have hfr : X.A.frames = some (X.env :: X.outer) := by rw [ok.frames, hs]
  refine wpAny_Try_except ?_
  refine wpAny_mono ((hb (wAsMany X.K Wout D l) (X.pn ++ pins) (fun e s₁ => wpAny (model X.prog X.w) X.A (noteFrame e X.env) (fun _ s₂ => wpAny (model X.prog X.w) X.A (setFlight e none) (fun _ s₃ =>
    wpAny (model X.prog X.w) X.A (handleBy e X.env (h₀ :: hds)) (SP X pins D) X.xe s₃) X.xe s₂) X.xe s₁) (fun u s' xx => ?_) PassesOwn.looking).run [] s σ H D (I.toTry _) h) (fun f s1 hsp => ?_) (fun e s1 he => he)
  · -- the catch
    obtain ⟨a, B, sI, pins', σ', H', cls, d, rfl, J', nb, up, sky, na, os, ag, w⟩ := xx
    have J : Inv X pins σ' H' sI := J'.ofTry ok
    have sky' : Sky B (X.env :: X.outer) a (Zc cls d) X.env.locals s'.heap := by rw [← hs]; exact sky
    show wpAny (model X.prog X.w) X.A (noteFrame (.ref a) X.env) _ _ _
    refine Sky.land Zc.steady hfr hf sky' fun h3 fl3 up3 => ?_
    have J3 : Inv X pins σ' H' { s' with heap := h3 } := J.landed nb fl3.1 (up.trans up3) os ag
    obtain ⟨oe3, vs3, he3, hz3, hd3⟩ := fl3.there
    have notFr : ∀ {h : Heap} {o : Obj} {vs : Array Value}, h.FunFrames B (X.env :: X.outer) → h.get? a = some o → o.data = .fields vs → a ∉ frs (X.env :: X.outer) := fun {h o vs} ff e dd hm => by
      obtain ⟨_, o', e', hnf⟩ := ff.mem hm
      rw [e] at e'; cases e'
      exact hnf _ dd
    have nfr := notFr fl3.2.2.1 he3 hd3
    have nL : a ≠ X.env.locals := fun z => nfr (List.mem_filterMap.mpr ⟨X.env, List.mem_cons_self, by rw [hf, z]⟩)
    have nF : a ∉ X.fs := fun hm => by
      obtain ⟨e, he, q⟩ := List.mem_filterMap.mp hm
      exact nfr (List.mem_filterMap.mpr ⟨e, List.mem_cons_of_mem _ he, q⟩)
    have S3 := J3.suite he3 hd3 na nL nF
    have go : ∀ {hds' : List ExceptHandler} {l' : List AsCl}, HdsAs X hds' l' → wAsMany X.K Wout D l' cls d σ' H' →
        wpAny (model X.prog X.w) X.A (handleBy (.ref a) X.env hds') (SP X pins D) X.xe { s' with heap := h3 } := by
      intro hds' l' hk
      induction hk with
      | nil =>
        intro w
        refine wpAny_handleBy_nil ?_
        obtain ⟨k1, k2, k3, oe, vs, T, oT, ts', he, hz, hd, h1, hr⟩ := id fl3
        unfold PySem.passOn
        refine wpAny_bind (wpAny_field he hd h1 ?_)
        rw [if_neg (show ¬ ((Value.ref T == Value.none) = true) from by simp)]
        have fin : wpAny (model X.prog X.w) X.A (setFlight (.ref a) X.env.frame) (fun _ s4 => wpAny (model X.prog X.w) X.A (throw (.ref a) : Sem Flow) (SP X pins D) X.xe s4) X.xe { s' with heap := h3 } := by
          rw [hf]
          refine HandSPX.setFlight_upZ fl3 fun h4 hh4 up4 => wpAny_throw (tk _ _ ?_)
          exact ⟨a, B, sI, pins, σ', H', cls, d, rfl, J, nb, (up.trans up3).trans up4, .inr (.inr (by rw [hs]; exact hh4)), na, os, ag, w⟩
        first
          | exact wpAny_bind (wpAny_pure (wpAny_bind fin))
          | exact wpAny_bind fin
      | @cons x n i c ts b₀ suite np pos' hds2 l2 hc hi hln hsu r ih =>
        intro w
        obtain ⟨b, hb1, hyes, hno⟩ := w
        have hloc : Loc X.env.scope n := .inl hln
        refine wpAny_handleBy_cons (codeAny_handlers_test ?_) (by intro q; cases q)
        have LT : PySem.W.Looks (model X.prog X.w) h3 (typeOf (.ref a)) cls := fun A Q E s k q => wpAny_typeOf_ref (k _ _ he3) (by rw [hz3.1]; exact q)
        have LM := PySem.W.exm_one (M := model X.prog X.w) (J3.kIn) LT hb1
        have test : ∀ {Q : Value → Shared → Prop} {E : Value → Shared → Prop}, Q c { s' with heap := h3 } → wpAny (model X.prog X.w) (X.A.mark (some (.ref a))) (eval (.Name x np) X.env) Q E { s' with heap := h3 } := fun {Q E} q => by
          obtain ⟨hg, hdbg, hm | ⟨hm, hv, hnn⟩⟩ := hc
          · exact ld_glob (X := X.suite a ((a, oe3) :: (X.pn ++ pins))) S3 hg hm q hdbg
          · exact ld_blt (X := X.suite a ((a, oe3) :: (X.pn ++ pins))) S3 hg hm hv q hnn hdbg
        refine test (LM.here ?_)
        cases b with
        | true =>
          refine codeAny_handlers_suite_as ?_
          refine HandSPX.lands_againZ fl3 fun h4 fl4 up4 => ?_
          have J4 : Inv X pins σ' H' { s' with heap := h4 } := J.landed nb fl4.1 ((up.trans up3).trans up4) os ag
          obtain ⟨oe4, vs4, he4, hz4, hd4⟩ := fl4.there
          have S4 := J4.suite he4 hd4 na nL nF
          refine store_ok (X := X.suite a ((a, oe4) :: (X.pn ++ pins))) (v := .ref a) S4 hN hi hloc rfl (fun s5 S5 => ?_) (.inr hln)
          refine wpAny_mono ((hsu a oe4 cls d (X.pn ++ pins) hz4 ⟨_, hd4⟩).run [] s5 _ H' _ S5 (hyes rfl a na)) (fun f s6 hsp => ?_) (fun _ _ z => False.elim z)
          have end_ : ∀ {σ6 : L2.St} {H6 : Hp} {Q : Shared → Prop}, Inv (X.suite a ((a, oe4) :: (X.pn ++ pins))) [] σ6 H6 s6 → (∀ s7, Inv X pins (σ6.set i none) H6 s7 → Q s7) →
              wpAny (model X.prog X.w) X.A (do bindName X.env n .none; unbindBehindTheSuite X.env n pos') (fun _ s7 => Q s7) X.xe s6 := fun {σ6 H6 Q} S6 hq => gone_ok (S6.unsuite ok) hN hi hln hq
          cases f with
          | next =>
            obtain ⟨σ6, H6, S6, q6⟩ := hsp
            exact end_ S6 fun s7 J7 => ⟨_, _, J7, q6⟩
          | brk =>
            obtain ⟨σ6, H6, S6, q6⟩ := hsp
            exact end_ S6 fun s7 J7 => ⟨_, _, J7, q6⟩
          | cont =>
            obtain ⟨σ6, H6, S6, q6⟩ := hsp
            exact end_ S6 fun s7 J7 => ⟨_, _, J7, q6⟩
          | ret u =>
            obtain ⟨v6, σ6, H6, S6, r6, q6⟩ := hsp
            exact end_ S6 fun s7 J7 => ⟨_, _, _, J7, r6, q6⟩
        | false =>
          show wpAny _ X.A (handleBy (.ref a) X.env hds2) _ _ _
          exact ih (hno rfl)
    exact go hh w
  · cases f with
    | next =>
      obtain ⟨σ', H', J', q⟩ := hsp
      exact wpAny_execs_nil ⟨σ', H', J'.ofTry ok, q⟩
    | brk =>
      obtain ⟨σ', H', J', q⟩ := hsp
      exact ⟨σ', H', J'.ofTry ok, q⟩
    | cont =>
      obtain ⟨σ', H', J', q⟩ := hsp
      exact ⟨σ', H', J'.ofTry ok, q⟩
    | ret u =>
      obtain ⟨v, σ', H', J', r, q⟩ := hsp
      exact ⟨v, σ', H', J'.ofTry ok, r, q⟩
end
end L2

/-! ### text Ru -/
namespace Lay
open PySem PySem.Spec PyProof.Rows L2
/-! ## defs under no guard (repr) -/
structure FnG (P : Program) (w : World) (K : PySem.W.Frag) (mg : Str → Option Value) (base : Heap) (k : Nat) (f : Addr) (fd : FuncData) (ps : List Str) (sp : Sp) : Prop where
  len : ∀ vs H Q E, sp vs H Q E → vs.length = ps.length
  run : ∀ (A : Around) (outer : List Env) (s : Shared) (H : Hp) (args : Args) (us : List Value) (vs : List V) (Q : VK) (E : XK), A.guards = some [] → Room k A → Env0 P w K mg base A outer s H → BindsTo s fd args (ps.zip us) → Vals vs us → sp vs H Q E →
    codeAny (model P w) A (.call (.ref f) args) (CR CX0 outer P w H s Q E) s
def CalG (P : Program) (w : World) (K : PySem.W.Frag) (mg : Str → Option Value) (base : Heap) (x : Str) (ps : List Str) (k : Nat) (sp : Sp) : Prop :=
  ∃ f fd, mg x = some (.ref f) ∧ PySem.W.keepIn K (.ref f) = true ∧ Binds K fd ps [] ∧ FnG P w K mg base k f fd ps sp
/-- a def that may raise -/
def CalX (P : Program) (w : World) (K : PySem.W.Frag) (mg : Str → Option Value) (base : Heap) (x : Str) (ps : List Str) (k : Nat) (sp : Sp) : Prop :=
  ∃ f fd, mg x = some (.ref f) ∧ PySem.W.keepIn K (.ref f) = true ∧ Binds K fd ps [] ∧ FnOk P w K mg base (L2.CX P w) k f fd ps sp
section
variable {P : Program} {w : World} {K : PySem.W.Frag} {mg : Str → Option Value} {base : Heap} {x : Str} {st : Stmt} {N ps : List Str} {k : Nat} {sp : Sp}
theorem FnG.mono {j k : Nat} {f : Addr} {fd : FuncData} (F : FnG P w K mg base j f fd ps sp) (h : j ≤ k) : FnG P w K mg base k f fd ps sp :=
  ⟨F.len, fun A outer s H args us vs Q E hg hr => F.run A outer s H args us vs Q E hg (hr.mono h)⟩
theorem calG_of (F : IsDef K mg x st) (S : FnScope N ps (defScope st)) (len : ∀ vs H Q E, sp vs H Q E → vs.length = ps.length)
    (hbind : ∀ (kV doc pm : Value) (an : Option Addr) (cdv ct : Value) (us : List Value), us.length = ps.length → bindArgs (PySem.W.fnOf x x (defArgs st) (defBody st) (defScope st) .none kV doc pm an cdv ct) ⟨us, []⟩ = pure (ps.zip us))
    (hbody : ∀ (f : Addr) (cdv : Value) (A : Around) (outer : List Env) (s : Shared) (H : Hp) (vs : List V) (Q : VK) (E : XK), A.guards = some [] → Room k (A.deeper (envOfC x (defScope st) s.heap.objs.size f cdv)) → PySem.W.codeIn K cdv x = true → sp vs H Q E →
      ∃ t, PSs (cxOf CX0 P w K mg base N x (defScope st) f cdv A outer s H E).nox (defBody st) t ∧ t { nx := fun _ H' => Q .non H', rt := Q } (start N vs) H) : CalG P w K mg base x ps (k + 1) sp := by
  obtain ⟨f, fd, hm, F⟩ := F
  refine ⟨f, fd, hm, F.kp, F.binds hbind, len, fun A outer s H args us vs Q E hg hr e0 hb r hsp => ?_⟩
  obtain ⟨oc, od, kV, doc, pm, an, cdv, ct, osl, rfl, lk, hcd⟩ := F.ex
  refine LamX.run_ofS lk hcd S hr e0 hb r (len _ _ _ _ hsp) fun hr' => ?_
  obtain ⟨t, h, q⟩ := hbody f cdv A outer s H vs Q E hg hr' hcd hsp
  exact ⟨t, h.nox, q⟩
theorem pe_defG {X : Cx} {e : Expr} {es : List Expr} {p pos : Pos} {t : TA} (hgd : X.A.guards = some []) (C : CalG X.prog X.w X.K X.mg X.base x ps k sp) (hr : Room k X.A) (ha : PA X (e :: es) t) (hg : Gl X x := by rfl)
    (hdb : (x == ("__debug__" : Str)) = false := by decide) (he : starEach (e :: es) X.env = (false, eval e X.env) :: starEach es X.env := by rfl) (hpl : (backTo pos (starEach es X.env)).any (·.1) = false := by rfl) :
    PE X (.Call (.Name x p) (e :: es) [] pos) (tCall sp [] E0 t) := by
  obtain ⟨f, fd, hm, hk, hb, F⟩ := C
  refine ⟨fun pins s σ H Q I h => ?_⟩
  refine wpAny_Call_Name_kw (ld_glob I hg hm ?_ hdb)
  refine PySem.W.callWith_K (h₀ := X.base) I.ok.mod.kin hk (thn (ha.run pos pins s σ H _ I h) fun us s1 ⟨vs, H1, I1, r, q⟩ => ⟨I1.kIn, ?_⟩) he hpl
  have r2 : Vals (vs ++ []) us := by rw [List.append_nil]; exact r
  have hl : (us ++ []).length = ps.length := by rw [List.append_nil, ← r2.length]; exact F.len _ _ _ _ q
  refine wpAny_call (codeAny_mono (F.run X.A X.stack s1 H1 ⟨us, []⟩ us (vs ++ []) Q E0 hgd hr I1.env0 (by have b := hb s1 us I1.kIn hl; rw [List.append_nil] at b; exact b) r2 q) fun r s' hq => ?_)
  cases r with
  | error e => exact hq.elim
  | ok fl =>
    cases fl with
    | ret u => exact I1.after hq
    | next => exact False.elim hq
    | brk => exact False.elim hq
    | cont => exact False.elim hq
/-! ## defs that raise -/
theorem calX_of (F : IsDef K mg x st) (S : FnScope N ps (defScope st)) (len : ∀ vs H Q E, sp vs H Q E → vs.length = ps.length)
    (hbind : ∀ (kV doc pm : Value) (an : Option Addr) (cdv ct : Value) (us : List Value), us.length = ps.length → bindArgs (PySem.W.fnOf x x (defArgs st) (defBody st) (defScope st) .none kV doc pm an cdv ct) ⟨us, []⟩ = pure (ps.zip us))
    (hbody : ∀ (f : Addr) (cdv : Value) (A : Around) (outer : List Env) (s : Shared) (H : Hp) (vs : List V) (Q : VK) (E : XK), Room k (A.deeper (envOfC x (defScope st) s.heap.objs.size f cdv)) → sp vs H Q E →
      ∃ t, PSs (cxOf (L2.CX P w) P w K mg base N x (defScope st) f cdv A outer s H E) (defBody st) t ∧ t { nx := fun _ H' => Q .non H', rt := Q } (start N vs) H) : CalX P w K mg base x ps (k + 1) sp := by
  obtain ⟨f, fd, hm, F⟩ := F
  refine ⟨f, fd, hm, F.kp, F.binds hbind, ?_⟩
  obtain ⟨oc, od, kV, doc, pm, an, cdv, ct, osl, rfl, lk, hcd⟩ := F.ex
  exact fn_of lk hcd S len fun A outer s H vs Q E hr h => hbody f cdv A outer s H vs Q E hr h
theorem CalX.mono {j : Nat} (C : CalX P w K mg base x ps k sp) (h : k ≤ j) : CalX P w K mg base x ps j sp := by
  obtain ⟨f, fd, hm, hk, hb, F⟩ := C
  exact ⟨f, fd, hm, hk, hb, F.mono h⟩
theorem takesE {qual : Str} {scope : Scope} {f : Addr} {cd : Value} {A : Around} {outer : List Env} {s : Shared} {H : Hp} {E : XK} :
    Takes (cxOf (L2.CX P w) P w K mg base N qual scope f cd A outer s H E) (fun cls d _ H => E cls d H) := takes_of rfl rfl rfl (E₁ := fun e' s'' => L2.CX P w outer H s E e' s'') rfl
theorem passE {qual : Str} {scope : Scope} {f : Addr} {cd : Value} {A : Around} {outer : List Env} {s : Shared} {H : Hp} {E : XK} :
    Passes (L2.CX P w) (cxOf (L2.CX P w) P w K mg base N qual scope f cd A outer s H E) E := passes_call takesE fun _ _ _ _ h => h
theorem pe_defX {X : Cx} {E : XK} {e : Expr} {es : List Expr} {p pos : Pos} {t : TA} (C : CalX X.prog X.w X.K X.mg X.base x ps k sp) (hx : Passes (L2.CX X.prog X.w) X E) (hr : Room k X.A) (ha : PA X (e :: es) t) (hg : Gl X x := by rfl)
    (hdb : (x == ("__debug__" : Str)) = false := by decide) (he : starEach (e :: es) X.env = (false, eval e X.env) :: starEach es X.env := by rfl) (hpl : (backTo pos (starEach es X.env)).any (·.1) = false := by rfl) :
    PE X (.Call (.Name x p) (e :: es) [] pos) (tCall sp [] E t) := by
  obtain ⟨f, fd, hm, hk, hb, F⟩ := C
  exact pe_call F hr hg hm hk hb .nil hx ha hdb he hpl
end
/-- X(), X an own exception class without own __init__ -/
theorem pmk_own0 {X : Cx} {C : Addr} {bmB : List Value} {B newId initId : String} {x : Str} {p pos : Pos} (F : ExcBaseFacts B newId initId bmB) (q : PySem.W.excIn X.K C bmB newId = true) (gC : X.mg x = some (.ref C))
    (kC : PySem.W.keepIn X.K (.ref C) = true) (r : Raises X (.ref C)) (hg : Gl X x) (hdb : (x == ("__debug__" : Str)) = false := by decide) : PMk X (.Call (.Name x p) [] [] pos) (fun _ H Q => Q (.ref C) none H) := by
  intro pins s σ H Q I h
  refine wpAny_Call_Name_kw (ld_glob I hg gC ?_ hdb)
  refine PySem.W.callWith_K0 I.kIn kC ?_
  show wpAny _ _ (call (.ref C) []) _ _ _
  obtain ⟨bm, N, nm, qn, bs, hdct, sn, sub, ab, col, dd, k0, k1, k2, k3, k5, mN, hC, hN, hni, T⟩ := exc_obj I.kIn q
  refine wpAny_call_exc_subT F T hC hN hni (fun h' e hm => ?_) (by show 0 ≤ sizeLine; exact Nat.zero_le _)
  exact mk_of I hm r h (I.hok.gone hm.new)
/-! ## o.m(k = v) -/
def tMethK (C : Addr) (m : Str) (n : Nat) (sp : Sp) (gV : List V → List V → List V) (E : XK) (ta : TE) (tk : TA) : TE := fun σ H Q => ta σ H fun x H1 => ∃ a dx fs, x = .ref a ∧ H1 a = some (.ins C dx fs) ∧ fs.lookup m = none ∧
  tk σ H1 fun zs H2 => zs.length = n ∧ sp (gV [.ref a] zs) H2 Q E
theorem pe_methK {X : Cx} {CX : CXT} {k : Nat} {f C : Addr} {fd : FuncData} {ps ks : List Str} {sp : Sp} {E : XK} {m : Str} {pos apos : Pos} {o : Expr} {kws : List Keyword} {ta : TE} {tk : TA} {g : List Value → List Value → List Value} {gV : List V → List V → List V} {pl : Sem Bool}
    (he : PE X o ta) (c : Cls X.K C) (hm : Meth X.K C m f) (F : FnOk X.prog X.w X.K X.mg X.base CX k f fd ps sp) (hr : Room k X.A) (hb : KBn X.K fd ps 1 ks g gV) (hx : Passes CX X E) (hkw : PK X kws tk)
    (hall : (backToKw pos (keywordEach kws X.env)).all (·.1.isSome) = true := by rfl) (hks : (backToKw pos (keywordEach kws X.env)).filterMap (·.1) = ks := by rfl)
    (hpl : ((backTo pos (starEach [] X.env)).any (·.1) || (backToKw pos (keywordEach kws X.env)).any (·.1.isNone)) = false := by rfl)
    (ht : eval (.Call (.Attribute o m apos) [] kws pos) X.env = (do
      let ov ← eval o X.env
      standAt apos.atName
      let (f, first) ← holding [ov] (getMethod ov m pl)
      callWith pos f first (backTo pos (starEach [] X.env)) (backToKw pos (keywordEach kws X.env))) := by rfl) :
    PE X (.Call (.Attribute o m apos) [] kws pos) (tMethK C m ks.length sp gV E ta tk) := by
  refine ⟨fun pins s σ H Q I h => ?_⟩
  refine PySem.W.methodCall_KW (pl := pl) (thn (he.run pins s σ H _ I h) fun u s1 ⟨x, H1, I1, rx, a, dx, fs, ex, ea, l, q⟩ => ?_) ht
  subst ex
  obtain rfl : u = Value.ref a := rx
  refine getmeth_ok I1 ea c hm l ?_
  refine PySem.W.callWith_KW0 (first := [.ref a]) (h₀ := X.base) I.ok.mod.kin hm.kp hall (thn (hkw.run pos pins s1 σ H1 _ I1 q) fun ws s2 ⟨zs, H2, I2, rz, l2, q2⟩ => ⟨I2.kIn, ?_⟩) hpl
  rw [hks]
  exact run_fnN (us := [.ref a]) (vs := [.ref a]) (ws := ws) (zs := zs) F hr hb hx I2 (.cons rfl .nil) rz rfl l2 q2
/-! ## repr of data -/
theorem Dp.noDict {K : PySem.W.Frag} {H : Hp} : ∀ (d : PyData) (v : V), Dp K H v d → d.hasDict = false
  | .none, _, h => by simp [PyData.hasDict]
  | .bool _, _, h => by simp [PyData.hasDict]
  | .int _, _, h => by simp [PyData.hasDict]
  | .str _, _, h => by simp [PyData.hasDict]
  | .tuple ds, _, h => by
    cases h with
    | tup q r =>
      simp only [PyData.hasDict]
      exact go ds _ r
  | .list ds, _, h => by
    cases h with
    | lst q r =>
      simp only [PyData.hasDict]
      exact go ds _ r
  | .dict _, _, h => by cases h
where go : ∀ (ds : List PyData) {K : PySem.W.Frag} {H : Hp} (vs : List V), DpAll K H vs ds → PyData.hasDictAll ds = false
  | [], _, _, _, _ => by simp [PyData.hasDictAll]
  | d :: ds, _, _, _, h => by
    cases h with
    | cons q r => simp [PyData.hasDictAll, noDict d _ q, go ds _ r]
theorem call_reprD {X : Cx} (hg : X.A.guards = some []) : CallR X (.builtin "repr") (fun xs H Q => ∃ v d, xs = [v] ∧ Dp X.K H v d ∧ d.showable = true ∧ d.shown.length ≤ sizeLine ∧ X.A.units + (d.depth + 1) < cLine ∧ Q (.str d.shown) H) := by
  intro pins s σ H xs us Q I r h
  obtain ⟨v, d, rfl, hd, hs, hz, hu, q⟩ := h
  obtain ⟨u, rfl, rv⟩ := vals1 r
  have nd := Dp.noDict d v hd
  obtain ⟨as, rd⟩ := L2.Dp.reads I d v u hd rv
  have fin : ∀ (h' : Heap) (tk : Tok) (t' : Nat), (∀ b o, s.heap.get? b = some o → h'.get? b = some o) → EP X pins σ Q (.str d.shown tk) { s with heap := h', toks := t' } := fun h' tk t' k => ⟨.str _, H, I.kept k, ⟨_, rfl⟩, q⟩
  cases hd with
  | non =>
    cases rd
    exact PySem.P.repr_of_none (fin _ _ _ fun _ _ e => e)
  | bl b =>
    cases rd
    refine PySem.P.repr_of_bool ?_
    have z := fin s.heap s.toks (s.toks + 1) fun _ _ e => e
    simp only [PyData.shown] at z
    cases b <;> exact z
  | int i =>
    cases rd
    simp only [PyData.showable, decide_eq_true_eq] at hs
    exact PySem.P.repr_of_int hs (fin _ _ _ fun _ _ e => e)
  | str x =>
    cases rd
    exact PySem.P.repr_of_str (fin _ _ _ fun _ _ e => e) (by simpa only [PyData.shown] using hz)
  | tup q1 q2 =>
    obtain ⟨t, rfl⟩ : ∃ a, u = Value.ref a := ⟨_, rv⟩
    exact repr_of_reads' rd hs (fun e => by rw [nd] at e; cases e) hg hu (fun _ _ e => e) (fun h' u tk hk => fin h' u tk hk) hz
  | lst q1 q2 =>
    obtain ⟨t, rfl⟩ : ∃ a, u = Value.ref a := ⟨_, rv⟩
    exact repr_of_reads' rd hs (fun e => by rw [nd] at e; cases e) hg hu (fun _ _ e => e) (fun h' u tk hk => fin h' u tk hk) hz
end Lay

/-! ### text EnT -/
/-! enumerate of a tuple -/
namespace PySem
open Sem (wp)
open AutoSeq1 (wpAny_loadPart')
section
variable {prog : Program} {w : World} {A : Around} {E : Value → Shared → Prop} {s : Shared}
theorem tupEnum_step {e it l : Addr} {i : Nat} {items : Array Value} {x old : Value} {Q : Value → Shared → Prop}
    (he : IsEnum s.heap e it i old) (hit : s.heap.IsTupleIter it l i) (hl : s.heap.IsTuple l items) (hx : items[i]? = some x) (hne : e ≠ it)
    (hQ : ∀ h', IsEnumOut h' e it ((i : Int) + 1) x s.heap.objs.size → h'.IsTupleIter it l (i + 1) →
      h'.get? s.heap.objs.size = some { cls := .type "tuple", data := .seq #[.int i s.toks, x] } → h'.objs.size = s.heap.objs.size + 1 →
      (∀ b o, b ≠ e → b ≠ it → s.heap.get? b = some o → h'.get? b = some o) → Q (.ref s.heap.objs.size) { s with heap := h', toks := s.toks + 1 }) :
    wpAny (model prog w) A (Builtin.«enumerate.__next__» ⟨[.ref e], []⟩) (fun fin s' => ∃ v, fin = .done (.ret v) ∧ Q v s') E s := by
  obtain ⟨hp, g, d, tk, os⟩ := s
  show wpAny _ _ (field (.ref e) 2 >>= _) _ _ _
  refine wpAny_bind (wpAny_field he rfl (x := .ref it) rfl ?_)
  refine wpAny_bind (RZ.nextOf_tuple_item hit hl hx fun h₁ hit₁ hs₁ => ?_)
  replace hs₁ : Heap.SameBut it hp h₁ := hs₁
  have he₁ : IsEnum h₁ e it i old := (hs₁.2 e hne).trans he
  show wpAny _ _ (field (.ref e) 3 >>= _) _ _ ⟨h₁, g, d, tk, os⟩
  refine wpAny_bind (wpAny_field he₁ rfl (x := rawInt i) rfl ?_)
  show wpAny _ _ (field (.ref e) 4 >>= _) _ _ ⟨h₁, g, d, tk, os⟩
  refine wpAny_bind (wpAny_field he₁ rfl (x := .none) rfl ?_)
  show wpAny _ _ (mkInt i >>= _) _ _ ⟨h₁, g, d, tk, os⟩
  refine wpAny_bind (wpAny_mkInt ?_)
  show wpAny _ _ (setField (.ref e) 3 (rawInt ((i : Int) + 1)) >>= _) _ _ ⟨h₁, g, d, tk + 1, os⟩
  refine wpAny_bind (wpAny_setField_rec he₁ (by simp) fun h₂ he₂ hs₂ => ?_)
  replace hs₂ : Heap.SameBut e h₁ h₂ := hs₂
  replace he₂ : IsEnum h₂ e it ((i : Int) + 1) old := he₂
  show wpAny _ _ (setField (.ref e) 4 .none >>= _) _ _ ⟨h₂, g, d, tk + 1, os⟩
  refine wpAny_bind (wpAny_setField_rec he₂ (by simp) fun h₃ he₃ hs₃ => ?_)
  replace hs₃ : Heap.SameBut e h₂ h₃ := hs₃
  replace he₃ : IsEnum h₃ e it ((i : Int) + 1) old := he₃
  show wpAny _ _ (newTuple [.int i tk, x] >>= _) _ _ ⟨h₃, g, d, tk + 1, os⟩
  refine wpAny_bind (wpAny_newTuple ?_)
  have he₄ : IsEnum (h₃.push { cls := .type "tuple", data := .seq #[.int i tk, x] }) e it ((i : Int) + 1) old := Heap.get?_push_of_some _ he₃
  generalize hh₄ : h₃.push { cls := .type "tuple", data := .seq #[.int i tk, x] } = h₄ at he₄
  have hsz : h₃.objs.size = hp.objs.size := by rw [hs₃.1, hs₂.1, hs₁.1]
  have hel : e < hp.objs.size := Heap.lt_size he
  have ht₄ : h₄.get? hp.objs.size = some { cls := .type "tuple", data := .seq #[.int i tk, x] } := by rw [← hh₄, ← hsz]; exact Heap.get?_push_size _ rfl
  have hz₄ : h₄.objs.size = hp.objs.size + 1 := by rw [← hh₄, Heap.size_push, hsz]
  have hk₄ : ∀ b o, b ≠ e → b ≠ it → hp.get? b = some o → h₄.get? b = some o := fun b o hbe hbi hb => by
    rw [← hh₄]; exact Heap.get?_push_of_some _ (hs₃.extBut b o hbe (hs₂.extBut b o hbe (hs₁.extBut b o hbi hb)))
  have hit₄ : h₄.IsTupleIter it l (i + 1) := by
    rw [← hh₄]; obtain ⟨o, ho, r⟩ := (hit₁.extBut hs₂.extBut (Ne.symm hne)).extBut hs₃.extBut (Ne.symm hne); exact ⟨o, Heap.get?_push_of_some _ ho, r⟩
  show wpAny _ _ (Builtin.SmallTypes.ownedTupleIsFree (.ref e) >>= _) _ _ ⟨h₄, g, d, tk + 1, os⟩
  rw [hsz]
  clear hh₄ he₃ hs₃ he₂ hs₂ he₁ hs₁ hit₁ hsz h₃ h₂ h₁
  refine wpAny_bind ?_
  · unfold Builtin.SmallTypes.ownedTupleIsFree
    refine wpAny_bind (wpAny_field he₄ rfl (x := .none) rfl (wpAny_pure ?_))
    simp only [if_true]
    refine wpAny_bind (wpAny_rule ?_)
    refine wpAny_bind (wpAny_field he₄ rfl (x := old) rfl ?_)
    refine wpAny_bind (wpAny_setField_rec he₄ (by simp) fun h₅ he₅ hs₅ => ?_)
    replace hs₅ : Heap.SameBut e h₄ h₅ := hs₅
    replace he₅ : IsEnum h₅ e it ((i : Int) + 1) x := he₅
    show wpAny _ _ (Builtin.SmallTypes.ownedTupleHandOut (.ref e) (.ref hp.objs.size) >>= _) _ _ ⟨h₅, g, d, tk + 1, os⟩
    refine wpAny_bind ?_
    · unfold Builtin.SmallTypes.ownedTupleHandOut
      refine wpAny_bind (wpAny_setField_rec he₅ (by simp) fun h₆ he₆ hs₆ => ?_)
      replace hs₆ : Heap.SameBut e h₅ h₆ := hs₆
      replace he₆ : IsEnumOut h₆ e it ((i : Int) + 1) x hp.objs.size := he₆
      refine wpAny_setField_rec he₆ (by simp) fun h₇ he₇ hs₇ => ?_
      replace hs₇ : Heap.SameBut e h₆ h₇ := hs₇
      replace he₇ : IsEnumOut h₇ e it ((i : Int) + 1) x hp.objs.size := he₇
      refine wpAny_bind (wpAny_letGo (wpAny_pure ⟨_, rfl, hQ h₇ he₇ ?_ ?_ ?_ ?_⟩))
      · exact ((hit₄.extBut hs₅.extBut (Ne.symm hne)).extBut hs₆.extBut (Ne.symm hne)).extBut hs₇.extBut (Ne.symm hne)
      · exact hs₇.extBut _ _ (Nat.ne_of_gt hel) (hs₆.extBut _ _ (Nat.ne_of_gt hel) (hs₅.extBut _ _ (Nat.ne_of_gt hel) ht₄))
      · rw [hs₇.1, hs₆.1, hs₅.1, hz₄]
      · exact fun b o hbe hbi hb => hs₇.extBut b o hbe (hs₆.extBut b o hbe (hs₅.extBut b o hbe (hk₄ b o hbe hbi hb)))

theorem tupEnum_item {e it l : Addr} {i : Nat} {items : Array Value} {x old : Value} {Q : Option Value → Shared → Prop}
    (he : IsEnum s.heap e it i old) (hit : s.heap.IsTupleIter it l i) (hl : s.heap.IsTuple l items) (hx : items[i]? = some x) (hne : e ≠ it)
    (hQ : ∀ h', IsEnumOut h' e it ((i : Int) + 1) x s.heap.objs.size → h'.IsTupleIter it l (i + 1) →
      h'.get? s.heap.objs.size = some { cls := .type "tuple", data := .seq #[.int i s.toks, x] } → h'.objs.size = s.heap.objs.size + 1 →
      (∀ b o, b ≠ e → b ≠ it → s.heap.get? b = some o → h'.get? b = some o) → Q (some (.ref s.heap.objs.size)) { s with heap := h', toks := s.toks + 1 }) :
    wpAny (model prog w) A (pyNext (.ref e)) Q E s := by
  have hT : s.TypeIs (.ref e) "enumerate" := ⟨_, he, rfl⟩
  unfold pyNext
  exact wpAny_bind (wpAny_attempt (wpAny_callSpecial?_slot (name := Str.ofString "__next__") hT F.slot_enumerate_next
    (wpAny_call_entry F.slot_enumerate_next hT F.entry_enumerate_next
      (tupEnum_step he hit hl hx hne fun h' a b c d k => wpAny_pure (hQ h' a b c d k)) (F.args_enumerate_next_1 _))))

theorem tupEnum_stop {e it l : Addr} {i : Nat} {items : Array Value} {old : Value} {Q : Option Value → Shared → Prop} (hh : A.handled = none)
    (he : IsEnum s.heap e it i old) (hit : s.heap.IsTupleIter it l i) (hl : s.heap.IsTuple l items) (hx : items[i]? = none)
    (hQ : ∀ h', Heap.ExtBut it s.heap h' → Q none { s with heap := h' }) : wpAny (model prog w) A (pyNext (.ref e)) Q E s := by
  have hT : s.TypeIs (.ref e) "enumerate" := ⟨_, he, rfl⟩
  unfold pyNext
  refine wpAny_bind (wpAny_attempt (wpAny_callSpecial?_slot (name := Str.ofString "__next__") hT F.slot_enumerate_next
    (wpAny_call_entry F.slot_enumerate_next hT F.entry_enumerate_next ?_ (F.args_enumerate_next_1 _))))
  show wpAny _ _ (field (.ref e) 2 >>= _) _ _ _
  refine wpAny_bind (wpAny_field he rfl (x := .ref it) rfl ?_)
  refine wpAny_bind (RZ.nextOf_tuple_end hh hit hl hx fun h' x he' hx' => ?_)
  obtain ⟨o, ho, hc⟩ := hx'
  refine wpAny_bind (wpAny_isInstance (T := "StopIteration") (b := true) ⟨o, ho, hc⟩ isSubtype_stop ?_)
  exact wpAny_pure (hQ _ he')
theorem meets_tupEnum (l : Addr) (items : Array Value) (n : Nat) (dct : Option Addr) (sl : Array (Option Value)) :
    Meets (Builtin.«enumerate.__new__» ⟨[.type "enumerate", .ref l], []⟩) (fun _ R s => s.heap.get? l = some { cls := .type "tuple", dict := dct, data := .seq items n, slots := sl } ∧
      R (.ok (.ret (.ref (s.heap.push { cls := .type "tuple_iterator", data := .fields #[.ref l, .int 0 0] }).objs.size)))
        { s with heap := (s.heap.push { cls := .type "tuple_iterator", data := .fields #[.ref l, .int 0 0] }).push { cls := .type "enumerate", data := .fields #[.none, .bool false, .ref s.heap.objs.size, rawInt 0, .none, .none] } }) :=
  .of_wp fun prog w A R s h => by
    obtain ⟨hp, g, d, tk, os⟩ := s; obtain ⟨hl, h⟩ := h
    have hsub := sub_enumerate
    have hL : Heap.IsTuple (Shared.heap ⟨hp, g, d, tk, os⟩) l items := ⟨_, hl, rfl, n, rfl⟩
    wp_walk using wpAny_loadPart' hl
    refine wpAny_stack_any fun st => wpAny_pure ?_
    split
    · rename_i c _ _ _ _ _
      cases (c == Value.type "enumerate")
      · wp_walk using wpAny_loadPart' hl, wpAny_pyIter_tuple hL
        exact ⟨_, rfl, h⟩
      · wp_walk using wpAny_loadPart' hl, wpAny_pyIter_tuple hL
        exact ⟨_, rfl, h⟩
    · wp_walk using wpAny_loadPart' hl, wpAny_pyIter_tuple hL
      exact ⟨_, rfl, h⟩

theorem call_tupEnum {l : Addr} {items : Array Value} {Q : Value → Shared → Prop} (hL : s.heap.IsTuple l items)
    (h : ∀ h', IsEnum h' (s.heap.objs.size + 1) s.heap.objs.size 0 .none → h'.IsTupleIter s.heap.objs.size l 0 → h'.objs.size = s.heap.objs.size + 2 →
      (∀ b o, s.heap.get? b = some o → h'.get? b = some o) → Q (.ref (s.heap.objs.size + 1)) { s with heap := h' }) :
    wpAny (model prog w) A (call (.type "enumerate") [.ref l]) Q E s := by
  obtain ⟨⟨c, dct, dt, sl⟩, hl, hc, n, hd⟩ := hL
  replace hc : c = .type "tuple" := hc
  replace hd : dt = .seq items n := hd
  subst hc hd
  refine callType_new F.called_enumerate (by decide) (F.typeCall_enumerate_1 _) (F.newCall_enumerate_1 _) (fun obj => F.args_object_init_2 obj _) F.entry_enumerate_new
    (meets_tupEnum l items n dct sl) ⟨hl, ?_⟩
  have hz : (s.heap.push { cls := .type "tuple_iterator", data := .fields #[.ref l, .int 0 0] }).objs.size = s.heap.objs.size + 1 := Heap.size_push ..
  show _ ∧ _
  rw [hz]
  have he : IsEnum ((s.heap.push { cls := .type "tuple_iterator", data := .fields #[.ref l, .int 0 0] }).push
      { cls := .type "enumerate", data := .fields #[.none, .bool false, .ref s.heap.objs.size, rawInt 0, .none, .none] }) (s.heap.objs.size + 1) s.heap.objs.size 0 .none := by
    have := Heap.get?_push_size (s.heap.push { cls := .type "tuple_iterator", data := .fields #[.ref l, .int 0 0] })
      (o := { cls := .type "enumerate", data := .fields #[.none, .bool false, .ref s.heap.objs.size, rawInt 0, .none, .none] }) rfl
    rw [hz] at this; exact this
  refine ⟨⟨_, he, rfl⟩, h _ he ⟨_, Heap.get?_push_of_some _ (Heap.get?_push_size _ rfl), rfl, rfl⟩ (by rw [Heap.size_push, hz]) fun b o x => Heap.get?_push_of_some _ (Heap.get?_push_of_some _ x)⟩

end
end PySem
namespace L2
open PySem PySem.Spec PyProof.Rows

def IteT (K : PySem.W.Frag) (a : Addr) : It :=
  ⟨fun i H => ∃ (xs : List V) (x : V), SqT K H a xs ∧ xs[i]? = some x, fun i H v H' => ∃ T x, v = .ref T ∧ H T = none ∧ H' = upd H T (.tup [.int (i : Nat), x]) ∧ ∀ xs, SqT K H a xs → xs[i]? = some x, fun i H => ∃ xs : List V, SqT K H a xs ∧ xs.length ≤ i⟩
theorem turn_enumT {P : Program} {w : World} {K : PySem.W.Frag} {elts : List Expr} {kk : Nat} {tpos : Pos} (a e it : Addr) :
    Turn P w K (.Tuple elts kk tpos) (IteT K a) [e, it] e (fun i h => (∃ old, IsEnum h e it ((i : Nat) : Int) old) ∧ h.IsTupleIter it a i ∧ e ≠ it) where
  mem := by simp
  obj := fun i h st b hb => by
    obtain ⟨⟨old, he⟩, ⟨o, ho, hc, hd⟩, _⟩ := st
    have e' : b = e ∨ b = it := by simpa using hb
    rcases e' with z | z
    · rw [z]; exact ⟨_, he, fun v q => nomatch q⟩
    · rw [z]; exact ⟨o, ho, fun v q => by rw [hd] at q; cases q⟩
  keep := fun i h h' st k => let ⟨⟨old, he⟩, hi, hne⟩ := st; ⟨⟨old, k e (by simp) _ he⟩, hi.at fun o q => k it (by simp) o q, hne⟩
  item := by
    intro X hP hw hK hc i pins s σ H E I hf st hg
    subst hP hw hK
    obtain ⟨⟨old, he⟩, hit, hne⟩ := st
    obtain ⟨xs, x, hq, hx⟩ := hg
    obtain ⟨its, rv, p, hz⟩ := I.tuple hq
    obtain ⟨u, hu, ru⟩ := rv.get hx
    have hel : e < s.heap.objs.size := Heap.lt_size he
    have hil : it < s.heap.objs.size := by obtain ⟨_, q, _⟩ := hit; exact Heap.lt_size q
    refine PySem.tupEnum_item he hit p (x := u) (by simpa using hu) hne fun h' ho hit' hT hsz hk => ?_
    refine ⟨_, rfl, wpAny_letOwnedTupleGo_enum (s := { s with heap := h', toks := s.toks + 1 }) ho fun h'' he' sb => ?_⟩
    have hT2 : h''.get? s.heap.objs.size = some { cls := .type "tuple", data := .seq #[.int i s.toks, u] } := (sb.2 _ (Nat.ne_of_gt hel)).trans hT
    have new : ObjOk X.prog X.w (upd H s.heap.objs.size (.tup [.int (i : Nat), x])) h'' s.heap.objs.size (.tup [.int (i : Nat), x]) :=
      ⟨by show 2 ≤ sizeLine; decide, [.int i s.toks, u], .cons ⟨_, rfl⟩ (.cons ru .nil), ⟨_, hT2, rfl, _, rfl⟩⟩
    have I1 : Inv X pins σ (upd H s.heap.objs.size (.tup [.int (i : Nat), x])) { s with heap := h'', toks := s.toks + 1 } :=
      I.turnedNew (ch := [e, it]) (fun b ob hb q => (sb.2 b (fun z => hb (by simp [z]))).trans (hk b ob (fun z => hb (by simp [z])) (fun z => hb (by simp [z])) q)) hf (Nat.le_refl _) new
    refine ⟨.ref s.heap.objs.size, _, I1, rfl, ⟨_, x, rfl, I.hok.fresh (Nat.le_refl _), rfl, fun ys hy => by rw [I.tuple_inj hy hq]; exact hx⟩, ⟨⟨u, ?_⟩, hit'.at fun o q => (sb.2 it (Ne.symm hne)).trans q, hne⟩, fun b hb => ?_⟩
    · have e1 : ((i + 1 : Nat) : Int) = (i : Int) + 1 := by omega
      rw [e1]; exact he'
    · have hb' : b < s.heap.objs.size := by
        have e' : b = e ∨ b = it := by simpa using hb
        rcases e' with z | z
        · rw [z]; exact hel
        · rw [z]; exact hil
      rw [upd_ne (Nat.ne_of_lt hb')]
      exact (hf b hb).1
  done := by
    intro X hP hw hK hc i pins s σ H E I hf st hg
    subst hP hw hK
    obtain ⟨⟨old, he⟩, hit, hne⟩ := st
    obtain ⟨xs, hq, hx⟩ := hg
    obtain ⟨its, rv, p, hz⟩ := I.tuple hq
    obtain ⟨f0, f1, f2, f3, f4, f5⟩ := hf it (by simp)
    have hl := rv.length
    exact PySem.tupEnum_stop (I.ok.hd hc) he hit p (by simp; omega) fun h' eb => ⟨rfl, I.turned (t' := s.toks) (fun b o hb q => eb b o hb q) f0 f1 f3 f4 f5⟩
  self := fun A i s Q E st h => let ⟨⟨_, he⟩, _⟩ := st; wpAny_pyIter_enum he h
def iEnumT (K : PySem.W.Frag) (ta : TA) : TI := fun σ H R => ta σ H fun vs H1 => ∃ a xs, vs = [.ref a] ∧ SqT K H1 a xs ∧ R (IteT K a) H1
theorem pi_enumT {X : Cx} {e : Expr} {ta : TA} {p pos tpos : Pos} {elts : List Expr} {kk : Nat} (hg : Gl X "enumerate") (hm : X.mg "enumerate" = none) (ha : PA X [e] ta) (hs : starEach [e] X.env = [(false, eval e X.env)] := by rfl) :
    PI X (.Tuple elts kk tpos) (.Call (.Name "enumerate" p) [e] [] pos) (iEnumT X.K ta) := by
  refine ⟨fun pins s σ H R I h => ?_⟩
  refine Call_ (ld_blt I hg hm boot_enumerate (PyProof.Rows.callWith_type1 (thn (ha.run pos pins s σ H _ I h) fun us s1 ⟨vs, H1, I1, r1, q1⟩ => ?_) hs rfl))
  obtain ⟨a, xs, ex, hq, q⟩ := q1
  subst ex
  cases r1 with
  | cons r rr =>
    cases rr
    cases r
    obtain ⟨its, rv, p', hz⟩ := I1.tuple hq
    refine PySem.call_tupEnum p' fun h' he hit hsz hk => wpAny_pyIter_enum he ?_
    have I2 : Inv X pins σ H1 { s1 with heap := h' } := I1.kept (t' := s1.toks) hk
    refine ⟨s1.heap.objs.size + 1, [s1.heap.objs.size + 1, s1.heap.objs.size], _, _, H1, rfl, I2, turn_enumT a (s1.heap.objs.size + 1) s1.heap.objs.size, ⟨⟨.none, he⟩, hit, Nat.succ_ne_self _⟩, fun b hb => ?_, q⟩
    have e' : b = s1.heap.objs.size + 1 ∨ b = s1.heap.objs.size := by simpa using hb
    have hle : s1.heap.objs.size ≤ b := by
      rcases e' with z | z
      · rw [z]; exact Nat.le_add_right _ _
      · rw [z]; exact Nat.le_refl _
    exact I1.fpOk hle (I1.hok.fresh hle)

end L2

/-! ### text ZpM -/
/-! zip of a list and a tuple -/
namespace PySem
open Sem (wp)
section
variable {prog : Program} {w : World} {A : Around} {E : Value → Shared → Prop} {s : Shared}
theorem zipM_next_item {z TI TO i1 i2 l1 l2 : Addr} {k1 k2 : Nat} {xs ys : Array Value} {x y a b : Value} {Q : Value → Shared → Prop} (D : ZipApart z TI TO i1 i2 l1 l2)
    (hz : IsZip s.heap z TI TO .none) (hTI : IsPair s.heap TI (.ref i1) (.ref i2)) (hTO : IsPair s.heap TO a b)
    (h1 : s.heap.IsListIter i1 l1 k1) (h2 : s.heap.IsTupleIter i2 l2 k2) (hl1 : s.heap.IsList l1 xs) (hl2 : s.heap.IsTuple l2 ys) (hx : xs[k1]? = some x) (hy : ys[k2]? = some y)
    (hQ : ∀ h', IsZip h' z TI TO (rawInt s.heap.objs.size) → IsPair h' TO x y → h'.IsListIter i1 l1 (k1 + 1) → h'.IsTupleIter i2 l2 (k2 + 1) → IsPair h' s.heap.objs.size x y → h'.objs.size = s.heap.objs.size + 1 →
      (∀ c o, c ≠ z → c ≠ TO → c ≠ i1 → c ≠ i2 → s.heap.get? c = some o → h'.get? c = some o) → Q (.ref s.heap.objs.size) { s with heap := h' }) :
    wpAny (model prog w) A (Builtin.«zip.__next__» ⟨[.ref z], []⟩) (fun fin s' => ∃ v, fin = .done (.ret v) ∧ Q v s') E s := by
  show wpAny _ _ (field (.ref z) 2 >>= _) _ _ _
  refine wpAny_bind (wpAny_field hz rfl (x := .bool false) rfl ?_)
  show wpAny _ _ (field (.ref z) 3 >>= _) _ _ _
  refine wpAny_bind (wpAny_field hz rfl (x := .ref TI) rfl ?_)
  refine wpAny_bind (wpAny_seqItems hTI rfl ?_)
  show wpAny _ _ (Builtin.SmallTypes.ownedTupleIsFree (.ref z) >>= _) _ _ _
  refine wpAny_bind ?_
  unfold Builtin.SmallTypes.ownedTupleIsFree
  refine wpAny_bind (wpAny_field hz rfl (x := .none) rfl (wpAny_pure ?_))
  simp only [if_true]
  refine wpAny_bind (wpAny_rule ?_)
  refine wpAny_bind (wpAny_field hz rfl (x := .ref TO) rfl ?_)
  refine wpAny_bind (wpAny_setField_rec hz (by simp) fun h₁ hz₁ hs₁ => ?_)
  replace hz₁ : IsZip h₁ z TI TO .ellipsis := hz₁
  refine wpAny_bind ?_
  simp only [List.zipIdx_cons, List.zipIdx_nil, List.forIn_cons, List.forIn_nil]

  refine wpAny_bind (wpAny_bind (wpAny_onRaise ?_))
  show wpAny _ _ (Builtin.SmallTypes.nextOf (.ref i1) >>= _) _ _ _
  refine wpAny_bind (wpAny_nextOf_list_item (h1.extBut hs₁.extBut D.i1z) (hl1.extBut hs₁.extBut D.l1z) hx fun h₂ h1₂ hs₂ => wpAny_pure ?_)
  have hTO₂ : IsPair h₂ TO a b := hs₂.extBut _ _ D.TOi1 (hs₁.extBut _ _ D.TOz hTO)
  refine wpAny_bind (wpAny_seqItems hTO₂ rfl ?_)
  refine wpAny_bind (wpAny_updateSeq_pair hTO₂ fun h₃ hTO₃ hs₃ => ?_)
  replace hTO₃ : IsPair h₃ TO x b := hTO₃
  refine wpAny_bind (wpAny_letGo (wpAny_pure ?_))

  refine wpAny_bind (wpAny_bind (wpAny_onRaise ?_))
  show wpAny _ _ (Builtin.SmallTypes.nextOf (.ref i2) >>= _) _ _ _
  refine wpAny_bind (RZ.nextOf_tuple_item (((h2.extBut hs₁.extBut D.i2z).extBut hs₂.extBut D.i12.symm).extBut hs₃.extBut D.TOi2.symm)
    (((hl2.extBut hs₁.extBut D.l2z).extBut hs₂.extBut D.l2i1).extBut hs₃.extBut D.l2TO) hy fun h₄ h2₄ hs₄ => wpAny_pure ?_)
  have hTO₄ : IsPair h₄ TO x b := hs₄.extBut _ _ D.TOi2 hTO₃
  refine wpAny_bind (wpAny_seqItems hTO₄ rfl ?_)
  refine wpAny_bind (wpAny_updateSeq_pair hTO₄ fun h₅ hTO₅ hs₅ => ?_)
  replace hTO₅ : IsPair h₅ TO x y := hTO₅
  refine wpAny_bind (wpAny_letGo (wpAny_pure (wpAny_pure ?_)))

  refine wpAny_bind (wpAny_seqItems hTO₅ rfl ?_)
  refine wpAny_bind (wpAny_newTuple ?_)
  have hsz : h₅.objs.size = s.heap.objs.size := by rw [hs₅.1, hs₄.1, hs₃.1, hs₂.1, hs₁.1]
  have hz₅ : IsZip h₅ z TI TO .ellipsis := hs₅.extBut _ _ D.TOz.symm (hs₄.extBut _ _ D.i2z.symm (hs₃.extBut _ _ D.TOz.symm (hs₂.extBut _ _ D.i1z.symm hz₁)))
  have hk₅ : ∀ c o, c ≠ z → c ≠ TO → c ≠ i1 → c ≠ i2 → s.heap.get? c = some o → h₅.get? c = some o := fun c o c1 c2 c3 c4 e =>
    hs₅.extBut _ _ c2 (hs₄.extBut _ _ c4 (hs₃.extBut _ _ c2 (hs₂.extBut _ _ c3 (hs₁.extBut _ _ c1 e))))
  have h1₅ : h₅.IsListIter i1 l1 (k1 + 1) := ((h1₂.extBut hs₃.extBut D.TOi1.symm).extBut hs₄.extBut D.i12).extBut hs₅.extBut D.TOi1.symm
  have h2₅ : h₅.IsTupleIter i2 l2 (k2 + 1) := h2₄.extBut hs₅.extBut D.TOi2.symm
  have hzlt : z < h₅.objs.size := Heap.lt_size hz₅
  have hTOlt : TO < h₅.objs.size := Heap.lt_size hTO₅
  have hi1lt : i1 < h₅.objs.size := by obtain ⟨_, e, _⟩ := h1₅; exact Heap.lt_size e
  have hi2lt : i2 < h₅.objs.size := by obtain ⟨_, e, _⟩ := h2₅; exact Heap.lt_size e
  show wpAny _ _ (Builtin.SmallTypes.ownedTupleHandOut (.ref z) (.ref h₅.objs.size) >>= _) _ _ _
  refine wpAny_bind ?_
  unfold Builtin.SmallTypes.ownedTupleHandOut
  have hz₆ : IsZip (h₅.push { cls := .type "tuple", data := .seq #[x, y] }) z TI TO .ellipsis := Heap.get?_push_of_some _ hz₅
  refine wpAny_bind (wpAny_setField_rec hz₆ (by simp) fun h₇ hz₇ hs₇ => ?_)
  replace hz₇ : IsZip h₇ z TI TO (rawInt h₅.objs.size) := hz₇
  refine wpAny_setField_rec hz₇ (by simp) fun h₈ hz₈ hs₈ => ?_
  replace hz₈ : IsZip h₈ z TI TO (rawInt h₅.objs.size) := hz₈
  have up : ∀ c o, c ≠ z → h₅.get? c = some o → h₈.get? c = some o := fun c o c1 e => hs₈.extBut _ _ c1 (hs₇.extBut _ _ c1 (Heap.get?_push_of_some _ e))
  have hT₈ : IsPair h₈ h₅.objs.size x y := hs₈.extBut _ _ (Nat.ne_of_gt hzlt) (hs₇.extBut _ _ (Nat.ne_of_gt hzlt) (Heap.get?_push_size _ rfl))
  have hz8 : h₈.objs.size = h₅.objs.size + 1 := by rw [hs₈.1, hs₇.1, Heap.size_push]
  rw [hsz] at hz₈ hT₈ hz8
  refine wpAny_pure ⟨_, rfl, ?_⟩
  show Q (.ref h₅.objs.size) _
  rw [hsz]
  exact hQ h₈ hz₈ (up _ _ D.TOz hTO₅) (h1₅.at fun o e => up _ o D.i1z e) (h2₅.at fun o e => up _ o D.i2z e) hT₈ hz8 fun c o c1 c2 c3 c4 e => up c o c1 (hk₅ c o c1 c2 c3 c4 e)

theorem zipM_next_end {z TI TO i1 i2 l1 l2 : Addr} {k1 k2 : Nat} {xs ys : Array Value} {a b : Value} {Q : Fin → Shared → Prop} (hh : A.handled = none) (D : ZipApart z TI TO i1 i2 l1 l2)
    (hz : IsZip s.heap z TI TO .none) (hTI : IsPair s.heap TI (.ref i1) (.ref i2)) (hTO : IsPair s.heap TO a b)
    (h1 : s.heap.IsListIter i1 l1 k1) (h2 : s.heap.IsTupleIter i2 l2 k2) (hl1 : s.heap.IsList l1 xs) (hl2 : s.heap.IsTuple l2 ys) (hend : xs[k1]? = none ∨ ys[k2]? = none)
    (hE : ∀ h' e, (∀ c o, c ≠ z → c ≠ TO → c ≠ i1 → c ≠ i2 → s.heap.get? c = some o → h'.get? c = some o) → (∃ o, h'.get? e = some o ∧ o.cls = .type "StopIteration") → E (.ref e) { s with heap := h' }) :
    wpAny (model prog w) A (Builtin.«zip.__next__» ⟨[.ref z], []⟩) Q E s := by
  show wpAny _ _ (field (.ref z) 2 >>= _) _ _ _
  refine wpAny_bind (wpAny_field hz rfl (x := .bool false) rfl ?_)
  show wpAny _ _ (field (.ref z) 3 >>= _) _ _ _
  refine wpAny_bind (wpAny_field hz rfl (x := .ref TI) rfl ?_)
  refine wpAny_bind (wpAny_seqItems hTI rfl ?_)
  show wpAny _ _ (Builtin.SmallTypes.ownedTupleIsFree (.ref z) >>= _) _ _ _
  refine wpAny_bind ?_
  unfold Builtin.SmallTypes.ownedTupleIsFree
  refine wpAny_bind (wpAny_field hz rfl (x := .none) rfl (wpAny_pure ?_))
  simp only [if_true]
  refine wpAny_bind (wpAny_rule ?_)
  refine wpAny_bind (wpAny_field hz rfl (x := .ref TO) rfl ?_)
  refine wpAny_bind (wpAny_setField_rec hz (by simp) fun h₁ hz₁ hs₁ => ?_)
  replace hz₁ : IsZip h₁ z TI TO .ellipsis := hz₁
  refine wpAny_bind ?_
  simp only [List.zipIdx_cons, List.zipIdx_nil, List.forIn_cons, List.forIn_nil]
  refine wpAny_bind (wpAny_bind (wpAny_onRaise ?_))
  show wpAny _ _ (Builtin.SmallTypes.nextOf (.ref i1) >>= _) _ _ _
  cases hx : xs[k1]? with
  | none =>
    refine wpAny_bind (wpAny_nextOf_list_end hh (h1.extBut hs₁.extBut D.i1z) (hl1.extBut hs₁.extBut D.l1z) hx fun h₂ e hs₂ he => ?_)
    obtain ⟨oe, hoe, hce⟩ := he
    have hz₂ : IsZip h₂ z TI TO .ellipsis := hs₂ _ _ D.i1z.symm hz₁
    have hez : e ≠ z := fun x => by subst x; rw [hz₂] at hoe; cases hoe; simp at hce
    refine wpAny_setField_rec hz₂ (by simp) fun h₃ _ hs₃ => hE h₃ e (fun c o c1 _ c3 _ x => hs₃.extBut _ _ c1 (hs₂ _ _ c3 (hs₁.extBut _ _ c1 x))) ⟨oe, hs₃.extBut _ _ hez hoe, hce⟩
  | some x =>
    have hy : ys[k2]? = none := by rcases hend with h | h; rw [hx] at h; cases h; exact h
    refine wpAny_bind (wpAny_nextOf_list_item (h1.extBut hs₁.extBut D.i1z) (hl1.extBut hs₁.extBut D.l1z) hx fun h₂ h1₂ hs₂ => wpAny_pure ?_)
    have hTO₂ : IsPair h₂ TO a b := hs₂.extBut _ _ D.TOi1 (hs₁.extBut _ _ D.TOz hTO)
    refine wpAny_bind (wpAny_seqItems hTO₂ rfl ?_)
    refine wpAny_bind (wpAny_updateSeq_pair hTO₂ fun h₃ hTO₃ hs₃ => ?_)
    refine wpAny_bind (wpAny_letGo (wpAny_pure ?_))
    refine wpAny_bind (wpAny_bind (wpAny_onRaise ?_))
    show wpAny _ _ (Builtin.SmallTypes.nextOf (.ref i2) >>= _) _ _ _
    refine wpAny_bind (RZ.nextOf_tuple_end hh (((h2.extBut hs₁.extBut D.i2z).extBut hs₂.extBut D.i12.symm).extBut hs₃.extBut D.TOi2.symm)
      (((hl2.extBut hs₁.extBut D.l2z).extBut hs₂.extBut D.l2i1).extBut hs₃.extBut D.l2TO) hy fun h₄ e hs₄ he => ?_)
    obtain ⟨oe, hoe, hce⟩ := he
    have hz₄ : IsZip h₄ z TI TO .ellipsis := hs₄ _ _ D.i2z.symm (hs₃.extBut _ _ D.TOz.symm (hs₂.extBut _ _ D.i1z.symm hz₁))
    have hez : e ≠ z := fun x => by subst x; rw [hz₄] at hoe; cases hoe; simp at hce
    refine wpAny_setField_rec hz₄ (by simp) fun h₅ _ hs₅ => hE h₅ e (fun c o c1 c2 c3 c4 x => hs₅.extBut _ _ c1 (hs₄ _ _ c4 (hs₃.extBut _ _ c2 (hs₂.extBut _ _ c3 (hs₁.extBut _ _ c1 x))))) ⟨oe, hs₅.extBut _ _ hez hoe, hce⟩

theorem pyNext_zipM_item {z TI TO i1 i2 l1 l2 : Addr} {k1 k2 : Nat} {xs ys : Array Value} {x y a b : Value} {Q : Option Value → Shared → Prop} (D : ZipApart z TI TO i1 i2 l1 l2)
    (hz : IsZip s.heap z TI TO .none) (hTI : IsPair s.heap TI (.ref i1) (.ref i2)) (hTO : IsPair s.heap TO a b)
    (h1 : s.heap.IsListIter i1 l1 k1) (h2 : s.heap.IsTupleIter i2 l2 k2) (hl1 : s.heap.IsList l1 xs) (hl2 : s.heap.IsTuple l2 ys) (hx : xs[k1]? = some x) (hy : ys[k2]? = some y)
    (hQ : ∀ h', IsZip h' z TI TO (rawInt s.heap.objs.size) → IsPair h' TO x y → h'.IsListIter i1 l1 (k1 + 1) → h'.IsTupleIter i2 l2 (k2 + 1) → IsPair h' s.heap.objs.size x y → h'.objs.size = s.heap.objs.size + 1 →
      (∀ c o, c ≠ z → c ≠ TO → c ≠ i1 → c ≠ i2 → s.heap.get? c = some o → h'.get? c = some o) → Q (some (.ref s.heap.objs.size)) { s with heap := h' }) :
    wpAny (model prog w) A (pyNext (.ref z)) Q E s := by
  have hT : s.TypeIs (.ref z) "zip" := ⟨_, hz, rfl⟩
  unfold pyNext
  exact wpAny_bind (wpAny_attempt (wpAny_callSpecial?_slot (name := Str.ofString "__next__") hT F.slot_zip_next
    (wpAny_call_entry F.slot_zip_next hT F.entry_zip_next
      (zipM_next_item D hz hTI hTO h1 h2 hl1 hl2 hx hy fun h' a1 a2 a3 a4 a5 a6 a7 => wpAny_pure (hQ h' a1 a2 a3 a4 a5 a6 a7)) (F.args_zip_next_1 _))))

theorem pyNext_zipM_end {z TI TO i1 i2 l1 l2 : Addr} {k1 k2 : Nat} {xs ys : Array Value} {a b : Value} {Q : Option Value → Shared → Prop} (hh : A.handled = none) (D : ZipApart z TI TO i1 i2 l1 l2)
    (hz : IsZip s.heap z TI TO .none) (hTI : IsPair s.heap TI (.ref i1) (.ref i2)) (hTO : IsPair s.heap TO a b)
    (h1 : s.heap.IsListIter i1 l1 k1) (h2 : s.heap.IsTupleIter i2 l2 k2) (hl1 : s.heap.IsList l1 xs) (hl2 : s.heap.IsTuple l2 ys) (hend : xs[k1]? = none ∨ ys[k2]? = none)
    (hQ : ∀ h', (∀ c o, c ≠ z → c ≠ TO → c ≠ i1 → c ≠ i2 → s.heap.get? c = some o → h'.get? c = some o) → Q none { s with heap := h' }) : wpAny (model prog w) A (pyNext (.ref z)) Q E s := by
  have hT : s.TypeIs (.ref z) "zip" := ⟨_, hz, rfl⟩
  unfold pyNext
  refine wpAny_bind (wpAny_attempt (wpAny_callSpecial?_slot (name := Str.ofString "__next__") hT F.slot_zip_next
    (wpAny_call_entry F.slot_zip_next hT F.entry_zip_next (zipM_next_end hh D hz hTI hTO h1 h2 hl1 hl2 hend fun h' e hk he => ?_) (F.args_zip_next_1 _))))
  obtain ⟨o, ho, hc⟩ := he
  refine wpAny_bind (wpAny_isInstance (T := "StopIteration") (b := true) ⟨o, ho, hc⟩ isSubtype_stop ?_)
  exact wpAny_pure (hQ _ hk)
end
abbrev zipMH1 (h : Heap) (l1 : Addr) : Heap := h.push { cls := .type "list_iterator", data := .fields #[.ref l1, .int 0 0] }
abbrev zipMH2 (h : Heap) (l1 l2 : Addr) : Heap := (zipMH1 h l1).push { cls := .type "tuple_iterator", data := .fields #[.ref l2, .int 0 0] }
abbrev zipMH3 (h : Heap) (l1 l2 : Addr) : Heap := (zipMH2 h l1 l2).push { cls := .type "tuple", data := .seq #[.ref h.objs.size, .ref (zipMH1 h l1).objs.size] }
abbrev zipMH4 (h : Heap) (l1 l2 : Addr) : Heap := (zipMH3 h l1 l2).push { cls := .type "tuple", data := .seq #[.none, .none] }
abbrev zipMH5 (h : Heap) (l1 l2 : Addr) : Heap := (zipMH4 h l1 l2).push { cls := .type "zip", data := .fields #[.none, .bool false, .bool false, .ref (zipMH2 h l1 l2).objs.size, .ref (zipMH3 h l1 l2).objs.size] }

theorem meets_zipM_new (l1 l2 : Addr) (xs ys : Array Value) :
    Meets (Builtin.«zip.__new__» ⟨[.type "zip", .ref l1, .ref l2], []⟩) (fun _ R s => s.heap.IsList l1 xs ∧ s.heap.IsTuple l2 ys ∧
      R (.ok (.ret (.ref (zipMH4 s.heap l1 l2).objs.size))) { s with heap := zipMH5 s.heap l1 l2 }) :=
  .of_wp fun prog w A R s h => by
    obtain ⟨hp, g, d, tk, os⟩ := s; obtain ⟨hl1, hl2, h⟩ := h
    have hsub := sub_zip
    have hL1 : Heap.IsList (Shared.heap ⟨hp, g, d, tk, os⟩) l1 xs := hl1
    have hL2 : Heap.IsTuple (Shared.heap ⟨hp.push { cls := .type "list_iterator", data := .fields #[.ref l1, .int 0 0] }, g, d, tk, os⟩) l2 ys := Heap.IsTuple.push hl2 _
    wp_walk using wpAny_pyIter_list hL1, wpAny_pyIter_tuple hL2
    exact ⟨_, rfl, h⟩

section
variable {prog : Program} {w : World} {A : Around} {E : Value → Shared → Prop} {s : Shared}
theorem call_zipM {l1 l2 : Addr} {xs ys : Array Value} {Q : Value → Shared → Prop} (hl1 : s.heap.IsList l1 xs) (hl2 : s.heap.IsTuple l2 ys)
    (h : ∀ h', IsZip h' (s.heap.objs.size + 4) (s.heap.objs.size + 2) (s.heap.objs.size + 3) .none → IsPair h' (s.heap.objs.size + 2) (.ref s.heap.objs.size) (.ref (s.heap.objs.size + 1)) →
      IsPair h' (s.heap.objs.size + 3) .none .none → h'.IsListIter s.heap.objs.size l1 0 → h'.IsTupleIter (s.heap.objs.size + 1) l2 0 → h'.objs.size = s.heap.objs.size + 5 →
      (∀ c o, s.heap.get? c = some o → h'.get? c = some o) → Q (.ref (s.heap.objs.size + 4)) { s with heap := h' }) :
    wpAny (model prog w) A (call (.type "zip") [.ref l1, .ref l2]) Q E s := by
  refine callType_new F.called_zip (by decide) (F.typeCall_zip_2 _ _) (F.newCall_zip_2 _ _) (fun obj => F.args_object_init_3 obj _ _) F.entry_zip_new
    (meets_zipM_new l1 l2 xs ys) ⟨hl1, hl2, ?_⟩
  have z1 : (zipMH1 s.heap l1).objs.size = s.heap.objs.size + 1 := Heap.size_push ..
  have z2 : (zipMH2 s.heap l1 l2).objs.size = s.heap.objs.size + 2 := by rw [Heap.size_push, z1]
  have z3 : (zipMH3 s.heap l1 l2).objs.size = s.heap.objs.size + 3 := by rw [Heap.size_push, z2]
  have z4 : (zipMH4 s.heap l1 l2).objs.size = s.heap.objs.size + 4 := by rw [Heap.size_push, z3]
  have z5 : (zipMH5 s.heap l1 l2).objs.size = s.heap.objs.size + 5 := by rw [Heap.size_push, z4]
  have g5 : (zipMH5 s.heap l1 l2).get? (zipMH4 s.heap l1 l2).objs.size = some _ := Heap.get?_push_size _ rfl
  have g4 : (zipMH5 s.heap l1 l2).get? (zipMH3 s.heap l1 l2).objs.size = some _ := Heap.get?_push_of_some _ (Heap.get?_push_size _ rfl)
  have g3 : (zipMH5 s.heap l1 l2).get? (zipMH2 s.heap l1 l2).objs.size = some _ := Heap.get?_push_of_some _ (Heap.get?_push_of_some _ (Heap.get?_push_size _ rfl))
  have g2 : (zipMH5 s.heap l1 l2).get? (zipMH1 s.heap l1).objs.size = some _ := Heap.get?_push_of_some _ (Heap.get?_push_of_some _ (Heap.get?_push_of_some _ (Heap.get?_push_size _ rfl)))
  have g1 : (zipMH5 s.heap l1 l2).get? s.heap.objs.size = some _ := Heap.get?_push_of_some _ (Heap.get?_push_of_some _ (Heap.get?_push_of_some _ (Heap.get?_push_of_some _ (Heap.get?_push_size _ rfl))))
  show _ ∧ _
  rw [z2, z3, z4] at g5
  rw [z1, z2] at g3
  rw [z3] at g4
  rw [z1] at g2
  rw [z4]
  exact ⟨⟨_, g5, rfl⟩, h _ g5 g3 g4 ⟨_, g1, rfl, rfl⟩ ⟨_, g2, rfl, rfl⟩ z5 fun c o x =>
    Heap.get?_push_of_some _ (Heap.get?_push_of_some _ (Heap.get?_push_of_some _ (Heap.get?_push_of_some _ (Heap.get?_push_of_some _ x))))⟩
end
end PySem
namespace L2
open PySem PySem.Spec PyProof.Rows
def ItzM (K : PySem.W.Frag) (a b : Addr) : It :=
  ⟨fun i H => ∃ (xs ys : List V) (x y : V), SqL K H a xs ∧ SqT K H b ys ∧ xs[i]? = some x ∧ ys[i]? = some y,
    fun i H v H' => ∃ T x y, v = .ref T ∧ H T = none ∧ H' = upd H T (.tup [x, y]) ∧ (∀ xs, SqL K H a xs → xs[i]? = some x) ∧ ∀ ys, SqT K H b ys → ys[i]? = some y,
    fun i H => ∃ xs ys : List V, SqL K H a xs ∧ SqT K H b ys ∧ (xs.length ≤ i ∨ ys.length ≤ i)⟩
theorem turn_zipM {P : Program} {w : World} {K : PySem.W.Frag} {elts : List Expr} {kk : Nat} {tpos : Pos} {a b z TI TO i1 i2 : Addr} (D : ZipApart z TI TO i1 i2 a b) :
    Turn P w K (.Tuple elts kk tpos) (ItzM K a b) [z, TI, TO, i1, i2] z (fun i h => IsZip h z TI TO .none ∧ IsPair h TI (.ref i1) (.ref i2) ∧ (∃ x y, IsPair h TO x y) ∧ h.IsListIter i1 a i ∧ h.IsTupleIter i2 b i) where
  mem := by simp
  obj := fun i h st c hc => by
    obtain ⟨hz, hTI, ⟨x, y, hTO⟩, ⟨o1, e1, _, d1⟩, ⟨o2, e2, _, d2⟩⟩ := st
    have e' : c = z ∨ c = TI ∨ c = TO ∨ c = i1 ∨ c = i2 := by simpa using hc
    rcases e' with q | q | q | q | q
    · rw [q]; exact ⟨_, hz, fun v q => nomatch q⟩
    · rw [q]; exact ⟨_, hTI, fun v q => nomatch q⟩
    · rw [q]; exact ⟨_, hTO, fun v q => nomatch q⟩
    · rw [q]; exact ⟨o1, e1, fun v q => by rw [d1] at q; cases q⟩
    · rw [q]; exact ⟨o2, e2, fun v q => by rw [d2] at q; cases q⟩
  keep := fun i h h' st k => by
    obtain ⟨hz, hTI, ⟨x, y, hTO⟩, h1, h2⟩ := st
    exact ⟨k z (by simp) _ hz, k TI (by simp) _ hTI, ⟨x, y, k TO (by simp) _ hTO⟩, h1.at fun o q => k i1 (by simp) o q, h2.at fun o q => k i2 (by simp) o q⟩
  item := by
    intro X hP hw hK hc i pins s σ H E I hf st hg
    subst hP hw hK
    obtain ⟨hz, hTI, ⟨x0, y0, hTO⟩, h1, h2⟩ := st
    obtain ⟨xs, ys, x, y, hqx, hqy, hx, hy⟩ := hg
    obtain ⟨its, rv, p, _⟩ := I.list hqx
    obtain ⟨its2, rv2, p2, _⟩ := I.tuple hqy
    obtain ⟨u, hu, ru⟩ := rv.get hx
    obtain ⟨u2, hu2, ru2⟩ := rv2.get hy
    have hzl : z < s.heap.objs.size := Heap.lt_size hz
    refine PySem.pyNext_zipM_item D hz hTI hTO h1 h2 p.isList p2 (x := u) (y := u2) (by simpa using hu) (by simpa using hu2) fun h' z' TO' h1' h2' hT hsz hk => ?_
    refine ⟨_, rfl, wpAny_letOwnedTupleGo_zip (s := { s with heap := h' }) z' fun h'' z'' sb => ?_⟩
    have hT2 : h''.get? s.heap.objs.size = some { cls := .type "tuple", data := .seq #[u, u2] } := (sb.2 _ (Nat.ne_of_gt hzl)).trans hT
    have new : ObjOk X.prog X.w (upd H s.heap.objs.size (.tup [x, y])) h'' s.heap.objs.size (.tup [x, y]) :=
      ⟨by show 2 ≤ sizeLine; decide, [u, u2], .cons ru (.cons ru2 .nil), ⟨_, hT2, rfl, _, rfl⟩⟩
    have I1 : Inv X pins σ (upd H s.heap.objs.size (.tup [x, y])) { s with heap := h'' } :=
      I.turnedNew (t' := s.toks) (ch := [z, TI, TO, i1, i2]) (fun c o hb q => (sb.2 c (fun q' => hb (by simp [q']))).trans (hk c o (fun q' => hb (by simp [q'])) (fun q' => hb (by simp [q'])) (fun q' => hb (by simp [q'])) (fun q' => hb (by simp [q'])) q)) hf (Nat.le_refl _) new
    refine ⟨.ref s.heap.objs.size, _, I1, rfl, ⟨_, x, y, rfl, I.hok.fresh (Nat.le_refl _), rfl, fun l hl => by rw [I.list_inj hl hqx]; exact hx, fun l hl => by rw [I.tuple_inj hl hqy]; exact hy⟩, ⟨z'', ?_, ⟨u, u2, ?_⟩, ?_, ?_⟩, fun c hcm => ?_⟩
    · exact (sb.2 _ D.TIz).trans (hk _ _ D.TIz D.TITO D.TIi1 D.TIi2 hTI)
    · exact (sb.2 _ D.TOz).trans TO'
    · exact h1'.at fun o q => (sb.2 _ D.i1z).trans q
    · exact h2'.at fun o q => (sb.2 _ D.i2z).trans q
    · have hlt : c < s.heap.objs.size := by
        have e' : c = z ∨ c = TI ∨ c = TO ∨ c = i1 ∨ c = i2 := by simpa using hcm
        rcases e' with q | q | q | q | q
        · rw [q]; exact hzl
        · rw [q]; exact Heap.lt_size hTI
        · rw [q]; exact Heap.lt_size hTO
        · rw [q]; obtain ⟨_, e1, _⟩ := h1; exact Heap.lt_size e1
        · rw [q]; obtain ⟨_, e2, _⟩ := h2; exact Heap.lt_size e2
      rw [upd_ne (Nat.ne_of_lt hlt)]
      exact (hf c hcm).1
  done := by
    intro X hP hw hK hc i pins s σ H E I hf st hg
    subst hP hw hK
    obtain ⟨hz, hTI, ⟨x0, y0, hTO⟩, h1, h2⟩ := st
    obtain ⟨xs, ys, hqx, hqy, hend⟩ := hg
    obtain ⟨its, rv, p, _⟩ := I.list hqx
    obtain ⟨its2, rv2, p2, _⟩ := I.tuple hqy
    have l1 := rv.length
    have l2 := rv2.length
    have he : its.toArray[i]? = none ∨ its2.toArray[i]? = none := by
      rcases hend with q | q
      · exact .inl (by simp; omega)
      · exact .inr (by simp; omega)
    exact PySem.pyNext_zipM_end (I.ok.hd hc) D hz hTI hTO h1 h2 p.isList p2 he fun h' hk => ⟨rfl, I.turnedL (t' := s.toks) (ch := [z, TI, TO, i1, i2]) (fun c o hb q =>
      hk c o (fun q' => hb (by simp [q'])) (fun q' => hb (by simp [q'])) (fun q' => hb (by simp [q'])) (fun q' => hb (by simp [q'])) q) hf⟩
  self := fun A i s Q E st h => wpAny_pyIter_zip st.1 h


def iZipM (K : PySem.W.Frag) (ta : TA) : TI := fun σ H J => ta σ H fun vs H1 => ∃ a b xs ys, vs = [.ref a, .ref b] ∧ SqL K H1 a xs ∧ SqT K H1 b ys ∧ J (ItzM K a b) H1
theorem pi_zipM {X : Cx} {e e2 : Expr} {ta : TA} {p pos tpos : Pos} {elts : List Expr} {kk : Nat} (hg : Gl X "zip") (hm : X.mg "zip" = none) (ha : PA X [e, e2] ta)
    (hs : starEach [e, e2] X.env = (false, eval e X.env) :: starEach [e2] X.env := by rfl) (hpl : (backTo pos (starEach [e2] X.env)).any (·.1) = false := by rfl) :
    PI X (.Tuple elts kk tpos) (.Call (.Name "zip" p) [e, e2] [] pos) (iZipM X.K ta) := by
  refine ⟨fun pins s σ H J I h => ?_⟩
  refine Call_ (ld_blt I hg hm PyProof.Rows.boot_zip (PyProof.Rows.callWith_type1 (thn (ha.run pos pins s σ H _ I h) fun us s1 ⟨vs, H1, I1, r1, q1⟩ => ?_) hs hpl))
  obtain ⟨a, b, xs, ys, ex, hqx, hqy, q⟩ := q1
  subst ex
  cases r1 with
  | cons r rr =>
    cases rr with
    | cons r' rr =>
      cases rr
      cases r
      cases r'
      have fresh5 : ∀ c, c ∈ [s1.heap.objs.size + 4, s1.heap.objs.size + 2, s1.heap.objs.size + 3, s1.heap.objs.size, s1.heap.objs.size + 1] → FpOk X pins H1 c := fun c hcm => by
        have hle : s1.heap.objs.size ≤ c := by
          have e' : c = s1.heap.objs.size + 4 ∨ c = s1.heap.objs.size + 2 ∨ c = s1.heap.objs.size + 3 ∨ c = s1.heap.objs.size ∨ c = s1.heap.objs.size + 1 := by simpa using hcm
          rcases e' with z | z | z | z | z
          · rw [z]; exact Nat.le_add_right _ _
          · rw [z]; exact Nat.le_add_right _ _
          · rw [z]; exact Nat.le_add_right _ _
          · rw [z]; exact Nat.le_refl _
          · rw [z]; exact Nat.le_add_right _ _
        exact I1.fpOk hle (I1.hok.fresh hle)
      obtain ⟨its, rv, p1, _⟩ := I1.list hqx
      obtain ⟨its2, rv2, p2, _⟩ := I1.tuple hqy
      obtain ⟨o2, ho2, _⟩ := id p2
      refine PySem.call_zipM p1.isList (show s1.heap.IsTuple b its2.toArray from p2) fun h' hz hTI hTO h1 h2 hsz hk => wpAny_pyIter_zip hz ?_
      have I2 : Inv X pins σ H1 { s1 with heap := h' } := I1.kept (t' := s1.toks) hk
      exact ⟨s1.heap.objs.size + 4, [s1.heap.objs.size + 4, s1.heap.objs.size + 2, s1.heap.objs.size + 3, s1.heap.objs.size, s1.heap.objs.size + 1], _, _, H1, rfl, I2, turn_zipM (PySem.W.ktu_apart s1.heap.objs.size a b p1.lt (Heap.lt_size ho2)), ⟨hz, hTI, ⟨_, _, hTO⟩, h1, h2⟩, fresh5, q⟩
end L2

/-! ### text ZpL -/
/-! list(zip(a list, a tuple)) -/
namespace PySem.W
open PySem PySem.Calls PyProof.Rows PyProof.V PySem.Spec
section
variable {prog : Program} {w : World} {A : Around} {E : Value → Shared → Prop} {s : Shared}
theorem zipH_step {z TI TO T i1 i2 l1 l2 : Addr} {f : Bool} {oT : Obj} {k1 k2 : Nat} {xs ys : Array Value} {x y : Value} {Q : Value → Shared → Prop} (D : ZipApart z TI TO i1 i2 l1 l2)
    (hz : IsZipHeld s.heap z TI TO T f) (hT : s.heap.get? T = some oT) (hTI : IsPair s.heap TI (.ref i1) (.ref i2))
    (h1 : s.heap.IsListIter i1 l1 k1) (h2 : s.heap.IsTupleIter i2 l2 k2) (hl1 : s.heap.IsList l1 xs) (hl2 : s.heap.IsTuple l2 ys) (hx : xs[k1]? = some x) (hy : ys[k2]? = some y)
    (hQ : ∀ h', IsZipHeld h' z TI TO T true → h'.IsListIter i1 l1 (k1 + 1) → h'.IsTupleIter i2 l2 (k2 + 1) → IsPair h' s.heap.objs.size x y → h'.objs.size = s.heap.objs.size + 1 →
      (∀ c o, c ≠ z → c ≠ i1 → c ≠ i2 → s.heap.get? c = some o → h'.get? c = some o) → Q (.ref s.heap.objs.size) { s with heap := h' }) :
    wpAny (model prog w) A (Builtin.«zip.__next__» ⟨[.ref z], []⟩) (fun fin s' => ∃ v, fin = .done (.ret v) ∧ Q v s') E s := by
  show wpAny _ _ (field (.ref z) 2 >>= _) _ _ _
  refine wpAny_bind (wpAny_field hz rfl (x := .bool false) rfl ?_)
  show wpAny _ _ (field (.ref z) 3 >>= _) _ _ _
  refine wpAny_bind (wpAny_field hz rfl (x := .ref TI) rfl ?_)
  refine wpAny_bind (wpAny_seqItems hTI rfl ?_)
  show wpAny _ _ (Builtin.SmallTypes.ownedTupleIsFree (.ref z) >>= _) _ _ _
  refine wpAny_bind (wpAny_tupleHeld_zip hz hT fun h₁ hz₁ hs₁ => ?_)
  simp only [Bool.false_eq_true, if_false]
  refine wpAny_bind ?_
  rw [← Array.forIn_toList]
  simp only [List.forIn_cons, List.forIn_nil]
  refine wpAny_bind (wpAny_bind (wpAny_holding ?_))
  show wpAny _ _ (Builtin.SmallTypes.nextOf (.ref i1) >>= _) _ _ _
  refine wpAny_bind (wpAny_nextOf_list_item (s := { s with heap := h₁ }) (h1.extBut hs₁.extBut D.i1z) (hl1.extBut hs₁.extBut D.l1z) hx fun h₂ h1₂ hs₂ => wpAny_pure ?_)
  refine wpAny_pure ?_
  refine wpAny_bind (wpAny_bind (wpAny_holding ?_))
  show wpAny _ _ (Builtin.SmallTypes.nextOf (.ref i2) >>= _) _ _ _
  refine wpAny_bind (RZ.nextOf_tuple_item (s := { s with heap := h₂ }) ((h2.extBut hs₁.extBut D.i2z).extBut hs₂.extBut D.i12.symm) ((hl2.extBut hs₁.extBut D.l2z).extBut hs₂.extBut D.l2i1) hy fun h₃ h2₃ hs₃ => wpAny_pure ?_)
  refine wpAny_pure (wpAny_pure ?_)
  show wpAny _ _ (newTuple [x, y] >>= _) _ _ _
  refine wpAny_bind (wpAny_newTuple ?_)
  have hsz : h₃.objs.size = s.heap.objs.size := by rw [hs₃.1, hs₂.1, hs₁.1]
  have hz₃ : IsZipHeld h₃ z TI TO T true := hs₃.extBut _ _ D.i2z.symm (hs₂.extBut _ _ D.i1z.symm hz₁)
  have hk : ∀ c o, c ≠ z → c ≠ i1 → c ≠ i2 → s.heap.get? c = some o → h₃.get? c = some o := fun c o c1 c2 c3 e => hs₃.extBut _ _ c3 (hs₂.extBut _ _ c2 (hs₁.extBut _ _ c1 e))
  have h1₃ : h₃.IsListIter i1 l1 (k1 + 1) := h1₂.extBut hs₃.extBut D.i12
  refine wpAny_pure ⟨_, rfl, ?_⟩
  show Q (.ref h₃.objs.size) _
  have hp : IsPair (h₃.push { cls := .type "tuple", data := .seq #[x, y] }) h₃.objs.size x y := Heap.get?_push_size _ rfl
  have hz4 : (h₃.push { cls := .type "tuple", data := .seq #[x, y] }).objs.size = h₃.objs.size + 1 := Heap.size_push ..
  rw [hsz] at hp hz4 ⊢
  exact hQ _ (Heap.get?_push_of_some _ hz₃) (h1₃.at fun o e => Heap.get?_push_of_some _ e) (h2₃.at fun o e => Heap.get?_push_of_some _ e) hp hz4 fun c o c1 c2 c3 e => Heap.get?_push_of_some _ (hk c o c1 c2 c3 e)

theorem zipH_stop {z TI TO T i1 i2 l1 l2 : Addr} {f : Bool} {oT : Obj} {k1 k2 : Nat} {xs ys : Array Value} {Q : Fin → Shared → Prop} (hh : A.handled = none) (D : ZipApart z TI TO i1 i2 l1 l2)
    (hz : IsZipHeld s.heap z TI TO T f) (hT : s.heap.get? T = some oT) (hTI : IsPair s.heap TI (.ref i1) (.ref i2))
    (h1 : s.heap.IsListIter i1 l1 k1) (h2 : s.heap.IsTupleIter i2 l2 k2) (hl1 : s.heap.IsList l1 xs) (hl2 : s.heap.IsTuple l2 ys) (hend : xs[k1]? = none ∨ ys[k2]? = none)
    (hE : ∀ h' e, (∀ c o, c ≠ z → c ≠ i1 → c ≠ i2 → s.heap.get? c = some o → h'.get? c = some o) → (∃ o, h'.get? e = some o ∧ o.cls = .type "StopIteration") → E (.ref e) { s with heap := h' }) :
    wpAny (model prog w) A (Builtin.«zip.__next__» ⟨[.ref z], []⟩) Q E s := by
  show wpAny _ _ (field (.ref z) 2 >>= _) _ _ _
  refine wpAny_bind (wpAny_field hz rfl (x := .bool false) rfl ?_)
  show wpAny _ _ (field (.ref z) 3 >>= _) _ _ _
  refine wpAny_bind (wpAny_field hz rfl (x := .ref TI) rfl ?_)
  refine wpAny_bind (wpAny_seqItems hTI rfl ?_)
  show wpAny _ _ (Builtin.SmallTypes.ownedTupleIsFree (.ref z) >>= _) _ _ _
  refine wpAny_bind (wpAny_tupleHeld_zip hz hT fun h₁ hz₁ hs₁ => ?_)
  simp only [Bool.false_eq_true, if_false]
  refine wpAny_bind ?_
  rw [← Array.forIn_toList]
  simp only [List.forIn_cons, List.forIn_nil]
  refine wpAny_bind (wpAny_bind (wpAny_holding ?_))
  show wpAny _ _ (Builtin.SmallTypes.nextOf (.ref i1) >>= _) _ _ _
  cases hx : xs[k1]? with
  | none =>
    refine wpAny_bind (wpAny_nextOf_list_end (s := { s with heap := h₁ }) hh (h1.extBut hs₁.extBut D.i1z) (hl1.extBut hs₁.extBut D.l1z) hx fun h₂ e hs₂ he => ?_)
    exact hE h₂ e (fun c o c1 c2 _ x => hs₂ _ _ c2 (hs₁.extBut _ _ c1 x)) he
  | some x =>
    have hy : ys[k2]? = none := by rcases hend with h | h; rw [hx] at h; cases h; exact h
    refine wpAny_bind (wpAny_nextOf_list_item (s := { s with heap := h₁ }) (h1.extBut hs₁.extBut D.i1z) (hl1.extBut hs₁.extBut D.l1z) hx fun h₂ h1₂ hs₂ => wpAny_pure ?_)
    refine wpAny_pure ?_
    refine wpAny_bind (wpAny_bind (wpAny_holding ?_))
    show wpAny _ _ (Builtin.SmallTypes.nextOf (.ref i2) >>= _) _ _ _
    refine wpAny_bind (RZ.nextOf_tuple_end (s := { s with heap := h₂ }) hh ((h2.extBut hs₁.extBut D.i2z).extBut hs₂.extBut D.i12.symm) ((hl2.extBut hs₁.extBut D.l2z).extBut hs₂.extBut D.l2i1) hy fun h₃ e hs₃ he => ?_)
    exact hE h₃ e (fun c o c1 c2 c3 x => hs₃ _ _ c3 (hs₂.extBut _ _ c2 (hs₁.extBut _ _ c1 x))) he

theorem zipH_item {z TI TO T i1 i2 l1 l2 : Addr} {f : Bool} {oT : Obj} {k1 k2 : Nat} {xs ys : Array Value} {x y : Value} {Q : Option Value → Shared → Prop} (D : ZipApart z TI TO i1 i2 l1 l2)
    (hz : IsZipHeld s.heap z TI TO T f) (hT : s.heap.get? T = some oT) (hTI : IsPair s.heap TI (.ref i1) (.ref i2))
    (h1 : s.heap.IsListIter i1 l1 k1) (h2 : s.heap.IsTupleIter i2 l2 k2) (hl1 : s.heap.IsList l1 xs) (hl2 : s.heap.IsTuple l2 ys) (hx : xs[k1]? = some x) (hy : ys[k2]? = some y)
    (hQ : ∀ h', IsZipHeld h' z TI TO T true → h'.IsListIter i1 l1 (k1 + 1) → h'.IsTupleIter i2 l2 (k2 + 1) → IsPair h' s.heap.objs.size x y → h'.objs.size = s.heap.objs.size + 1 →
      (∀ c o, c ≠ z → c ≠ i1 → c ≠ i2 → s.heap.get? c = some o → h'.get? c = some o) → Q (some (.ref s.heap.objs.size)) { s with heap := h' }) :
    wpAny (model prog w) A (pyNext (.ref z)) Q E s := by
  have hTy : s.TypeIs (.ref z) "zip" := ⟨_, hz, rfl⟩
  unfold pyNext
  exact wpAny_bind (wpAny_attempt (wpAny_callSpecial?_slot (name := Str.ofString "__next__") hTy F.slot_zip_next
    (wpAny_call_entry F.slot_zip_next hTy F.entry_zip_next
      (zipH_step D hz hT hTI h1 h2 hl1 hl2 hx hy fun h' a1 a3 a4 a5 a6 a7 => wpAny_pure (hQ h' a1 a3 a4 a5 a6 a7)) (F.args_zip_next_1 _))))
theorem zipH_done {z TI TO T i1 i2 l1 l2 : Addr} {f : Bool} {oT : Obj} {k1 k2 : Nat} {xs ys : Array Value} {Q : Option Value → Shared → Prop} (hh : A.handled = none) (D : ZipApart z TI TO i1 i2 l1 l2)
    (hz : IsZipHeld s.heap z TI TO T f) (hT : s.heap.get? T = some oT) (hTI : IsPair s.heap TI (.ref i1) (.ref i2))
    (h1 : s.heap.IsListIter i1 l1 k1) (h2 : s.heap.IsTupleIter i2 l2 k2) (hl1 : s.heap.IsList l1 xs) (hl2 : s.heap.IsTuple l2 ys) (hend : xs[k1]? = none ∨ ys[k2]? = none)
    (hQ : ∀ h', (∀ c o, c ≠ z → c ≠ i1 → c ≠ i2 → s.heap.get? c = some o → h'.get? c = some o) → Q none { s with heap := h' }) : wpAny (model prog w) A (pyNext (.ref z)) Q E s := by
  have hTy : s.TypeIs (.ref z) "zip" := ⟨_, hz, rfl⟩
  unfold pyNext
  refine wpAny_bind (wpAny_attempt (wpAny_callSpecial?_slot (name := Str.ofString "__next__") hTy F.slot_zip_next
    (wpAny_call_entry F.slot_zip_next hTy F.entry_zip_next (zipH_stop hh D hz hT hTI h1 h2 hl1 hl2 hend fun h' e hk he => ?_) (F.args_zip_next_1 _))))
  obtain ⟨o, ho, hc⟩ := he
  refine wpAny_bind (wpAny_isInstance (T := "StopIteration") (b := true) ⟨o, ho, hc⟩ isSubtype_stop ?_)
  exact wpAny_pure (hQ _ hk)


/-- where the zip stands behind i turns; S is the list that is filled -/
def ZSt (h : Heap) (z TI TO i1 i2 l1 l2 S : Addr) (xs ys : Array Value) (i : Nat) : Prop :=
  IsPair h TI (.ref i1) (.ref i2) ∧ h.IsListIter i1 l1 i ∧ h.IsTupleIter i2 l2 i ∧ h.IsList l1 xs ∧ h.IsTuple l2 ys ∧
    ((i = 0 ∧ IsZip h z TI TO .none ∧ ∃ a b, IsPair h TO a b) ∨ ∃ T f oT, IsZipHeld h z TI TO T f ∧ h.get? T = some oT ∧ S < T)
theorem ZSt.keep {h h' : Heap} {z TI TO i1 i2 l1 l2 S : Addr} {xs ys : Array Value} {i : Nat} (x : ZSt h z TI TO i1 i2 l1 l2 S xs ys i) (hk : ∀ b o, b ≠ S → h.get? b = some o → h'.get? b = some o)
    (lt : z < S ∧ TI < S ∧ TO < S ∧ i1 < S ∧ i2 < S ∧ l1 < S ∧ l2 < S) : ZSt h' z TI TO i1 i2 l1 l2 S xs ys i := by
  obtain ⟨h1, h2, h3, h4, h5, h6⟩ := x
  obtain ⟨n1, n2, n3, n4, n5, n6, n7⟩ := lt
  refine ⟨hk _ _ (Nat.ne_of_lt n2) h1, h2.at fun o q => hk _ o (Nat.ne_of_lt n4) q, h3.at fun o q => hk _ o (Nat.ne_of_lt n5) q, ?_, ?_, ?_⟩
  · obtain ⟨o, ho, r⟩ := h4
    exact ⟨o, hk _ o (Nat.ne_of_lt n6) ho, r⟩
  · obtain ⟨o, ho, r⟩ := h5
    exact ⟨o, hk _ o (Nat.ne_of_lt n7) ho, r⟩
  · rcases h6 with ⟨e, q, a, b, r⟩ | ⟨T, f, oT, q, r, t⟩
    · exact .inl ⟨e, hk _ _ (Nat.ne_of_lt n1) q, a, b, hk _ _ (Nat.ne_of_lt n3) r⟩
    · exact .inr ⟨T, f, oT, hk _ _ (Nat.ne_of_lt n1) q, hk _ _ (Nat.ne_of_gt t) r, t⟩
/-- the objects of the zip -/
def ZOff (z TO i1 i2 b : Addr) : Prop := b ≠ z ∧ b ≠ TO ∧ b ≠ i1 ∧ b ≠ i2
theorem zst_item {z TI TO i1 i2 l1 l2 S : Addr} {xs ys : Array Value} {i : Nat} {x y : Value} {Q : Option Value → Shared → Prop} (D : ZipApart z TI TO i1 i2 l1 l2) (st : ZSt s.heap z TI TO i1 i2 l1 l2 S xs ys i)
    (lt : z < S ∧ TI < S ∧ TO < S ∧ i1 < S ∧ i2 < S ∧ l1 < S ∧ l2 < S) (hS : S < s.heap.objs.size) (hx : xs[i]? = some x) (hy : ys[i]? = some y)
    (hQ : ∀ h', ZSt h' z TI TO i1 i2 l1 l2 S xs ys (i + 1) → IsPair h' s.heap.objs.size x y → h'.objs.size = s.heap.objs.size + 1 → (∀ b o, ZOff z TO i1 i2 b → s.heap.get? b = some o → h'.get? b = some o) → Q (some (.ref s.heap.objs.size)) { s with heap := h' }) :
    wpAny (model prog w) A (pyNext (.ref z)) Q E s := by
  obtain ⟨h1, h2, h3, h4, h5, h6⟩ := st
  obtain ⟨n1, n2, n3, n4, n5, n6, n7⟩ := lt
  rcases h6 with ⟨e, q, a, b, r⟩ | ⟨T, f, oT, q, r, t⟩
  · refine PySem.pyNext_zipM_item D q h1 r h2 h3 h4 h5 hx hy fun h' z' TO' h1' h2' hT hsz hk => ?_
    refine hQ h' ⟨hk _ _ D.TIz D.TITO D.TIi1 D.TIi2 h1, h1', h2', ?_, ?_, .inr ⟨_, false, _, z', hT, hS⟩⟩ hT hsz fun b o hb e => hk b o hb.1 hb.2.1 hb.2.2.1 hb.2.2.2 e
    · obtain ⟨o, ho, rr⟩ := h4
      exact ⟨o, hk _ o D.l1z D.l1TO D.l1i1 D.l1i2 ho, rr⟩
    · obtain ⟨o, ho, rr⟩ := h5
      exact ⟨o, hk _ o D.l2z D.l2TO D.l2i1 D.l2i2 ho, rr⟩
  · refine zipH_item D q r h1 h2 h3 h4 h5 hx hy fun h' z' h1' h2' hT hsz hk => ?_
    have Tz : T ≠ z := Nat.ne_of_gt (Nat.lt_trans n1 t)
    have T1 : T ≠ i1 := Nat.ne_of_gt (Nat.lt_trans n4 t)
    have T2 : T ≠ i2 := Nat.ne_of_gt (Nat.lt_trans n5 t)
    refine hQ h' ⟨hk _ _ D.TIz D.TIi1 D.TIi2 h1, h1', h2', ?_, ?_, .inr ⟨T, true, oT, z', hk _ _ Tz T1 T2 r, t⟩⟩ hT hsz fun b o hb e => hk b o hb.1 hb.2.2.1 hb.2.2.2 e
    · obtain ⟨o, ho, rr⟩ := h4
      exact ⟨o, hk _ o D.l1z D.l1i1 D.l1i2 ho, rr⟩
    · obtain ⟨o, ho, rr⟩ := h5
      exact ⟨o, hk _ o D.l2z D.l2i1 D.l2i2 ho, rr⟩
theorem zst_done {z TI TO i1 i2 l1 l2 S : Addr} {xs ys : Array Value} {i : Nat} {Q : Option Value → Shared → Prop} (hh : A.handled = none) (D : ZipApart z TI TO i1 i2 l1 l2) (st : ZSt s.heap z TI TO i1 i2 l1 l2 S xs ys i)
    (hend : xs[i]? = none ∨ ys[i]? = none) (hQ : ∀ h', (∀ b o, ZOff z TO i1 i2 b → s.heap.get? b = some o → h'.get? b = some o) → Q none { s with heap := h' }) : wpAny (model prog w) A (pyNext (.ref z)) Q E s := by
  obtain ⟨h1, h2, h3, h4, h5, h6⟩ := st
  rcases h6 with ⟨e, q, a, b, r⟩ | ⟨T, f, oT, q, r, t⟩
  · exact PySem.pyNext_zipM_end hh D q h1 r h2 h3 h4 h5 hend fun h' hk => hQ h' fun b o hb e => hk b o hb.1 hb.2.1 hb.2.2.1 hb.2.2.2 e
  · exact zipH_done hh D q r h1 h2 h3 h4 h5 hend fun h' hk => hQ h' fun b o hb e => hk b o hb.1 hb.2.2.1 hb.2.2.2 e
end
/-- the tuples made so far -/
structure ZG (xs ys : Array Value) (S : Addr) (h : Heap) (as : List Addr) : Prop where
  rise : as.Pairwise (· < ·)
  above : ∀ a ∈ as, S < a
  pairs : ∀ (j : Nat) (a : Addr), as[j]? = some a → ∃ x y, xs[j]? = some x ∧ ys[j]? = some y ∧ h.get? a = some { cls := .type "tuple", data := .seq #[x, y] }
theorem ZG.there {xs ys : Array Value} {S : Addr} {h : Heap} {as : List Addr} (g : ZG xs ys S h as) {a : Addr} (ha : a ∈ as) : a < h.objs.size := by
  obtain ⟨j, hj⟩ := List.mem_iff_getElem?.mp ha
  obtain ⟨_, _, _, _, e⟩ := g.pairs j a hj
  exact Heap.lt_size e
section
variable {prog : Program} {w : World} {A : Around} {s : Shared} {R : Result → Shared → Prop}
theorem zl_loop {z TI TO i1 i2 l1 l2 S : Addr} {xs ys : Array Value} {n : Nat} (hh : A.handled = none) (D : ZipApart z TI TO i1 i2 l1 l2) (lt : z < S ∧ TI < S ∧ TO < S ∧ i1 < S ∧ i2 < S ∧ l1 < S ∧ l2 < S) (hn : n ≤ sizeLine)
    (hxn : n ≤ xs.size) (hyn : n ≤ ys.size) (hen : n = xs.size ∨ n = ys.size) (res : Value) {h₁ : Heap}
    (hR : ∀ h' tk acc c as, (∀ b o, b ≠ S → ZOff z TO i1 i2 b → h₁.get? b = some o → h'.get? b = some o) → h'.get? S = some { cls := .type "list", dict := none, data := .seq acc c, slots := #[] } → as.length = n → ZG xs ys S h' as →
      acc.toList = as.map Value.ref → R (.ok (.ret res)) { s with heap := h', toks := tk }) :
    ∀ (k i : Nat) (h : Heap) (tk c : Nat) (acc : Array Value) (as : List Addr), n - i = k → i ≤ n → ZSt h z TI TO i1 i2 l1 l2 S xs ys i → (∀ b o, b ≠ S → ZOff z TO i1 i2 b → h₁.get? b = some o → h.get? b = some o) →
      h.get? S = some { cls := .type "list", dict := none, data := .seq acc c, slots := #[] } → acc.toList = as.map Value.ref → as.length = i → ZG xs ys S h as →
      codeAny (model prog w) A (.builtin "list.extend.loop" ⟨[.ref S, .ref z, res], []⟩) R { s with heap := h, toks := tk } := by
  have offS : ZOff z TO i1 i2 S := ⟨Nat.ne_of_gt lt.1, Nat.ne_of_gt lt.2.2.1, Nat.ne_of_gt lt.2.2.2.1, Nat.ne_of_gt lt.2.2.2.2.1⟩
  have offT : ∀ b, S < b → ZOff z TO i1 i2 b := fun b hb => ⟨Nat.ne_of_gt (Nat.lt_trans lt.1 hb), Nat.ne_of_gt (Nat.lt_trans lt.2.2.1 hb), Nat.ne_of_gt (Nat.lt_trans lt.2.2.2.1 hb), Nat.ne_of_gt (Nat.lt_trans lt.2.2.2.2.1 hb)⟩
  intro k
  induction k with
  | zero =>
    intro i h tk c acc as hk hi hst hkeep hS hacc hal hG
    have hin : i = n := by omega
    refine codeAny_builtin PySem.F.entry_extend_loop ?_
    rw [Around.under_plainId PySem.F.plain_extend_loop _]
    show wpAny _ A.in1 (pyNext (.ref z) >>= _) _ _ _
    refine wpAny_bind (zst_done (s := { s with heap := h, toks := tk }) (A := A.in1) hh D hst ?_ fun h' he => ?_)
    · rcases hen with q | q
      · exact .inl (Array.getElem?_eq_none (by omega))
      · exact .inr (Array.getElem?_eq_none (by omega))
    refine wpAny_pure (hR h' tk acc c as (fun b o h1 h2 e => he b o h2 (hkeep b o h1 h2 e)) (he S _ offS hS) (by omega) ⟨hG.rise, hG.above, fun j a hj => ?_⟩ hacc)
    obtain ⟨x, y, e1, e2, e3⟩ := hG.pairs j a hj
    exact ⟨x, y, e1, e2, he a _ (offT a (hG.above a (List.mem_of_getElem? hj))) e3⟩
  | succ k ih =>
    intro i h tk c acc as hk hi hst hkeep hS hacc hal hG
    have hlt : i < n := by omega
    have hx : xs[i]? = some xs[i] := Array.getElem?_eq_getElem (by omega)
    have hy : ys[i]? = some ys[i] := Array.getElem?_eq_getElem (by omega)
    have hsz : acc.size = i := by rw [← Array.length_toList, hacc, List.length_map, hal]
    refine codeAny_builtin PySem.F.entry_extend_loop ?_
    rw [Around.under_plainId PySem.F.plain_extend_loop _]
    show wpAny _ A.in1 (pyNext (.ref z) >>= _) _ _ _
    refine wpAny_bind (zst_item (s := { s with heap := h, toks := tk }) D hst lt (Heap.lt_size hS) hx hy fun h' hst' ht hz hkp => ?_)
    dsimp only at ht hz hkp ⊢
    have hS' := hkp S _ offS hS
    have up : ∀ b o, b ≠ S → h'.get? b = some o → (h'.update S (Obj.mapSeq (·.push (Value.ref h.objs.size)))).get? b = some o := fun b o hb e => (Heap.get?_update_other _ _ (Ne.symm hb)).trans e
    have hSl : S < h.objs.size := Heap.lt_size hS
    show wpAny _ A.in1 (updateSeq S (·.push (Value.ref h.objs.size)) >>= _) _ _ _
    refine wpAny_bind ?_
    refine wpAny_updateSeq hS' rfl (wpAny_pure ⟨plainId_quiet PySem.F.plain_extend_loop _, ih (i + 1) _ tk _ (acc.push (Value.ref h.objs.size)) (as ++ [h.objs.size]) (by omega) hlt (hst'.keep up lt)
      (fun b o h1 h2 e => up b o h1 (hkp b o h2 (hkeep b o h1 h2 e))) (Heap.get?_update_self _ hS' rfl) (by rw [Array.toList_push, hacc, List.map_append]; rfl) (by rw [List.length_append, hal]; rfl) ⟨?_, ?_, ?_⟩⟩) (by rw [hsz]; omega) (by show (acc.push (Value.ref h.objs.size)).size ≤ sizeLine + 1; rw [Array.size_push, hsz]; omega)
    · refine List.pairwise_append.mpr ⟨hG.rise, List.pairwise_singleton _ _, fun a ha b hb => ?_⟩
      rw [List.mem_singleton.mp hb]
      exact hG.there ha
    · intro a ha
      rcases List.mem_append.mp ha with ha | ha
      · exact hG.above a ha
      · rw [List.mem_singleton.mp ha]; exact hSl
    · intro j b hj
      rcases Nat.lt_trichotomy j as.length with h1 | h1 | h1
      · rw [List.getElem?_append_left h1] at hj
        obtain ⟨x', y', e1, e2, e3⟩ := hG.pairs j b hj
        have hb := hG.above b (List.mem_of_getElem? hj)
        exact ⟨x', y', e1, e2, up b _ (Nat.ne_of_gt hb) (hkp b _ (offT b hb) e3)⟩
      · subst h1
        have hb : h.objs.size = b := by simpa using hj
        subst hb
        exact ⟨_, _, by rw [hal]; exact hx, by rw [hal]; exact hy, up _ _ (Nat.ne_of_gt hSl) ht⟩
      · have hnone : (as ++ [h.objs.size])[j]? = none := List.getElem?_eq_none (by rw [List.length_append, List.length_singleton]; omega)
        rw [hnone] at hj; cases hj
end
theorem zl_no_len : typeLookup (.type "zip") "__len__" = pure none := am_miss_of_fast (by decide +kernel)
end PySem.W

/-! ### text ZpL2 -/
namespace PySem.W
open PySem PySem.Calls PyProof.Rows PyProof.V PySem.Spec
theorem zl_no_hint : typeLookup (.type "zip") "__length_hint__" = pure none := am_miss_of_fast (by decide +kernel)
section
variable {prog : Program} {w : World} {A : Around} {E : Value → Shared → Prop} {s : Shared}
theorem zl_hint {r : Addr} (hT : s.TypeIs (.ref r) "zip") {Q : Bool → Shared → Prop} (h : Q true s) : wpAny (model prog w) A (Builtin.List.listLengthHint (.ref r)) Q E s := by
  unfold Builtin.List.listLengthHint
  refine wpAny_bind (wpAny_specialOf hT zl_no_len ?_)
  show wpAny _ _ (specialOf (.ref r) "__length_hint__" >>= _) _ _ _
  refine wpAny_bind (wpAny_specialOf hT zl_no_hint ?_)
  exact wpAny_pure h
/-- what list(zip(..)) gives -/
def ZlR (s : Shared) (xs ys : Array Value) (n : Nat) (S : Addr) (h₁ : Heap) (z TO i1 i2 : Addr) (R : Heap → Nat → List Addr → Prop) : Prop :=
  ∀ h' tk acc c as, (∀ b o, b ≠ S → ZOff z TO i1 i2 b → h₁.get? b = some o → h'.get? b = some o) → h'.get? S = some { cls := .type "list", dict := none, data := .seq acc c, slots := #[] } → as.length = n → ZG xs ys S h' as →
      acc.toList = as.map Value.ref → R h' tk as
theorem zl_extend {R : Result → Shared → Prop} {z TI TO i1 i2 l1 l2 S : Addr} {xs ys : Array Value} {n : Nat} (hh : A.handled = none) (D : ZipApart z TI TO i1 i2 l1 l2) (lt : z < S ∧ TI < S ∧ TO < S ∧ i1 < S ∧ i2 < S ∧ l1 < S ∧ l2 < S) (hn : n ≤ sizeLine)
    (hxn : n ≤ xs.size) (hyn : n ≤ ys.size) (hen : n = xs.size ∨ n = ys.size) (st : ZSt s.heap z TI TO i1 i2 l1 l2 S xs ys 0) (hz : IsZip s.heap z TI TO .none) (res : Value) (c₀ : Nat) (hS : s.heap.get? S = some { cls := .type "list", data := .seq #[] c₀ })
    (hR : ∀ h' tk acc c as, (∀ b o, b ≠ S → ZOff z TO i1 i2 b → s.heap.get? b = some o → h'.get? b = some o) → h'.get? S = some { cls := .type "list", dict := none, data := .seq acc c, slots := #[] } → as.length = n → ZG xs ys S h' as →
      acc.toList = as.map Value.ref → R (.ok (.ret res)) { s with heap := h', toks := tk }) :
    wpAny (model prog w) A.in1 (Builtin.List.listExtendWith (.ref S) (.ref z) res)
      (fun fin s' => match fin with | .done f => R (.ok f) s' | .again c' => c'.quiet = true ∧ codeAny (model prog w) A c' R s') (fun e s' => R (.error e) s') s := by
  have key : ∀ (h : Heap) (c₁ tk : Nat), (∀ b o, b ≠ S → s.heap.get? b = some o → h.get? b = some o) →
      h.get? S = some { cls := .type "list", data := .seq #[] c₁ } → codeAny (model prog w) A (.builtin "list.extend.loop" ⟨[.ref S, .ref z, res], []⟩) R { s with heap := h, toks := tk } := by
    intro h c₁ tk hk hS₁
    exact zl_loop (s := s) (h₁ := s.heap) hh D lt hn hxn hyn hen res hR n 0 h tk c₁ #[] [] (Nat.sub_zero _) (Nat.zero_le _) (st.keep hk lt) (fun b o hb _ e => hk b o hb e) hS₁ rfl rfl
      ⟨List.Pairwise.nil, (fun _ ha => nomatch ha), (fun j a hj => by simp at hj)⟩
  have hT : s.TypeIs (.ref z) "zip" := ⟨_, hz, rfl⟩
  unfold Builtin.List.listExtendWith
  refine wpAny_bind (wpAny_typeOf (T := "zip") hT ?_)
  have h1 : Builtin.List.listSameRef (.ref S) (.ref z) = false := by
    have q : S ≠ z := Nat.ne_of_gt lt.1
    simp [Builtin.List.listSameRef, q]
  have h2 : (Value.type "zip" == Value.type "list") = false := by decide
  have h3 : (Value.type "zip" == Value.type "tuple") = false := by decide
  simp only [h1, h2, h3, Bool.or_false, Bool.false_eq_true, if_false]
  refine wpAny_bind (wpAny_pyIter_zip hz ?_)
  refine wpAny_bind (wpAny_holding (zl_hint hT ?_))
  refine wpAny_ite_split (fun _ => ?_) (fun _ => wpAny_pure ⟨plainId_quiet PySem.F.plain_extend_loop _, key _ c₀ _ (fun b o _ e => e) hS⟩)
  refine wpAny_bind (wpAny_rule ?_)
  refine wpAny_bind ?_
  show wpAny _ _ (updateSeq S (·.push .none) >>= fun _ => updateSeq S (·.pop)) _ _ _
  refine wpAny_bind (wpAny_updateSeq hS rfl ?_)
  have hS₂ := Heap.get?_update_self (Obj.mapSeq (·.push Value.none)) hS rfl
  refine wpAny_updateSeq (hz := by seq_fits) hS₂ rfl ?_
  have hS₃ := Heap.get?_update_self (Obj.mapSeq (·.pop)) hS₂ rfl
  refine wpAny_pure ⟨plainId_quiet PySem.F.plain_extend_loop _, key _ _ _ (fun b o hb e => ?_) hS₃⟩
  exact (Heap.get?_update_other _ _ (Ne.symm hb)).trans ((Heap.get?_update_other _ _ (Ne.symm hb)).trans e)
theorem zl_init {R : Result → Shared → Prop} {z TI TO i1 i2 l1 l2 S : Addr} {xs ys : Array Value} {n : Nat} (hh : A.handled = none) (D : ZipApart z TI TO i1 i2 l1 l2) (lt : z < S ∧ TI < S ∧ TO < S ∧ i1 < S ∧ i2 < S ∧ l1 < S ∧ l2 < S) (hn : n ≤ sizeLine)
    (hxn : n ≤ xs.size) (hyn : n ≤ ys.size) (hen : n = xs.size ∨ n = ys.size) (st : ZSt s.heap z TI TO i1 i2 l1 l2 S xs ys 0) (hz : IsZip s.heap z TI TO .none) (hS : s.heap.get? S = some { cls := .type "list", data := .seq #[] })
    (hR : ∀ h' tk acc c as, (∀ b o, b ≠ S → ZOff z TO i1 i2 b → s.heap.get? b = some o → h'.get? b = some o) → h'.get? S = some { cls := .type "list", dict := none, data := .seq acc c, slots := #[] } → as.length = n → ZG xs ys S h' as →
      acc.toList = as.map Value.ref → R (.ok (.ret .none)) { s with heap := h', toks := tk }) :
    wpAny (model prog w) A.in1 (Builtin.«list.__init__» ⟨[.ref S, .ref z], []⟩)
      (fun fin s' => match fin with | .done f => R (.ok f) s' | .again c' => c'.quiet = true ∧ codeAny (model prog w) A c' R s') (fun e s' => R (.error e) s') s := by
  show wpAny _ _ (do let old ← Builtin.List.listItems (.ref S); Builtin.List.listUpdate (.ref S) (fun _ => #[]); letGo old.toList.reverse; Builtin.List.listExtendWith (.ref S) (.ref z) .none) _ _ s
  refine wpAny_bind ?_
  unfold Builtin.List.listItems
  refine wpAny_bind (wpAny_seqItems hS rfl (wpAny_pure ?_))
  show wpAny _ _ (updateSeq S (fun _ => #[]) >>= fun _ => letGo (#[] : Array Value).toList.reverse >>= fun _ => Builtin.List.listExtendWith (.ref S) (.ref z) .none) _ _ s
  refine wpAny_bind (wpAny_updateSeq hS rfl ?_)
  have hS₂ := Heap.get?_update_self (Obj.mapSeq (fun _ => (#[] : Array Value))) hS rfl
  have oth : ∀ b o, b ≠ S → s.heap.get? b = some o → (s.heap.update S (Obj.mapSeq (fun _ => (#[] : Array Value)))).get? b = some o :=
    fun b o hb e => (Heap.get?_update_other _ _ (Ne.symm hb)).trans e
  refine wpAny_bind (wpAny_letGo ?_)
  refine zl_extend hh D lt hn hxn hyn hen (st.keep oth lt) (oth z _ (Nat.ne_of_lt lt.1) hz) .none _ hS₂ (fun h' tk acc c as hk hS' hl hG hacc => ?_)
  exact hR h' tk acc c as (fun b o hb h2 e => hk b o hb h2 (oth b o hb e)) hS' hl hG hacc
theorem zl_call {Q : Value → Shared → Prop} {z TI TO i1 i2 l1 l2 : Addr} {xs ys : Array Value} {n : Nat} (hh : A.handled = none) (D : ZipApart z TI TO i1 i2 l1 l2) (hn : n ≤ sizeLine)
    (hxn : n ≤ xs.size) (hyn : n ≤ ys.size) (hen : n = xs.size ∨ n = ys.size) (hz : IsZip s.heap z TI TO .none) (hTI : IsPair s.heap TI (.ref i1) (.ref i2)) (hTO : ∃ a b, IsPair s.heap TO a b) (h1 : s.heap.IsListIter i1 l1 0) (h2 : s.heap.IsTupleIter i2 l2 0)
    (hl1 : s.heap.IsList l1 xs) (hl2 : s.heap.IsTuple l2 ys)
    (hQ : ∀ h' tk acc c as, (∀ b o, ZOff z TO i1 i2 b → s.heap.get? b = some o → h'.get? b = some o) → h'.get? s.heap.objs.size = some { cls := .type "list", dict := none, data := .seq acc c, slots := #[] } → as.length = n → ZG xs ys s.heap.objs.size h' as →
      acc.toList = as.map Value.ref → Q (.ref s.heap.objs.size) { s with heap := h', toks := tk }) :
    wpAny (model prog w) A (call (.type "list") [.ref z]) Q E s := by
  refine callType_codes (Q₁ := fun obj s₁ => obj = .ref s.heap.objs.size ∧ s₁ = { s with heap := s.heap.push { cls := .type "list", data := .seq #[] } }) PySem.F.called_list (PySem.F.typeCall_list_1 _) PySem.F.entry_list_init
    (code_list_new _ ⟨rfl, rfl⟩) fun obj s₁ h₁ => ?_
  obtain ⟨rfl, rfl⟩ := h₁
  have hS : (s.heap.push { cls := .type "list", data := .seq #[] }).get? s.heap.objs.size = some { cls := .type "list", data := .seq #[] } := Heap.get?_push_size _ rfl
  have up : ∀ b o, s.heap.get? b = some o → (s.heap.push { cls := .type "list", data := .seq #[] }).get? b = some o := fun b o e => Heap.get?_push_of_some _ e
  have lt : z < s.heap.objs.size ∧ TI < s.heap.objs.size ∧ TO < s.heap.objs.size ∧ i1 < s.heap.objs.size ∧ i2 < s.heap.objs.size ∧ l1 < s.heap.objs.size ∧ l2 < s.heap.objs.size :=
    ⟨Heap.lt_size hz, Heap.lt_size hTI, (let ⟨_, _, e⟩ := hTO; Heap.lt_size e), (let ⟨_, e, _⟩ := h1; Heap.lt_size e), (let ⟨_, e, _⟩ := h2; Heap.lt_size e), (let ⟨_, e, _⟩ := hl1; Heap.lt_size e), (let ⟨_, e, _⟩ := hl2; Heap.lt_size e)⟩
  have st : ZSt (s.heap.push { cls := .type "list", data := .seq #[] }) z TI TO i1 i2 l1 l2 s.heap.objs.size xs ys 0 :=
    ⟨up _ _ hTI, h1.at fun o q => up _ o q, h2.at fun o q => up _ o q, (let ⟨o, ho, r⟩ := hl1; ⟨o, up _ o ho, r⟩), (let ⟨o, ho, r⟩ := hl2; ⟨o, up _ o ho, r⟩), .inl ⟨rfl, up _ _ hz, (let ⟨a, b, e⟩ := hTO; ⟨a, b, up _ _ e⟩)⟩⟩
  refine ⟨⟨_, hS, rfl⟩, PySem.F.args_list_init_2 _ _, zl_init (A := A.in1) hh D lt hn hxn hyn hen st (up _ _ hz) hS (fun h' tk acc c as hk hS' hl hG hacc => ?_)⟩
  exact ⟨rfl, hQ h' tk acc c as (fun b o h2 e => hk b o (Nat.ne_of_lt (Heap.lt_size e)) h2 (up b o e)) hS' hl hG hacc⟩
end
end PySem.W
namespace L2
open PySem PySem.Spec PyProof.Rows
/-- the tuples tracked at their addresses -/
def putP : Hp → List Addr → List (V × V) → Hp
  | H, a :: as, p :: ps => putP (upd H a (.tup [p.1, p.2])) as ps
  | H, _, _ => H
theorem putP_off {b : Addr} : ∀ (as : List Addr) (ps : List (V × V)) (H : Hp), b ∉ as → putP H as ps b = H b
  | [], _, _, _ => rfl
  | _ :: _, [], _, _ => rfl
  | a :: as, p :: ps, H, h => by
    show putP (upd H a (.tup [p.1, p.2])) as ps b = H b
    rw [putP_off as ps _ (fun z => h (List.mem_cons_of_mem _ z)), upd_ne (fun z => h (by rw [z]; exact List.mem_cons_self))]
theorem putP_at : ∀ (as : List Addr) (ps : List (V × V)) (H : Hp), as.length = ps.length → as.Nodup → Paired (fun (t : Addr) (p : V × V) => putP H as ps t = some (.tup [p.1, p.2])) as ps
  | [], [], _, _, _ => .nil
  | [], _ :: _, _, h, _ => by cases h
  | _ :: _, [], _, h, _ => by cases h
  | a :: as, p :: ps, H, h, hn => by
    have hn' := List.nodup_cons.mp hn
    have ih := putP_at as ps (upd H a (.tup [p.1, p.2])) (Nat.succ.inj h) hn'.2
    refine .cons ?_ ih
    show putP (upd H a (.tup [p.1, p.2])) as ps a = some (.tup [p.1, p.2])
    rw [putP_off as ps _ hn'.1, upd_same]
theorem zip_laid {X : Cx} {pins : List (Addr × Obj)} {σ : L2.St} {H : Hp} {s : Shared} {h' : Heap} {tk : Nat} {xs ys : List V} {its its2 : List Value} {acc : Array Value} {c : Nat} {as : List Addr} {S : Addr} (I : Inv X pins σ H s) (hz : xs.length ≤ 100000)
    (kx : Vals xs its) (ky : Vals ys its2) (hk : ∀ b o, s.heap.get? b = some o → h'.get? b = some o) (hSz : s.heap.objs.size ≤ S) (hS : h'.get? S = some { cls := .type "list", dict := none, data := .seq acc c, slots := #[] })
    (hl : as.length = min xs.length ys.length) (hG : PySem.W.ZG its.toArray its2.toArray S h' as) (hacc : acc.toList = as.map Value.ref) :
    ∃ H' : Hp, (∀ b o, H b = some o → H' b = some o) ∧ H S = none ∧ H' S = some (.lst (as.map V.ref)) ∧ Paired (fun (t : Addr) (q : V × V) => H' t = some (.tup [q.1, q.2])) as (xs.zip ys) ∧ Inv X pins σ H' { s with heap := h', toks := tk } := by
  have hSn : S ∉ as := fun z => Nat.lt_irrefl _ (hG.above _ z)
  have nd : as.Nodup := List.Pairwise.imp (fun {a b} (h : a < b) => Nat.ne_of_lt h) hG.rise
  have new : ∀ t ∈ as, H t = none := fun t ht => I.hok.fresh (Nat.le_trans hSz (Nat.le_of_lt (hG.above t ht)))
  have newS : H S = none := I.hok.fresh hSz
  have lz : as.length = (xs.zip ys).length := by rw [List.length_zip]; exact hl
  have atP := putP_at as (xs.zip ys) (upd H S (.lst (as.map V.ref))) lz nd
  have off : ∀ b, b ∉ as → b ≠ S → putP (upd H S (.lst (as.map V.ref))) as (xs.zip ys) b = H b := fun b h1 h2 => by rw [putP_off as _ _ h1, upd_ne h2]
  have low : ∀ b o, s.heap.get? b = some o → b ∉ as ∧ b ≠ S := fun b o e => ⟨fun z => absurd (Heap.lt_size e) (Nat.not_lt.mpr (Nat.le_trans hSz (Nat.le_of_lt (hG.above b z)))), fun z => absurd (Heap.lt_size e) (Nat.not_lt.mpr (by rw [z]; exact hSz))⟩
  have kp : ∀ b u, H b = some u → (putP (upd H S (.lst (as.map V.ref))) as (xs.zip ys)) b = some u := fun b u e => by
    rw [off b (fun z => by rw [new b z] at e; cases e) (fun z => by rw [z, newS] at e; cases e)]
    exact e
  have eS : putP (upd H S (.lst (as.map V.ref))) as (xs.zip ys) S = some (.lst (as.map V.ref)) := by rw [putP_off as _ _ hSn, upd_same]
  refine ⟨putP (upd H S (.lst (as.map V.ref))) as (xs.zip ys), kp, newS, eS, atP, ?_⟩
  refine I.call' (ch := []) rfl ⟨fun b o q _ _ _ => hk b o q, fun b o q _ _ _ => ⟨o.slots, hk b o q⟩, fun b o q n _ => ?_, fun b o q _ => ⟨o, hk b o q⟩, fun b xs q => kp b _ q, fun b o u q => kp b _ q, fun b ps q => ⟨#[], by rw [kp b _ q]; simp⟩⟩ (fun b u q => ?_) I.bare fun b z => by simp at z
  · obtain ⟨z1, z2⟩ := low b o q
    rw [off b z1 z2]
    exact n
  · by_cases hb : b ∈ as
    · obtain ⟨j, pk, e1, e2, e3⟩ := LiI.paired_ix atP hb
      rw [e3] at q
      cases q
      obtain ⟨x, y, f1, f2, f3⟩ := hG.pairs j b e1
      have e2' := List.getElem?_zip_eq_some.mp e2
      obtain ⟨x', g1, g2⟩ := Vals.get kx e2'.1
      obtain ⟨y', k1, k2⟩ := Vals.get ky e2'.2
      have fx : x' = x := by
        have : its.toArray[j]? = some x' := by simpa using g1
        rw [f1] at this
        exact (Option.some.inj this).symm
      have fy : y' = y := by
        have : its2.toArray[j]? = some y' := by simpa using k1
        rw [f2] at this
        exact (Option.some.inj this).symm
      subst fx fy
      exact ⟨by show 2 ≤ sizeLine; decide, [x', y'], .cons g2 (.cons k2 .nil), ⟨_, f3, rfl, _, rfl⟩⟩
    · by_cases hb2 : b = S
      · rw [hb2] at q ⊢
        rw [eS] at q
        cases q
        refine ⟨by rw [List.length_map, hl]; exact Nat.le_trans (Nat.min_le_left _ _) (Nat.le_trans hz (by decide)), acc.toList, c, by rw [hacc]; exact LiI.vals_refs as, ?_⟩
        rw [Array.toArray_toList]
        exact hS
      · rw [off b hb hb2] at q
        exact (I.hok b u q).stay (fun d v _ y => hk d v y) (fun d y => kp d _ y) fun d xs y => kp d _ y
def tListZip (K : PySem.W.Frag) (ta : TA) : TE := fun σ H Q => ta σ H fun vs H1 => ∃ a b xs ys, vs = [.ref a, .ref b] ∧ SqL K H1 a xs ∧ SqT K H1 b ys ∧ xs.length ≤ 100000 ∧
  ∀ (H' : Hp) (p : Addr) (ts : List Addr), (∀ b o, H1 b = some o → H' b = some o) → H1 p = none → H' p = some (.lst (ts.map V.ref)) → Paired (fun (t : Addr) (q : V × V) => H' t = some (.tup [q.1, q.2])) ts (xs.zip ys) → Q (.ref p) H'
theorem pe_listZip {X : Cx} {e e2 : Expr} {ta : TA} {p pz pos cpos : Pos} (hc : X.calm = true) (ha : PA X [e, e2] ta) (hg : Gl X "list") (hm : X.mg "list" = none) (hgz : Gl X "zip") (hmz : X.mg "zip" = none)
    (hs : starEach [.Call (.Name "zip" pz) [e, e2] [] cpos] X.env = (false, eval (.Call (.Name "zip" pz) [e, e2] [] cpos) X.env) :: starEach [] X.env := by rfl)
    (hs2 : starEach [e, e2] X.env = (false, eval e X.env) :: starEach [e2] X.env := by rfl) (hpl : (backTo cpos (starEach [e2] X.env)).any (·.1) = false := by rfl) :
    PE X (.Call (.Name "list" p) [.Call (.Name "zip" pz) [e, e2] [] cpos] [] pos) (tListZip X.K ta) := by
  refine ⟨fun pins s σ H Q I hq => ?_⟩
  refine wpAny_Call_Name_kw (ld_blt I hg hm (by decide +kernel : bootBuiltins "list" = some (.type "list")) ?_)
  refine PyProof.Rows.callWith_type1 ?_ hs rfl
  rw [hs]
  show wpAny _ _ (spliced ((false, eval (.Call (.Name "zip" pz) [e, e2] [] cpos) X.env) :: backTo pos (starEach [] X.env))) _ _ s
  refine Calls.spliced_cons ?_
  refine Call_ (ld_blt I hgz hmz PyProof.Rows.boot_zip (PyProof.Rows.callWith_type1 (thn (ha.run cpos pins s σ H _ I hq) fun us s1 ⟨vs, H1, I1, r1, q1⟩ => ?_) hs2 hpl))
  obtain ⟨a, b, xs, ys, ex, hqx, hqy, hlen, q⟩ := q1
  subst ex
  cases r1 with
  | cons r rr =>
    cases rr with
    | cons r' rr =>
      cases rr
      cases r
      cases r'
      obtain ⟨its, rv, p1, _⟩ := I1.list hqx
      obtain ⟨its2, rv2, p2, _⟩ := I1.tuple hqy
      obtain ⟨o1, ho1, r1⟩ := id p1.isList
      obtain ⟨o2, ho2, r2⟩ := id (show s1.heap.IsTuple b its2.toArray from p2)
      have lx := rv.length
      have ly := rv2.length
      refine PySem.call_zipM p1.isList (show s1.heap.IsTuple b its2.toArray from p2) fun h' hz hTI hTO h1 h2 hsz hk => ?_
      refine Calls.spliced_nil ?_
      refine PySem.W.zl_call (s := { s1 with heap := h' }) (n := min xs.length ys.length) (I1.ok.hd hc) (PySem.W.ktu_apart s1.heap.objs.size a b (Heap.lt_size ho1) (Heap.lt_size ho2)) (Nat.le_trans (Nat.min_le_left _ _) (Nat.le_trans hlen (by decide)))
        (by simp; omega) (by simp; omega) (by simp; omega) hz hTI ⟨_, _, hTO⟩ h1 h2 ⟨o1, hk _ _ ho1, r1⟩ ⟨o2, hk _ _ ho2, r2⟩ fun h'' tk acc c as hk2 hS hl hG hacc => ?_
      have off : ∀ b o, s1.heap.get? b = some o → PySem.W.ZOff (s1.heap.objs.size + 4) (s1.heap.objs.size + 3) s1.heap.objs.size (s1.heap.objs.size + 1) b := fun b o e => by
        have q : b < s1.heap.objs.size := Heap.lt_size e
        exact ⟨Nat.ne_of_lt (Nat.lt_of_lt_of_le q (Nat.le_add_right _ _)), Nat.ne_of_lt (Nat.lt_of_lt_of_le q (Nat.le_add_right _ _)), Nat.ne_of_lt q, Nat.ne_of_lt (Nat.lt_succ_of_lt q)⟩
      have kk : ∀ b o, s1.heap.get? b = some o → h''.get? b = some o := fun b o e => hk2 b o (off b o e) (hk b o e)
      obtain ⟨H', k1, k2, k3, k4, J⟩ := zip_laid (tk := tk) I1 hlen rv rv2 kk (show s1.heap.objs.size ≤ h'.objs.size by omega) hS hl hG hacc
      exact ⟨.ref _, H', J, rfl, q H' _ as k1 k2 k3 k4⟩
end L2

/-! ### text Lay2 -/
namespace Lay
open PySem PySem.Spec PyProof.Rows L2
section
variable {K : PySem.W.Frag} {H H' : Hp}
mutual
/-- data without lists: tuples kept suffice -/
theorem im_keep (e : ∀ a xs, SqT K H a xs → SqT K H' a xs) : ∀ (d : PyData) (v : V), im d = true → Dp K H v d → Dp K H' v d
  | .none, _, _, h => by cases h; exact .non
  | .bool _, _, _, h => by cases h; exact .bl _
  | .int _, _, _, h => by cases h; exact .int _
  | .str _, _, _, h => by cases h; exact .str _
  | .tuple ds, _, i, h => by
    cases h with
    | tup q r => exact .tup (e _ _ q) (ims_keep e ds _ (by unfold im at i; exact i) r)
theorem ims_keep (e : ∀ a xs, SqT K H a xs → SqT K H' a xs) : ∀ (ds : List PyData) (vs : List V), ims ds = true → DpAll K H vs ds → DpAll K H' vs ds
  | [], _, _, h => by cases h; exact .nil
  | d :: ds, _, i, h => by
    cases h with
    | cons q r =>
      unfold ims at i
      obtain ⟨i1, i2⟩ := Bool.and_eq_true_iff.mp i
      exact .cons (im_keep e d _ i1 q) (ims_keep e ds _ i2 r)
end
/-- a list is written: tuples stay -/
theorem sqt_lst {p a : Addr} {ys zs : List V} {xs : List V} (hp : H p = some (.lst ys)) (h : SqT K H a xs) : SqT K (upd H p (.lst zs)) a xs := by
  have ne : ∀ {u : HO}, H a = some u → u ≠ .lst ys → upd H p (.lst zs) a = some u := fun {u} e n => by
    rw [upd_ne (fun z => n (by rw [z, hp] at e; exact (Option.some.inj e).symm))]
    exact e
  rcases h with (h | ⟨o, h⟩) | h
  · exact .inl (.inl (ne h (fun z => by cases z)))
  · exact .inl (.inr ⟨o, ne h (fun z => by cases z)⟩)
  · exact .inr h
end
/-! ## walks over data -/
/-- J, walked behind H1 (all but M kept), gives n data -/
structure DWalk (K : PySem.W.Frag) (J : It) (n : Nat) (M : List Addr) (H1 : Hp) (yd : Nat → PyData) : Prop where
  goes : ∀ i H, i < n → R M H1 H → J.go i H
  stops : ∀ H, R M H1 H → J.stop n H
  yields : ∀ i H x H', i < n → R M H1 H → J.yld i H x H' → R M H H' ∧ Dp K H' x (yd i)
section
variable {K : PySem.W.Frag} {J : It} {n : Nat} {M : List Addr} {H H1 : Hp} {yd : Nat → PyData} {v x : V} {σ : L2.St}
theorem at_of {xs : List V} {ds : List PyData} {i : Nat} (h : DpAll K H xs ds) (hi : i < ds.length) {x : V} (e : xs[i]? = some x) : Dp K H x (ds.getD i .none) := by
  obtain ⟨d, e1, e2⟩ := h.getv e
  rw [List.getD_eq_getElem?_getD, e1]
  exact e2
theorem dw_tup {a : Addr} {xs : List V} {ds : List PyData} (hq : SqT K H1 a xs) (hd : DpAll K H1 xs ds) (hm : M = [] ∨ ims ds = true) : DWalk K (Itt K a) ds.length M H1 fun i => ds.getD i .none := by
  refine ⟨fun i H hi r => walk_tup.goes i H (by rw [hd.len]; exact hi) (r.sqt hq), fun H r => by rw [← hd.len]; exact walk_tup.stops H (r.sqt hq), fun i H x H' hi r y => ?_⟩
  obtain ⟨e1, e2⟩ := walk_tup.yields i H x H' (by rw [hd.len]; exact hi) (r.sqt hq) y
  subst e1
  refine ⟨R.refl _, at_of ?_ hi e2⟩
  rcases hm with hm | hm
  · subst hm
    exact R.xps r _ _ hd
  · exact R.dps r _ _ hm hd
theorem dw_list {a : Addr} {xs : List V} {ds : List PyData} (hq : SqL K H1 a xs) (ha : a ∉ M) (hd : DpAll K H1 xs ds) (hm : M = [] ∨ ims ds = true) : DWalk K (Itl K a) ds.length M H1 fun i => ds.getD i .none := by
  refine ⟨fun i H hi r => walk_list.goes i H (by rw [hd.len]; exact hi) (r.sql ha hq), fun H r => by rw [← hd.len]; exact walk_list.stops H (r.sql ha hq), fun i H x H' hi r y => ?_⟩
  obtain ⟨e1, e2⟩ := walk_list.yields i H x H' (by rw [hd.len]; exact hi) (r.sql ha hq) y
  subst e1
  refine ⟨R.refl _, at_of ?_ hi e2⟩
  rcases hm with hm | hm
  · subst hm
    exact R.xps r _ _ hd
  · exact R.dps r _ _ hm hd
theorem dw_range {lo : Int} : DWalk K (Itr lo n) n M H1 fun i => .int (lo + (i : Nat)) := by
  refine ⟨fun i H hi r => walk_range.goes i H hi trivial, fun H r => walk_range.stops H trivial, fun i H x H' hi r y => ?_⟩
  obtain ⟨e1, e2⟩ := walk_range.yields i H x H' hi trivial y
  subst e1 e2
  exact ⟨R.refl _, .int _⟩
theorem dw_enumT {a : Addr} {xs : List V} {ds : List PyData} (hq : SqT K H1 a xs) (hd : DpAll K H1 xs ds) (hm : M = [] ∨ ims ds = true) : DWalk K (IteT K a) ds.length M H1 fun i => .tuple [.int (i : Nat), ds.getD i .none] := by
  refine ⟨fun i H hi r => ⟨xs, xs[i]'(by rw [hd.len]; exact hi), r.sqt hq, by simp⟩, fun H r => ⟨xs, r.sqt hq, by rw [hd.len]; exact Nat.le_refl _⟩, fun i H x H' hi r y => ?_⟩
  obtain ⟨T, z, e1, e2, e3, e4⟩ := y
  subst e1 e3
  have hdd : DpAll K H xs ds := by
    rcases hm with hm | hm
    · subst hm
      exact R.xps r _ _ hd
    · exact R.dps r _ _ hm hd
  exact ⟨R.new e2, dp_tup upd_same (.cons (.int _) (.cons (R.xp (R.new e2) _ _ (at_of hdd hi (e4 xs (r.sqt hq)))) .nil))⟩
theorem dw_zipM {a b : Addr} {xs ys : List V} {ds es : List PyData} (hq : SqL K H1 a xs) (ha : a ∉ M) (hq2 : SqT K H1 b ys) (hd : DpAll K H1 xs ds) (he : DpAll K H1 ys es) (hm : M = [] ∨ ims ds = true ∧ ims es = true) (hl : ds.length = es.length) :
    DWalk K (ItzM K a b) ds.length M H1 fun i => .tuple [ds.getD i .none, es.getD i .none] := by
  have l1 := hd.len
  have l2 := he.len
  refine ⟨fun i H hi r => ⟨xs, ys, xs[i]'(by omega), ys[i]'(by omega), r.sql ha hq, r.sqt hq2, by simp, by simp⟩, fun H r => ⟨xs, ys, r.sql ha hq, r.sqt hq2, by omega⟩, fun i H x H' hi r y => ?_⟩
  obtain ⟨T, z, u, e1, e2, e3, e4, e5⟩ := y
  subst e1 e3
  have hdd : DpAll K H xs ds ∧ DpAll K H ys es := by
    rcases hm with hm | hm
    · subst hm
      exact ⟨R.xps r _ _ hd, R.xps r _ _ he⟩
    · exact ⟨R.dps r _ _ hm.1 hd, R.dps r _ _ hm.2 he⟩
  exact ⟨R.new e2, dp_tup upd_same (.cons (R.xp (R.new e2) _ _ (at_of hdd.1 hi (e4 xs (r.sql ha hq)))) (.cons (R.xp (R.new e2) _ _ (at_of hdd.2 (by omega) (e5 ys (r.sqt hq2)))) .nil))⟩
/-- a for over data -/
theorem x_for {g : TG} {tb : TS} {D : Ends} (w : DWalk K J n M H yd) (W : Nat → L2.St → Hp → Prop) (h0 : W 0 σ H) (hW : ∀ i σ' H', W i σ' H' → R M H H')
    (hs : ∀ i x σ' H' H2, i < n → W i σ' H' → R M H' H2 → Dp K H2 x (yd i) → g x σ' H2 fun σ2 H2 => tb { D with nx := W (i + 1), ct := W (i + 1), bk := D.nx } σ2 H2) (hd : ∀ σ' H', W n σ' H' → D.nx σ' H') :
    ∃ W : Nat → Nat → L2.St → Hp → Prop, (∃ m, W 0 m σ H) ∧ ∀ i m σ H, W i m σ H →
      (J.stop i H ∧ D.nx σ H) ∨ (J.go i H ∧ ∃ N : L2.St → Hp → Prop, (∀ σ' H', N σ' H' → ∃ m', m' < m ∧ W (i + 1) m' σ' H') ∧ ∀ x H', J.yld i H x H' → g x σ H' fun σ2 H2 => tb { D with nx := N, ct := N, bk := D.nx } σ2 H2) := by
  have wk : L2.Walk J n (fun h => R M H h) (fun i h x h' => R M h h' ∧ Dp K h' x (yd i)) := ⟨w.goes, w.stops, w.yields⟩
  exact for_it wk W h0 (fun i σ' H' _ p => hW i σ' H' p) (fun i x σ' H' H2 hi p y => hs i x σ' H' H2 hi p y.1 y.2) hd
/-- the state of a comprehension: es the data so far, the new list at D -/
structure LcS (K : PySem.W.Frag) (M : List Addr) (H1 : Hp) (I : Nat → List PyData → Prop) (D : Addr) (i : Nat) (es : List PyData) (h : Hp) : Prop where
  ex : ∃ acc, h D = some (.lst acc) ∧ acc.length ≤ i ∧ DpAll K h acc es
  inv : I i es
  r : R M H1 h
  nD : D ∉ M
  new : H1 D = none
def LcP (K : PySem.W.Frag) (M : List Addr) (H1 : Hp) (I : Nat → List PyData → Prop) (D : Addr) (i : Nat) (h : Hp) : Prop := ∃ es, LcS K M H1 I D i es h
def LcY (K : PySem.W.Frag) (M : List Addr) (H1 : Hp) (I : Nat → List PyData → Prop) (D : Addr) (i : Nat) (y : V) (h : Hp) : Prop := ∃ acc, h D = some (.lst acc) ∧ acc.length < sizeLine ∧ LcP K M H1 I D (i + 1) (upd h D (.lst (acc ++ [y])))
theorem lcY {I : Nat → List PyData → Prop} {D : Addr} {i : Nat} {es : List PyData} {z : V} {e : PyData} {H' H4 : Hp} (S : LcS K M H1 I D i es H') (r : R M H' H4) (hz : Dp K H4 z e) (hI : I (i + 1) (es ++ [e])) (him : ims (es ++ [e]) = true) (hi : i < 100000) : LcY K M H1 I D i z H4 := by
  obtain ⟨acc, e1, e2, e3⟩ := S.ex
  have e4 : H4 D = some (.lst acc) := r.keep D _ S.nD e1
  have him' : ims es = true := ims_of fun d hd => by
    obtain ⟨j, hj⟩ := List.getElem?_of_mem hd
    exact ims_get him (i := j) (by rw [List.getElem?_append_left (List.getElem?_eq_some_iff.mp hj).1]; exact hj)
  have a4 : DpAll K H4 acc es := R.dps r _ _ him' e3
  refine ⟨acc, e4, Nat.lt_of_le_of_lt e2 (Nat.lt_of_lt_of_le hi (by decide)), es ++ [e], ⟨acc ++ [z], upd_same, by rw [List.length_append]; exact Nat.succ_le_succ e2, ?_⟩, hI, R.mut (S.r.trans r) S.new, S.nD, S.new⟩
  exact ims_keep (fun a xs q => sqt_lst e4 q) _ _ him (a4.app (.cons hz .nil))
theorem lcN {I : Nat → List PyData → Prop} {D : Addr} {i : Nat} {es : List PyData} {H' H3 : Hp} (S : LcS K M H1 I D i es H') (r : R M H' H3) (hI : I (i + 1) es) (him : ims es = true) : LcP K M H1 I D (i + 1) H3 := by
  obtain ⟨acc, e1, e2, e3⟩ := S.ex
  exact ⟨es, ⟨acc, r.keep D _ S.nD e1, Nat.le_succ_of_le e2, R.dps r _ _ him e3⟩, hI, S.r.trans r, S.nD, S.new⟩
/-- a comprehension over data, its elements without lists: I by the turn and the data so far -/
theorem x_lc {g : TG} {tt : TT} {te : TE} {vs : List Nat} {Q : VK} (w : DWalk K J n M H1 yd) (hM : ∀ p ∈ M, H1 p ≠ none) (I : Nat → List PyData → Prop) (h0 : I 0 [])
    (hs : ∀ D i x es H' H2, i < n → LcS K M H1 I D i es H' → R M H' H2 → Dp K H2 x (yd i) → g x (wipe σ vs) H2 fun σ2 H2 => wipe σ2 vs = wipe σ vs ∧ tt σ2 H2 fun b H3 =>
      if b = true then te σ2 H3 fun z H4 => LcY K M H1 I D i z H4 else LcP K M H1 I D (i + 1) H3) (hd : ∀ es a acc H', I n es → R M H1 H' → H1 a = none → H' a = some (.lst acc) → DpAll K H' acc es → Q (.ref a) H') :
    ∀ D, H1 D = none → ∃ W : Nat → Nat → Hp → Prop, (∃ m, W 0 m (upd H1 D (.lst []))) ∧ ∀ i m H, W i m H →
      (J.stop i H ∧ Q (.ref D) H) ∨ (J.go i H ∧ ∃ Nx : Hp → Prop, (∀ H', Nx H' → ∃ m', m' < m ∧ W (i + 1) m' H') ∧ ∀ x H', J.yld i H x H' → g x (wipe σ vs) H' fun σ2 H2 => wipe σ2 vs = wipe σ vs ∧ tt σ2 H2 fun b H3 =>
        if b = true then te σ2 H3 fun y H4 => ∃ acc, H4 D = some (.lst acc) ∧ acc.length < sizeLine ∧ Nx (upd H4 D (.lst (acc ++ [y]))) else Nx H3) := by
  intro D hD
  have wk : L2.Walk J n (fun h => R M H1 h) (fun i h x h' => R M h h' ∧ Dp K h' x (yd i)) := ⟨w.goes, w.stops, w.yields⟩
  have nD : D ∉ M := fun z => hM D z hD
  refine lc_it (Qd := Q (.ref D)) wk (fun i h => LcP K M H1 I D i h) ⟨[], ⟨[], upd_same, Nat.le_refl _, .nil⟩, h0, R.new hD, nD, hD⟩ (fun i h _ p => let ⟨_, S⟩ := p; S.r) (fun i x h h' hin p y => ?_) fun h p => ?_
  · obtain ⟨es, S⟩ := p
    exact hs D i x es h h' hin S y.1 y.2
  · obtain ⟨es, S⟩ := p
    obtain ⟨acc, e1, e2, e3⟩ := S.ex
    exact hd es D acc h S.inv S.r hD e1 e3
end
section
variable {K : PySem.W.Frag} {M : List Addr} {H H' : Hp} {v : V} {σ : L2.St} {te : TE}
/-! more readings -/
theorem x_call0 {sp : Sp} {E : XK} {t : TA} {Q : VK} (q : t σ H fun vs H1 => sp vs H1 Q E) : tCall sp [] E t σ H Q := by
  unfold tCall
  simpa only [List.append_nil] using q
theorem OpR.or {X : Cx} {op : Value → Value → Sem Value} {r1 r2 : R2} (h1 : OpR X op r1) (h2 : OpR X op r2) : OpR X op (fun x y H Q => r1 x y H Q ∨ r2 x y H Q) := by
  intro pins s σ H x y u v Q I rx ry h
  rcases h with h | h
  · exact h1 pins s σ H x y u v Q I rx ry h
  · exact h2 pins s σ H x y u v Q I rx ry h
/-- a list or a tuple of data -/
inductive Seq (K : PySem.W.Frag) (H : Hp) (v : V) (ds : List PyData) : Prop
  | t (h : Dp K H v (.tuple ds))
  | l (h : Dp K H v (.list ds))
end

section
variable {K : PySem.W.Frag} {H : Hp} {Q : VK} {x y v : V} {σ : L2.St}
theorem x_eqT (h : scal x y = true) (e : x = y) (q : Q (.bl true) H) : rEq x y H Q := ⟨h, by rw [decide_eq_true e]; exact q⟩
theorem x_eqF (h : scal x y = true) (e : decide (x = y) = false) (q : Q (.bl false) H) : rEq x y H Q := ⟨h, by rw [e]; exact q⟩
theorem x_eqI {i j : Int} (q : Q (.bl (decide (i = j))) H) : rEq (.int i) (.int j) H Q := ⟨rfl, by
  have e : decide (V.int i = V.int j) = decide (i = j) := decide_eq_decide.mpr ⟨fun z => by cases z; rfl, fun z => by rw [z]⟩
  rw [e]; exact q⟩
theorem x_eqB {i j : Bool} (q : Q (.bl (decide (i = j))) H) : rEq (.bl i) (.bl j) H Q := ⟨rfl, by
  have e : decide (V.bl i = V.bl j) = decide (i = j) := decide_eq_decide.mpr ⟨fun z => by cases z; rfl, fun z => by rw [z]⟩
  rw [e]; exact q⟩
theorem x_eqS {i j : Str} (q : Q (.bl (decide (i = j))) H) : rEq (.str i) (.str j) H Q := ⟨rfl, by
  have e : decide (V.str i = V.str j) = decide (i = j) := decide_eq_decide.mpr ⟨fun z => by cases z; rfl, fun z => by rw [z]⟩
  rw [e]; exact q⟩
theorem x_neT (h : scal x y = true) (e : x = y) (q : Q (.bl false) H) : rNe x y H Q := ⟨h, by rw [decide_eq_true e]; exact q⟩
theorem x_neF (h : scal x y = true) (e : decide (x = y) = false) (q : Q (.bl true) H) : rNe x y H Q := ⟨h, by rw [e]; exact q⟩
theorem x_neI {i j : Int} (q : Q (.bl (!decide (i = j))) H) : rNe (.int i) (.int j) H Q := ⟨rfl, by
  have e : decide (V.int i = V.int j) = decide (i = j) := decide_eq_decide.mpr ⟨fun z => by cases z; rfl, fun z => by rw [z]⟩
  rw [e]; exact q⟩
theorem x_neS {i j : Str} (q : Q (.bl (!decide (i = j))) H) : rNe (.str i) (.str j) H Q := ⟨rfl, by
  have e : decide (V.str i = V.str j) = decide (i = j) := decide_eq_decide.mpr ⟨fun z => by cases z; rfl, fun z => by rw [z]⟩
  rw [e]; exact q⟩
theorem dps_strs : ∀ {ss : List Str} {xs : List V}, DpAll K H xs (ss.map PyData.str) → xs = ss.map V.str
  | [], _, h => by cases h; rfl
  | s :: ss, _, h => by
    cases h with
    | cons q r =>
      cases q
      rw [dps_strs r]
      rfl
theorem dps_ints : ∀ {ss : List Int} {xs : List V}, DpAll K H xs (ss.map PyData.int) → xs = ss.map V.int
  | [], _, h => by cases h; rfl
  | s :: ss, _, h => by
    cases h with
    | cons q r =>
      cases q
      rw [dps_ints r]
      rfl
theorem ints_dps : ∀ (ss : List Int), DpAll K H (ss.map V.int) (ss.map PyData.int)
  | [] => .nil
  | _ :: ss => .cons (.int _) (ints_dps ss)
theorem bls_dps : ∀ (ss : List Bool), DpAll K H (ss.map V.bl) (ss.map PyData.bool)
  | [] => .nil
  | _ :: ss => .cons (.bl _) (bls_dps ss)
theorem dps_bls : ∀ {ss : List Bool} {xs : List V}, DpAll K H xs (ss.map PyData.bool) → xs = ss.map V.bl
  | [], _, h => by cases h; rfl
  | s :: ss, _, h => by
    cases h with
    | cons q r =>
      cases q
      rw [dps_bls r]
      rfl
theorem inV_strs (s : Str) : ∀ ss : List Str, inV (.str s) (ss.map V.str) = ss.contains s
  | [] => rfl
  | t :: ss => by
    have ih := inV_strs s ss
    have e : eqV (.str t) (.str s) = (s == t) := by
      have q : eqV (.str t) (.str s) = (t == s) := rfl
      rw [q]
      by_cases h : s = t
      · subst h
        rfl
      · exact (beq_eq_false_iff_ne.mpr fun z => h z.symm).trans (beq_eq_false_iff_ne.mpr h).symm
    show (eqV (.str t) (.str s) || inV (.str s) (ss.map V.str)) = _
    rw [ih, e, List.contains_cons]
theorem flat_strs (ss : List Str) : (ss.map V.str).all flatV = true := by
  rw [List.all_eq_true]
  intro x hx
  obtain ⟨s, _, rfl⟩ := List.mem_map.mp hx
  rfl
theorem x_in {neg : Bool} {s : Str} {ds : List PyData} {ss : List Str} (h : Dp K H y (.tuple ds) ∨ Dp K H y (.list ds)) (e : ds = ss.map PyData.str) (b : Bool) (hb : ss.contains s = b) (q : Q (.bl (if neg = true then !b else b)) H) : rIn K neg (.str s) y H Q := by
  subst e hb
  have key : ∀ p xs, (SqL K H p xs ∨ SqT K H p xs) → y = .ref p → DpAll K H xs (ss.map PyData.str) → rIn K neg (.str s) y H Q := fun p xs h1 h2 h3 => by
    obtain rfl := dps_strs h3
    refine ⟨p, ss.map V.str, h2, h1, rfl, flat_strs ss, ?_⟩
    rw [inV_strs]
    exact q
  rcases h with h | h
  · obtain ⟨a, xs, e1, e2, e3⟩ := Dp.tup_inv h
    exact key a xs (.inr e2) e1 e3
  · obtain ⟨a, xs, e1, e2, e3⟩ := Dp.lst_inv h
    exact key a xs (.inl e2) e1 e3
def unS : List PyData → List Str
  | .str s :: r => s :: unS r
  | _ => []
theorem x_inT {s : Str} {ds : List PyData} (h : Dp K H y (.tuple ds)) (e : ds = (unS ds).map PyData.str) (hb : (unS ds).contains s = true) (q : Q (.bl true) H) : rIn K false (.str s) y H Q := x_in (.inl h) e true hb q
theorem x_inF {s : Str} {ds : List PyData} (h : Dp K H y (.tuple ds)) (e : ds = (unS ds).map PyData.str) (hb : (unS ds).contains s = false) (q : Q (.bl false) H) : rIn K false (.str s) y H Q := x_in (.inl h) e false hb q
theorem x_niT {s : Str} {ds : List PyData} (h : Dp K H y (.tuple ds)) (e : ds = (unS ds).map PyData.str) (hb : (unS ds).contains s = true) (q : Q (.bl false) H) : rIn K true (.str s) y H Q := x_in (.inl h) e true hb q
theorem x_niF {s : Str} {ds : List PyData} (h : Dp K H y (.tuple ds)) (e : ds = (unS ds).map PyData.str) (hb : (unS ds).contains s = false) (q : Q (.bl true) H) : rIn K true (.str s) y H Q := x_in (.inl h) e false hb q
/-! globals -/
def tDat (K : PySem.W.Frag) (d : PyData) : TE := fun _ H Q => ∀ v, Dp K H v d → Q v H
theorem pe_gdat {X : Cx} {x : Str} {d : PyData} {pos : Pos} (h : ∃ a, X.mg x = some (.ref a) ∧ ∀ H, Dp X.K H (.ref a) d) (hg : Gl X x := by rfl) (hd : (x == ("__debug__" : Str)) = false := by decide) : PE X (.Name x pos) (tDat X.K d) := by
  obtain ⟨a, h1, h2⟩ := h
  have p : PE X (.Name x pos) (tC (.ref a)) := pe_glob hg h1 rfl hd
  exact ⟨fun pins s σ H Q I q => p.run pins s σ H Q I (q _ (h2 H))⟩
def tKd (P : Addr → Prop) : TE := fun _ H Q => ∀ a, P a → Q (.ref a) H
theorem pe_gkd {X : Cx} {x : Str} {P : Addr → Prop} {pos : Pos} (h : ∃ a, X.mg x = some (.ref a) ∧ P a) (hg : Gl X x := by rfl) (hd : (x == ("__debug__" : Str)) = false := by decide) : PE X (.Name x pos) (tKd P) := by
  obtain ⟨a, h1, h2⟩ := h
  have p : PE X (.Name x pos) (tC (.ref a)) := pe_glob hg h1 rfl hd
  exact ⟨fun pins s σ H Q I q => p.run pins s σ H Q I (q _ h2)⟩
theorem x_dat {d : PyData} (q : ∀ v, Dp K H v d → Q v H) : tDat K d σ H Q := q
theorem x_kd {P : Addr → Prop} (q : ∀ a, P a → Q (.ref a) H) : tKd P σ H Q := q
theorem x_ixKD {w : World} {p : Addr} {z : Str} {u : V} (h : KDct K w p z u) (q : Q u H) : rIxD K w (.ref p) (.str z) H Q := ⟨p, z, u, rfl, rfl, h, q⟩
/-! builtins over data -/
theorem x_yes {QB : Bool → Hp → Prop} (q : QB true H) : tYes σ H QB := q
theorem x_listT {ds : List PyData} (h : Dp K H v (.tuple ds) ∨ Dp K H v (.list ds)) (q : ∀ l xs H', Ex H H' → H l = none → H' l = some (.lst xs) → DpAll K H' xs ds → Q (.ref l) H') :
    ∃ p ys, [v] = [V.ref p] ∧ (SqL K H p ys ∨ SqT K H p ys) ∧ ∀ l, H l = none → Q (.ref l) (upd H l (.lst ys)) := by
  rcases h with h | h
  · obtain ⟨a, xs, rfl, e2, e3⟩ := Dp.tup_inv h
    exact ⟨a, xs, rfl, .inr e2, fun l hl => q l xs _ (R.new hl) hl upd_same (R.xps (R.new hl) _ _ e3)⟩
  · obtain ⟨a, xs, rfl, e2, e3⟩ := Dp.lst_inv h
    exact ⟨a, xs, rfl, .inl e2, fun l hl => q l xs _ (R.new hl) hl upd_same (R.xps (R.new hl) _ _ e3)⟩
theorem x_sumD {ns : List Int} (h : Dp K H v (.list (ns.map PyData.int))) (q : Q (.int ns.sum) H) : rSum K [v] H Q := by
  obtain ⟨a, xs, rfl, e2, e3⟩ := Dp.lst_inv h
  obtain rfl := dps_ints e3
  exact ⟨a, ns, rfl, e2, q⟩
theorem x_allD {ns : List Bool} (h : Dp K H v (.list (ns.map PyData.bool))) (q : Q (.bl (ns.all id)) H) : rAll K [v] H Q := by
  obtain ⟨a, xs, rfl, e2, e3⟩ := Dp.lst_inv h
  obtain rfl := dps_bls e3
  exact ⟨a, ns, rfl, e2, q⟩
theorem x_anyD {ns : List Bool} (h : Dp K H v (.list (ns.map PyData.bool))) (q : Q (.bl (ns.any id)) H) : rAny K [v] H Q := by
  obtain ⟨a, xs, rfl, e2, e3⟩ := Dp.lst_inv h
  obtain rfl := dps_bls e3
  exact ⟨a, ns, rfl, e2, q⟩
theorem x_minD {ns : List Int} (h : Dp K H v (.list (ns.map PyData.int))) (h0 : 0 < ns.length) (q : ∀ m, m ∈ ns → (∀ y, y ∈ ns → m ≤ y) → Q (.int m) H) : rMin K [v] H Q := by
  obtain ⟨a, xs, rfl, e2, e3⟩ := Dp.lst_inv h
  obtain rfl := dps_ints e3
  exact ⟨a, ns, rfl, e2, h0, q⟩
theorem x_maxD {ns : List Int} (h : Dp K H v (.list (ns.map PyData.int))) (h0 : 0 < ns.length) (q : ∀ m, m ∈ ns → (∀ y, y ∈ ns → y ≤ m) → Q (.int m) H) : rMax K [v] H Q := by
  obtain ⟨a, xs, rfl, e2, e3⟩ := Dp.lst_inv h
  obtain rfl := dps_ints e3
  exact ⟨a, ns, rfl, e2, h0, q⟩
end
section
variable {K : PySem.W.Frag} {H : Hp} {vs : List V} {d d1 d2 d3 : PyData}
theorem _root_.L2.DpAll.inv0 (h : DpAll K H vs []) : vs = [] := by cases h; rfl
theorem _root_.L2.DpAll.inv1 (h : DpAll K H vs [d]) : ∃ v, vs = [v] ∧ Dp K H v d := by
  cases h with
  | cons q r => cases r; exact ⟨_, rfl, q⟩
theorem _root_.L2.DpAll.inv2 (h : DpAll K H vs [d, d1]) : ∃ v w, vs = [v, w] ∧ Dp K H v d ∧ Dp K H w d1 := by
  cases h with
  | cons q r =>
    obtain ⟨w, rfl, r2⟩ := DpAll.inv1 r
    exact ⟨_, _, rfl, q, r2⟩
theorem _root_.L2.DpAll.inv3 (h : DpAll K H vs [d, d1, d2]) : ∃ v w x, vs = [v, w, x] ∧ Dp K H v d ∧ Dp K H w d1 ∧ Dp K H x d2 := by
  cases h with
  | cons q r =>
    obtain ⟨w, x, rfl, r2⟩ := DpAll.inv2 r
    exact ⟨_, _, _, rfl, q, r2⟩
theorem _root_.L2.DpAll.inv4 (h : DpAll K H vs [d, d1, d2, d3]) : ∃ v w x y, vs = [v, w, x, y] ∧ Dp K H v d ∧ Dp K H w d1 ∧ Dp K H x d2 ∧ Dp K H y d3 := by
  cases h with
  | cons q r =>
    obtain ⟨w, x, y, rfl, r2⟩ := DpAll.inv3 r
    exact ⟨_, _, _, _, rfl, q, r2⟩
theorem spG_len {α : Type} {inp : α → List PyData} {pre : α → Prop} {out : α → PyData} {n : Nat} (h : ∀ a, (inp a).length = n) : ∀ vs H Q E, spG K inp pre out vs H Q E → vs.length = n := fun vs H Q E x => by
  obtain ⟨a, h1, _⟩ := x
  rw [h1.len, h a]
end
/-! ## comprehensions in short -/
def LcGo (g : TG) (tt : TT) (te : TE) (vs : List Nat) (σ : L2.St) (Q : VK) (J : It) (H1 : Hp) : Prop := ∀ D, H1 D = none → ∃ W : Nat → Nat → Hp → Prop, (∃ m, W 0 m (upd H1 D (.lst []))) ∧ ∀ i m H, W i m H →
  (J.stop i H ∧ Q (.ref D) H) ∨ (J.go i H ∧ ∃ Nx : Hp → Prop, (∀ H', Nx H' → ∃ m', m' < m ∧ W (i + 1) m' H') ∧ ∀ x H', J.yld i H x H' → g x (wipe σ vs) H' fun σ2 H2 => wipe σ2 vs = wipe σ vs ∧ tt σ2 H2 fun b H3 =>
    if b = true then te σ2 H3 fun y H4 => ∃ acc, H4 D = some (.lst acc) ∧ acc.length < sizeLine ∧ Nx (upd H4 D (.lst (acc ++ [y]))) else Nx H3)
section
variable {K : PySem.W.Frag} {J : It} {n : Nat} {M : List Addr} {H H1 : Hp} {yd : Nat → PyData} {v x : V} {σ : L2.St} {g : TG} {tt : TT} {te : TE} {vs : List Nat} {Q : VK} {wi : TI}
theorem x_lcE (q : wi σ H fun J H1 => LcGo g tt te vs σ Q J H1) : tLc wi g tt te vs σ H Q := q
theorem x_lcG (w : DWalk K J n M H1 yd) (hM : ∀ p ∈ M, H1 p ≠ none) (I : Nat → List PyData → Prop) (h0 : I 0 [])
    (hs : ∀ D i x es H' H2, i < n → LcS K M H1 I D i es H' → R M H' H2 → Dp K H2 x (yd i) → g x (wipe σ vs) H2 fun σ2 H2 => wipe σ2 vs = wipe σ vs ∧ tt σ2 H2 fun b H3 =>
      if b = true then te σ2 H3 fun z H4 => LcY K M H1 I D i z H4 else LcP K M H1 I D (i + 1) H3) (hd : ∀ es a acc H', I n es → R M H1 H' → H1 a = none → H' a = some (.lst acc) → DpAll K H' acc es → Q (.ref a) H') :
    LcGo g tt te vs σ Q J H1 := x_lc w hM I h0 hs hd
/-- without condition, nothing written: the i-th element is f i -/
theorem x_lcM (w : DWalk K J n [] H1 yd) (f : Nat → PyData) (hf : ∀ i, i < n → im (f i) = true) (hn : n ≤ 100000)
    (hs : ∀ (C : VK) i x H', i < n → Ex H1 H' → Dp K H' x (yd i) → (∀ z H4, Ex H' H4 → Dp K H4 z (f i) → C z H4) → g x (wipe σ vs) H' fun σ2 H2 => wipe σ2 vs = wipe σ vs ∧ te σ2 H2 C)
    (hd : ∀ a acc H', Ex H1 H' → H1 a = none → H' a = some (.lst acc) → DpAll K H' acc ((List.range n).map f) → Q (.ref a) H') : LcGo g tYes te vs σ Q J H1 := by
  refine x_lcG w (fun p hp => absurd hp (by simp)) (fun i es => i ≤ n ∧ es = (List.range i).map f) ⟨Nat.zero_le _, rfl⟩ (fun D i x es H' H2 hi S r hx => ?_) fun es a acc H' hI r h1 h2 h3 => ?_
  · have key := hs (fun z H4 => LcY K [] H1 (fun i es => i ≤ n ∧ es = (List.range i).map f) D i z H4) i x H2 hi (S.r.trans r) hx fun z H4 e hz => ?_
    · have eq : (fun (σ2 : L2.St) (H2 : Hp) => wipe σ2 vs = wipe σ vs ∧ tYes σ2 H2 fun b H3 => if b = true then te σ2 H3 fun z H4 => LcY K [] H1 (fun i es => i ≤ n ∧ es = (List.range i).map f) D i z H4 else LcP K [] H1 (fun i es => i ≤ n ∧ es = (List.range i).map f) D (i + 1) H3) =
          (fun σ2 H2 => wipe σ2 vs = wipe σ vs ∧ te σ2 H2 fun z H4 => LcY K [] H1 (fun i es => i ≤ n ∧ es = (List.range i).map f) D i z H4) := by
        funext σ2 H2
        exact congrArg (And _) (show (if true = true then (te σ2 H2 fun z H4 => LcY K [] H1 (fun i es => i ≤ n ∧ es = (List.range i).map f) D i z H4) else LcP K [] H1 (fun i es => i ≤ n ∧ es = (List.range i).map f) D (i + 1) H2) = _ from by simp)
      rw [eq]
      exact key
    · have e2 := S.inv.2
      have ee : es ++ [f i] = (List.range (i + 1)).map f := by rw [e2, List.range_succ, List.map_append]; rfl
      refine lcY S (r.trans e) hz ⟨hi, ee⟩ ?_ (Nat.lt_of_lt_of_le hi hn)
      rw [ee]
      refine ims_of fun d hd => ?_
      obtain ⟨j, hj, rfl⟩ := List.mem_map.mp hd
      exact hf j (Nat.lt_of_lt_of_le (List.mem_range.mp hj) hi)
  · rw [hI.2] at h3
    exact hd a acc H' r h1 h2 h3
theorem range_getD {α : Type} (xs : List α) (f : α → PyData) : (List.range xs.length).map (fun i => (xs[i]?.map f).getD .none) = xs.map f := by
  refine List.ext_getElem? fun i => ?_
  rw [List.getElem?_map, List.getElem?_map]
  by_cases h : i < xs.length
  · rw [List.getElem?_range h, List.getElem?_eq_getElem h]
    simp [h]
  · rw [List.getElem?_eq_none (by simpa using h), List.getElem?_eq_none (by simpa using h)]
    rfl
theorem getD_map {α : Type} {xs : List α} {enc : α → PyData} {i : Nat} {a : α} (e : xs[i]? = some a) : (xs.map enc).getD i .none = enc a := by
  rw [List.getD_eq_getElem?_getD, List.getElem?_map, e]
  rfl
/-- over a tuple of data -/
theorem x_lcT {α : Type} (xs : List α) (enc out : α → PyData) (h : Dp K H v (.tuple (xs.map enc))) (ho : ∀ a ∈ xs, im (out a) = true) (hn : xs.length ≤ 100000)
    (hs : ∀ (C : VK) a x H', a ∈ xs → Ex H H' → Dp K H' x (enc a) → (∀ z H4, Ex H' H4 → Dp K H4 z (out a) → C z H4) → g x (wipe σ vs) H' fun σ2 H2 => wipe σ2 vs = wipe σ vs ∧ te σ2 H2 C)
    (hd : ∀ a acc H', Ex H H' → H a = none → H' a = some (.lst acc) → DpAll K H' acc (xs.map out) → Q (.ref a) H') : ∃ a, v = V.ref a ∧ (∃ xs, SqT K H a xs) ∧ LcGo g tYes te vs σ Q (Itt K a) H := by
  obtain ⟨a, ws, rfl, hq, hda⟩ := Dp.tup_inv h
  have w := dw_tup (M := []) hq hda (.inl rfl)
  have el : (xs.map enc).length = xs.length := List.length_map ..
  rw [el] at w
  refine ⟨a, rfl, ⟨ws, hq⟩, x_lcM w (fun i => (xs[i]?.map out).getD .none) (fun i hi => ?_) hn (fun C i x H' hi e hx hC => ?_) fun a acc H' e h1 h2 h3 => ?_⟩
  · rw [List.getElem?_eq_getElem hi]
    exact ho _ (List.getElem_mem hi)
  · have ei := List.getElem?_eq_getElem hi
    rw [getD_map ei] at hx
    refine hs C xs[i] x H' (List.getElem_mem hi) e hx fun z H4 e4 hz => hC z H4 e4 ?_
    rw [ei]
    exact hz
  · rw [range_getD] at h3
    exact hd a acc H' e h1 h2 h3
theorem x_lcL {α : Type} (xs : List α) (enc out : α → PyData) (h : Dp K H v (.list (xs.map enc))) (ho : ∀ a ∈ xs, im (out a) = true) (hn : xs.length ≤ 100000)
    (hs : ∀ (C : VK) a x H', a ∈ xs → Ex H H' → Dp K H' x (enc a) → (∀ z H4, Ex H' H4 → Dp K H4 z (out a) → C z H4) → g x (wipe σ vs) H' fun σ2 H2 => wipe σ2 vs = wipe σ vs ∧ te σ2 H2 C)
    (hd : ∀ a acc H', Ex H H' → H a = none → H' a = some (.lst acc) → DpAll K H' acc (xs.map out) → Q (.ref a) H') : ∃ a, v = V.ref a ∧ (∃ xs, SqL K H a xs) ∧ LcGo g tYes te vs σ Q (Itl K a) H := by
  obtain ⟨a, ws, rfl, hq, hda⟩ := Dp.lst_inv h
  have w := dw_list (M := []) hq (by simp) hda (.inl rfl)
  have el : (xs.map enc).length = xs.length := List.length_map ..
  rw [el] at w
  refine ⟨a, rfl, ⟨ws, hq⟩, x_lcM w (fun i => (xs[i]?.map out).getD .none) (fun i hi => ?_) hn (fun C i x H' hi e hx hC => ?_) fun a acc H' e h1 h2 h3 => ?_⟩
  · rw [List.getElem?_eq_getElem hi]
    exact ho _ (List.getElem_mem hi)
  · have ei := List.getElem?_eq_getElem hi
    rw [getD_map ei] at hx
    refine hs C xs[i] x H' (List.getElem_mem hi) e hx fun z H4 e4 hz => hC z H4 e4 ?_
    rw [ei]
    exact hz
  · rw [range_getD] at h3
    exact hd a acc H' e h1 h2 h3
end
section
variable {K : PySem.W.Frag} {σ : L2.St} {H : Hp} {ta : TA} {te : TE} {R' : It → Hp → Prop}
theorem x_iET (q : ta σ H fun vs H1 => ∃ a xs, vs = [.ref a] ∧ SqT K H1 a xs ∧ R' (IteT K a) H1) : iEnumT K ta σ H R' := q
theorem x_iE (q : ta σ H fun vs H1 => ∃ a xs, vs = [.ref a] ∧ SqL K H1 a xs ∧ R' (Ite K a) H1) : iEnum K ta σ H R' := q
theorem x_iZM (q : ta σ H fun vs H1 => ∃ a b xs ys, vs = [.ref a, .ref b] ∧ SqL K H1 a xs ∧ SqT K H1 b ys ∧ R' (ItzM K a b) H1) : iZipM K ta σ H R' := q
theorem x_iR1 (q : ta σ H fun vs H1 => ∃ j : Int, vs = [.int j] ∧ -(2 ^ 62) ≤ j ∧ j < 2 ^ 62 ∧ R' (Itr 0 j.toNat) H1) : iRng1 ta σ H R' := q
end
/-! ## rules with the written part named -/
def rLenK (K : PySem.W.Frag) : List V → Hp → VK → Prop := fun xs H Q => ∃ p ys, xs = [.ref p] ∧ (SqL K H p ys ∨ SqT K H p ys) ∧ Q (.int ys.length) H
def rListK (K : PySem.W.Frag) : List V → Hp → VK → Prop := fun xs H Q => ∃ p ys, xs = [.ref p] ∧ (SqL K H p ys ∨ SqT K H p ys) ∧ ∀ l, H l = none → Q (.ref l) (upd H l (.lst ys))
def rTupleK (K : PySem.W.Frag) : List V → Hp → VK → Prop := fun xs H Q => ∃ p ys, xs = [.ref p] ∧ ((SqL K H p ys ∧ ∀ l, H l = none → Q (.ref l) (upd H l (.tup ys))) ∨ (SqT K H p ys ∧ Q (.ref p) H))
section
variable {X : Cx} {K : PySem.W.Frag}
theorem ix_tupK (h : X.K = K := by rfl) : IxR X (rIxT K) := by subst h; exact ix_tup
theorem ix_listK (h : X.K = K := by rfl) : IxR X (rIxL K) := by subst h; exact ix_list
theorem ix_kdictK {w : World} (h : X.K = K := by rfl) (hw : X.w = w := by rfl) : IxR X (rIxD K w) := by subst h hw; exact ix_kdict
theorem op_inK (h : X.K = K := by rfl) : OpR X (compareOp .In) (rIn K false) := by subst h; exact op_in_seq
theorem op_notInK (h : X.K = K := by rfl) : OpR X (compareOp .NotIn) (rIn K true) := by subst h; exact op_notIn_seq
theorem op_eqDK (hu : X.A.units + 64 < cLine) (h : X.K = K := by rfl) : OpR X (compareOp .Eq) (rEqD K) := by subst h; exact op_eqD hu
theorem op_neDK (hu : X.A.units + 64 < cLine) (h : X.K = K := by rfl) : OpR X (compareOp .NotEq) (rNeD K) := by subst h; exact op_neD hu
theorem op_catAK (h : X.K = K := by rfl) : OpR X (binaryOp .Add) (rCatA K) := by subst h; exact op_catA
theorem cr_sumK (hc : X.calm = true := by rfl) (h : X.K = K := by rfl) : CallR X (.builtin "sum") (rSum K) := by subst h; exact cr_sum hc
theorem cr_allK (hc : X.calm = true := by rfl) (h : X.K = K := by rfl) : CallR X (.builtin "all") (rAll K) := by subst h; exact cr_all hc
theorem cr_anyK (hc : X.calm = true := by rfl) (h : X.K = K := by rfl) : CallR X (.builtin "any") (rAny K) := by subst h; exact cr_any hc
theorem cr_minK (hc : X.calm = true := by rfl) (h : X.K = K := by rfl) : CallR X (.builtin "min") (rMin K) := by subst h; exact cr_min hc
theorem cr_maxK (hc : X.calm = true := by rfl) (h : X.K = K := by rfl) : CallR X (.builtin "max") (rMax K) := by subst h; exact cr_max hc
theorem call_lenK (h : X.K = K := by rfl) : CallR X (.builtin "len") (rLenK K) := by subst h; exact call_len_seq
theorem call_listK (h : X.K = K := by rfl) : CallR X (.type "list") (rListK K) := by subst h; exact call_list_of
theorem call_tupleK (h : X.K = K := by rfl) : CallR X (.type "tuple") (rTupleK K) := by subst h; exact call_tuple_of
theorem call_isiK (h : X.K = K := by rfl) : CallR X (.builtin "isinstance") (rIsi K) := by subst h; exact call_isi
theorem call_isiTK (h : X.K = K := by rfl) : CallR X (.builtin "isinstance") (rIsiT K) := by subst h; exact call_isiT
theorem cr_sortedK (h : X.K = K := by rfl) : CallR X (.builtin "sorted") (rSortedI K) := by subst h; exact cr_sortedI
theorem pe_gdatK {x : Str} {d : PyData} {pos : Pos} (h : ∃ a, X.mg x = some (.ref a) ∧ ∀ H, Dp K H (.ref a) d) (hk : X.K = K := by rfl) (hg : Gl X x := by rfl) (hd : (x == ("__debug__" : Str)) = false := by decide) : PE X (.Name x pos) (tDat K d) := by
  subst hk
  exact pe_gdat h hg hd
end
section
variable {K : PySem.W.Frag} {H : Hp} {v : V} {Q : VK} {ds : List PyData}
theorem x_lenT (h : Dp K H v (.tuple ds)) (q : Q (.int (ds.length : Int)) H) : rLenK K [v] H Q := by
  obtain ⟨a, vs, rfl, hs, hd⟩ := Dp.tup_inv h
  exact ⟨a, vs, rfl, .inr hs, by rw [hd.len]; exact q⟩
theorem x_lenL (h : Dp K H v (.list ds)) (q : Q (.int (ds.length : Int)) H) : rLenK K [v] H Q := by
  obtain ⟨a, vs, rfl, hs, hd⟩ := Dp.lst_inv h
  exact ⟨a, vs, rfl, .inl hs, by rw [hd.len]; exact q⟩
theorem x_lenR {p : Addr} {xs : List V} (h : H p = some (.lst xs)) (q : Q (.int (xs.length : Int)) H) : rLenK K [.ref p] H Q := ⟨p, xs, rfl, .inl (SqL.of h), q⟩
theorem x_listD (h : Dp K H v (.tuple ds) ∨ Dp K H v (.list ds)) (q : ∀ l xs H', Ex H H' → H l = none → H' l = some (.lst xs) → DpAll K H' xs ds → Q (.ref l) H') : rListK K [v] H Q := by
  rcases h with h | h
  · obtain ⟨a, xs, rfl, e2, e3⟩ := Dp.tup_inv h
    exact ⟨a, xs, rfl, .inr e2, fun l hl => q l xs _ (R.new hl) hl upd_same (R.xps (R.new hl) _ _ e3)⟩
  · obtain ⟨a, xs, rfl, e2, e3⟩ := Dp.lst_inv h
    exact ⟨a, xs, rfl, .inl e2, fun l hl => q l xs _ (R.new hl) hl upd_same (R.xps (R.new hl) _ _ e3)⟩
theorem x_tupleD (h : Dp K H v (.tuple ds) ∨ Dp K H v (.list ds)) (q : ∀ u H', Ex H H' → Dp K H' u (.tuple ds) → Q u H') : rTupleK K [v] H Q := by
  rcases h with h | h
  · obtain ⟨a, xs, rfl, e2, e3⟩ := Dp.tup_inv h
    exact ⟨a, xs, rfl, .inr ⟨e2, q _ _ (R.refl _) (.tup e2 e3)⟩⟩
  · obtain ⟨a, xs, rfl, e2, e3⟩ := Dp.lst_inv h
    exact ⟨a, xs, rfl, .inl ⟨e2, fun l hl => q _ _ (R.new hl) (dp_tup upd_same (R.xps (R.new hl) _ _ e3))⟩⟩
end
def rIxS (K : PySem.W.Frag) : R2 := fun x y H Q => rIxT K x y H Q ∨ rIxL K x y H Q
def rInt1 : List V → Hp → VK → Prop := fun xs H Q => (∃ i, xs = [.int i] ∧ Q (.int i) H) ∨ ∃ k, xs = [.bl k] ∧ Q (.int (if k then 1 else 0)) H
def rAbs1 : List V → Hp → VK → Prop := fun xs H Q => ∃ i, xs = [.int i] ∧ Q (.int (if i < 0 then -i else i)) H
theorem call_int1K {X : Cx} : CallR X (.type "int") rInt1 := call_int1
theorem call_absK {X : Cx} : CallR X (.builtin "abs") rAbs1 := call_abs
theorem ix_seqK {X : Cx} {K : PySem.W.Frag} (h : X.K = K := by rfl) : IxR X (rIxS K) := by
  subst h
  intro value slice pins s σ H x y v u Q I rx ry h hs
  rcases h with h | h
  · exact ix_tup value slice pins s σ H x y v u Q I rx ry h hs
  · exact ix_list value slice pins s σ H x y v u Q I rx ry h hs
section
variable {K : PySem.W.Frag} {H : Hp} {v x y : V} {Q : VK} {ds : List PyData} {σ : L2.St}
theorem x_int1 {i : Int} (q : Q (.int i) H) : rInt1 [.int i] H Q := .inl ⟨i, rfl, q⟩
theorem x_abs {i : Int} (q : Q (.int (if i < 0 then -i else i)) H) : rAbs1 [.int i] H Q := ⟨i, rfl, q⟩
theorem x_ixS {i : Int} {d : PyData} (h : Dp K H v (.tuple ds) ∨ Dp K H v (.list ds)) (e : atI ds i = some d) (q : ∀ w, Dp K H w d → Q w H) : rIxS K v (.int i) H Q := by
  rcases h with h | h
  · exact .inl (x_ixT h e q)
  · exact .inr (x_ixL h e q)
theorem x_whE {t : TT} {ts : TS} {D : Ends} (q : ∃ W : Nat → L2.St → Hp → Prop, (∃ m, W m σ H) ∧ ∀ m σ H, W m σ H → t σ H fun b H1 => if b = true then ∃ N : L2.St → Hp → Prop, (∀ σ' H', N σ' H' → ∃ m', m' < m ∧ W m' σ' H') ∧ ts { D with nx := N, ct := N, bk := D.nx } σ H1 else D.nx σ H1) : tWhile t ts D σ H := q
theorem x_parE {i j : Nat} {ta : TA} {D : Ends} (q : ta σ H fun vs H1 => ∃ v w, vs = [v, w] ∧ D.nx ((σ.set i (some v)).set j (some w)) H1) : tPar i j ta D σ H := q
theorem x_par2 {v w : V} {N : V → V → Prop} (q : N v w) : ∃ a b, [v, w] = [a, b] ∧ N a b := ⟨v, w, rfl, q⟩
end
theorem x_ifdT {c : Prop} [Decidable c] {A B : Prop} (h : c) (q : A) : if decide c = true then A else B := by rw [decide_eq_true h, if_pos rfl]; exact q
theorem x_ifdF {c : Prop} [Decidable c] {A B : Prop} (h : ¬ c) (q : B) : if decide c = true then A else B := by rw [decide_eq_false h, if_neg (by simp)]; exact q
theorem x_ifnT {c : Prop} [Decidable c] {A B : Prop} (h : c) (q : B) : if (!decide c) = true then A else B := by rw [decide_eq_true h]; exact (if_neg (by simp)).mpr q
theorem x_ifnF {c : Prop} [Decidable c] {A B : Prop} (h : ¬ c) (q : A) : if (!decide c) = true then A else B := by rw [decide_eq_false h]; exact (if_pos rfl).mpr q
/-- data of constants -/
def DpC (H : Hp) (v : V) (d : PyData) : Prop := ∀ K, Dp K H v d
theorem DpC.dp {K : PySem.W.Frag} {H : Hp} {v : V} {d : PyData} (h : DpC H v d) : Dp K H v d := h K
@[reducible] def cd1 : V → PyData
  | .int i => .int i
  | .str s => .str s
  | .bl b => .bool b
  | _ => .none
@[reducible] def cds : List V → List PyData
  | [] => []
  | x :: xs => cd1 x :: cds xs
def cst : List V → Bool
  | [] => true
  | .int _ :: r => cst r
  | .str _ :: r => cst r
  | .bl _ :: r => cst r
  | .non :: r => cst r
  | _ :: _ => false
theorem cst_dp {H : Hp} {K : PySem.W.Frag} : ∀ {xs : List V}, cst xs = true → DpAll K H xs (cds xs)
  | [], _ => .nil
  | .int _ :: r, h => .cons (.int _) (cst_dp (xs := r) h)
  | .str _ :: r, h => .cons (.str _) (cst_dp (xs := r) h)
  | .bl _ :: r, h => .cons (.bl _) (cst_dp (xs := r) h)
  | .non :: r, h => .cons .non (cst_dp (xs := r) h)
  | .ref _ :: _, h => by cases h
theorem x_tupC {H : Hp} {Q : VK} {xs : List V} (h : cst xs = true) (hl : xs.length ≤ 100000) (q : ∀ v H', Ex H H' → DpC H' v (.tuple (cds xs)) → Q v H') : TupK Q xs H :=
  ⟨Nat.le_trans hl (by decide), fun p hp => q _ _ (R.new hp) fun K => dp_tup upd_same (R.xps (R.new hp) _ _ (cst_dp h))⟩
theorem x_lstC {H : Hp} {Q : VK} {xs : List V} (h : cst xs = true) (hl : xs.length ≤ 100000) (q : ∀ l H', Ex H H' → H l = none → H' l = some (.lst xs) → DpC H' (.ref l) (.list (cds xs)) → Q (.ref l) H') : LstK Q xs H :=
  ⟨Nat.le_trans hl (by decide), fun p hp => q _ _ (R.new hp) hp upd_same fun K => dp_lst upd_same (R.xps (R.new hp) _ _ (cst_dp h))⟩
/-- a list that is not the pot -/
def LsV (K : PySem.W.Frag) (H : Hp) (p : Addr) (v : V) (ds : List PyData) : Prop := Dp K H v (.list ds) ∧ v ≠ .ref p ∧ ims ds = true
theorem LsV.r {K : PySem.W.Frag} {H H' : Hp} {p : Addr} {v : V} {ds : List PyData} (h : LsV K H p v ds) (e : R [p] H H') : LsV K H' p v ds := by
  obtain ⟨h1, h2, h3⟩ := h
  obtain ⟨a, xs, rfl, q1, q2⟩ := Dp.lst_inv h1
  exact ⟨.lst (e.sql (by simpa using fun z => h2 (by rw [z])) q1) (R.dps e _ _ h3 q2), h2, h3⟩
theorem x_gsub {to ti : TE} {t : TSet} {v : V} {σ : L2.St} {H : Hp} {N : L2.St → Hp → Prop} (q : to σ H fun o H1 => ti σ H1 fun i H2 => t o i v H2 fun H3 => N σ H3) : gSub to ti t v σ H N := q
theorem x_setL {p : Addr} {xs : List V} {k : Int} {j : Nat} {v : V} {H : Hp} {N : Hp → Prop} (h : H p = some (.lst xs)) (e : ixN xs.length k = some j) (q : N (upd H p (.lst (xs.set j v)))) : rSetL (.ref p) (.int k) v H N := ⟨p, xs, k, j, rfl, rfl, h, e, q⟩
end Lay

/-! ### text Tx -/
namespace K85
open PySem PySem.Spec PyProof.Rows L2 Lay
def top (i : Nat) : Stmt := PySem.Challenge.pw_defended_k85_whole_matches_by_hand.main.body.getD i (.Pass ⟨0, 0, 0, 0⟩)
abbrev s_InvalidDefence___init__ : Stmt := inClass (top 3) 0
theorem sc_InvalidDefence___init__ : FnScope ["self", "value"] ["self", "value"] (defScope s_InvalidDefence___init__) := ⟨rfl, rfl, rfl, by decide +kernel, rfl, by decide +kernel, by decide +kernel⟩
abbrev s_InvalidNumbers___init__ : Stmt := inClass (top 4) 0
theorem sc_InvalidNumbers___init__ : FnScope ["self", "value"] ["self", "value"] (defScope s_InvalidNumbers___init__) := ⟨rfl, rfl, rfl, by decide +kernel, rfl, by decide +kernel, by decide +kernel⟩
abbrev s_is_integer : Stmt := top 8
theorem sc_is_integer : FnScope ["value"] ["value"] (defScope s_is_integer) := ⟨rfl, rfl, rfl, by decide +kernel, rfl, by decide +kernel, by decide +kernel⟩
abbrev s_is_count : Stmt := top 9
theorem sc_is_count : FnScope ["value"] ["value"] (defScope s_is_count) := ⟨rfl, rfl, rfl, by decide +kernel, rfl, by decide +kernel, by decide +kernel⟩
abbrev s_is_list : Stmt := top 10
theorem sc_is_list : FnScope ["value"] ["value"] (defScope s_is_list) := ⟨rfl, rfl, rfl, by decide +kernel, rfl, by decide +kernel, by decide +kernel⟩
abbrev s_are_numbers : Stmt := top 13
theorem sc_are_numbers : FnScope ["value", "many", "one"] ["value", "many"] (defScope s_are_numbers) := ⟨rfl, rfl, rfl, by decide +kernel, rfl, by decide +kernel, by decide +kernel⟩
abbrev s_worth : Stmt := top 15
theorem sc_worth : FnScope ["linear", "values", "total", "v", "many"] ["linear", "values"] (defScope s_worth) := ⟨rfl, rfl, rfl, by decide +kernel, rfl, by decide +kernel, by decide +kernel⟩
abbrev s_is_linear : Stmt := top 16
theorem sc_is_linear : FnScope ["value", "part", "near", "far", "one"] ["value"] (defScope s_is_linear) := ⟨rfl, rfl, rfl, by decide +kernel, rfl, by decide +kernel, by decide +kernel⟩
abbrev s_is_number : Stmt := top 17
theorem sc_is_number : FnScope ["value"] ["value"] (defScope s_is_number) := ⟨rfl, rfl, rfl, by decide +kernel, rfl, by decide +kernel, by decide +kernel⟩
abbrev s_atom_holds : Stmt := top 26
theorem sc_atom_holds : FnScope ["atom", "values", "told"] ["atom", "values"] (defScope s_atom_holds) := ⟨rfl, rfl, rfl, by decide +kernel, rfl, by decide +kernel, by decide +kernel⟩
abbrev s_holds : Stmt := top 27
theorem sc_holds : FnScope ["formula", "values", "told", "one"] ["formula", "values"] (defScope s_holds) := ⟨rfl, rfl, rfl, by decide +kernel, rfl, by decide +kernel, by decide +kernel⟩
abbrev s_is_near : Stmt := top 38
theorem sc_is_near : FnScope ["value"] ["value"] (defScope s_is_near) := ⟨rfl, rfl, rfl, by decide +kernel, rfl, by decide +kernel, by decide +kernel⟩
abbrev s_is_sum : Stmt := top 39
theorem sc_is_sum : FnScope ["value", "many", "v", "one"] ["value", "many"] (defScope s_is_sum) := ⟨rfl, rfl, rfl, by decide +kernel, rfl, by decide +kernel, by decide +kernel⟩
abbrev s_is_divisor : Stmt := top 40
theorem sc_is_divisor : FnScope ["value"] ["value"] (defScope s_is_divisor) := ⟨rfl, rfl, rfl, by decide +kernel, rfl, by decide +kernel, by decide +kernel⟩
abbrev s_is_atom : Stmt := top 41
theorem sc_is_atom : FnScope ["value", "many"] ["value", "many"] (defScope s_is_atom) := ⟨rfl, rfl, rfl, by decide +kernel, rfl, by decide +kernel, by decide +kernel⟩
abbrev s_is_bare_formula : Stmt := top 42
theorem sc_is_bare_formula : FnScope ["value", "many", "left", "one", "depth", "part"] ["value", "many"] (defScope s_is_bare_formula) := ⟨rfl, rfl, rfl, by decide +kernel, rfl, by decide +kernel, by decide +kernel⟩
abbrev s_is_value : Stmt := top 43
theorem sc_is_value : FnScope ["value", "many", "one"] ["value", "many"] (defScope s_is_value) := ⟨rfl, rfl, rfl, by decide +kernel, rfl, by decide +kernel, by decide +kernel⟩
abbrev s_is_piece : Stmt := top 44
theorem sc_is_piece : FnScope ["value", "many"] ["value", "many"] (defScope s_is_piece) := ⟨rfl, rfl, rfl, by decide +kernel, rfl, by decide +kernel, by decide +kernel⟩
abbrev s_own_variables : Stmt := top 45
theorem sc_own_variables : FnScope ["prenex", "side", "at", "kind"] ["prenex", "side"] (defScope s_own_variables) := ⟨rfl, rfl, rfl, by decide +kernel, rfl, by decide +kernel, by decide +kernel⟩
abbrev s_has_form : Stmt := top 46
theorem sc_has_form : FnScope ["prenex", "value", "own", "one", "plan", "v"] ["prenex", "value"] (defScope s_has_form) := ⟨rfl, rfl, rfl, by decide +kernel, rfl, by decide +kernel, by decide +kernel⟩
abbrev s_matrix_holds : Stmt := top 48
theorem sc_matrix_holds : FnScope ["form", "numbers"] ["form", "numbers"] (defScope s_matrix_holds) := ⟨rfl, rfl, rfl, by decide +kernel, rfl, by decide +kernel, by decide +kernel⟩
abbrev s_divided : Stmt := top 52
theorem sc_divided : FnScope ["number", "by"] ["number", "by"] (defScope s_divided) := ⟨rfl, rfl, rfl, by decide +kernel, rfl, by decide +kernel, by decide +kernel⟩
abbrev s_value_at : Stmt := top 53
theorem sc_value_at : FnScope ["value", "values", "told", "bound", "kind", "some", "rest", "period", "by", "one"] ["value", "values"] (defScope s_value_at) := ⟨rfl, rfl, rfl, by decide +kernel, rfl, by decide +kernel, by decide +kernel⟩
abbrev s_piece_at : Stmt := top 54
theorem sc_piece_at : FnScope ["plan", "values", "at", "guard", "value"] ["plan", "values"] (defScope s_piece_at) := ⟨rfl, rfl, rfl, by decide +kernel, rfl, by decide +kernel, by decide +kernel⟩
abbrev s_told_by : Stmt := top 55
theorem sc_told_by : FnScope ["plan", "values"] ["plan", "values"] (defScope s_told_by) := ⟨rfl, rfl, rfl, by decide +kernel, rfl, by decide +kernel, by decide +kernel⟩
abbrev s_want_played : Stmt := top 58
theorem sc_want_played : FnScope ["prenex", "defence", "plan"] ["prenex", "defence"] (defScope s_want_played) := ⟨rfl, rfl, rfl, by decide +kernel, rfl, by decide +kernel, by decide +kernel⟩
abbrev s_want_answers : Stmt := top 59
theorem sc_want_answers : FnScope ["prenex", "side", "answers"] ["prenex", "side", "answers"] (defScope s_want_answers) := ⟨rfl, rfl, rfl, by decide +kernel, rfl, by decide +kernel, by decide +kernel⟩
abbrev s_told_number : Stmt := top 60
theorem sc_told_number : FnScope ["plan", "numbers", "number"] ["plan", "numbers"] (defScope s_told_number) := ⟨rfl, rfl, rfl, by decide +kernel, rfl, by decide +kernel, by decide +kernel⟩
abbrev s_plans_by_variable : Stmt := top 61
theorem sc_plans_by_variable : FnScope ["prenex", "defence"] ["prenex", "defence"] (defScope s_plans_by_variable) := ⟨rfl, rfl, rfl, by decide +kernel, rfl, by decide +kernel, by decide +kernel⟩
abbrev s_all_numbers : Stmt := top 62
theorem sc_all_numbers : FnScope ["prenex", "plans", "answers", "v", "found", "left"] ["prenex", "plans", "answers"] (defScope s_all_numbers) := ⟨rfl, rfl, rfl, by decide +kernel, rfl, by decide +kernel, by decide +kernel⟩
abbrev s_played : Stmt := top 63
theorem sc_played : FnScope ["prenex", "defence", "answers"] ["prenex", "defence", "answers"] (defScope s_played) := ⟨rfl, rfl, rfl, by decide +kernel, rfl, by decide +kernel, by decide +kernel⟩
abbrev s_Match___init__ : Stmt := inClass (top 64) 0
theorem sc_Match___init__ : FnScope ["self", "prenex", "defence"] ["self", "prenex", "defence"] (defScope s_Match___init__) := ⟨rfl, rfl, rfl, by decide +kernel, rfl, by decide +kernel, by decide +kernel⟩
abbrev s_Match_numbers : Stmt := inClass (top 64) 1
theorem sc_Match_numbers : FnScope ["self"] ["self"] (defScope s_Match_numbers) := ⟨rfl, rfl, rfl, by decide +kernel, rfl, by decide +kernel, by decide +kernel⟩
abbrev s_Match_is_over : Stmt := inClass (top 64) 2
theorem sc_Match_is_over : FnScope ["self"] ["self"] (defScope s_Match_is_over) := ⟨rfl, rfl, rfl, by decide +kernel, rfl, by decide +kernel, by decide +kernel⟩
abbrev s_Match_turn : Stmt := inClass (top 64) 3
theorem sc_Match_turn : FnScope ["self", "kind"] ["self"] (defScope s_Match_turn) := ⟨rfl, rfl, rfl, by decide +kernel, rfl, by decide +kernel, by decide +kernel⟩
abbrev s_Match_go : Stmt := inClass (top 64) 4
theorem sc_Match_go : FnScope ["self"] ["self"] (defScope s_Match_go) := ⟨rfl, rfl, rfl, by decide +kernel, rfl, by decide +kernel, by decide +kernel⟩
abbrev s_Match_go_on : Stmt := inClass (top 64) 5
theorem sc_Match_go_on : FnScope ["self", "late", "many"] ["self"] (defScope s_Match_go_on) := ⟨rfl, rfl, rfl, by decide +kernel, rfl, by decide +kernel, by decide +kernel⟩
abbrev s_Match_say : Stmt := inClass (top 64) 6
theorem sc_Match_say : FnScope ["self", "number"] ["self", "number"] (defScope s_Match_say) := ⟨rfl, rfl, rfl, by decide +kernel, rfl, by decide +kernel, by decide +kernel⟩
abbrev s_Match_back : Stmt := inClass (top 64) 7
theorem sc_Match_back : FnScope ["self"] ["self"] (defScope s_Match_back) := ⟨rfl, rfl, rfl, by decide +kernel, rfl, by decide +kernel, by decide +kernel⟩
abbrev s_Match_winner : Stmt := inClass (top 64) 8
theorem sc_Match_winner : FnScope ["self"] ["self"] (defScope s_Match_winner) := ⟨rfl, rfl, rfl, by decide +kernel, rfl, by decide +kernel, by decide +kernel⟩
abbrev s__law_pot : Stmt := top 66
theorem sc__law_pot : FnScope ["script", "k", "cell"] ["script", "k"] (defScope s__law_pot) := ⟨rfl, rfl, rfl, by decide +kernel, rfl, by decide +kernel, by decide +kernel⟩
abbrev s__law_draw : Stmt := top 67
theorem sc__law_draw : FnScope ["pot", "many", "digit"] ["pot", "many"] (defScope s__law_draw) := ⟨rfl, rfl, rfl, by decide +kernel, rfl, by decide +kernel, by decide +kernel⟩
abbrev s__law_pick : Stmt := top 68
theorem sc__law_pick : FnScope ["pot", "some"] ["pot", "some"] (defScope s__law_pick) := ⟨rfl, rfl, rfl, by decide +kernel, rfl, by decide +kernel, by decide +kernel⟩
abbrev s__law_n : Stmt := top 69
theorem sc__law_n : FnScope ["number"] ["number"] (defScope s__law_n) := ⟨rfl, rfl, rfl, by decide +kernel, rfl, by decide +kernel, by decide +kernel⟩
abbrev s__law_v : Stmt := top 70
theorem sc__law_v : FnScope ["name"] ["name"] (defScope s__law_v) := ⟨rfl, rfl, rfl, by decide +kernel, rfl, by decide +kernel, by decide +kernel⟩
abbrev s__law_term : Stmt := top 71
theorem sc__law_term : FnScope ["pot", "names", "most", "term", "name", "times"] ["pot", "names", "most"] (defScope s__law_term) := ⟨rfl, rfl, rfl, by decide +kernel, rfl, by decide +kernel, by decide +kernel⟩
abbrev s__law_atom : Stmt := top 72
theorem sc__law_atom : FnScope ["pot", "names", "most"] ["pot", "names", "most"] (defScope s__law_atom) := ⟨rfl, rfl, rfl, by decide +kernel, rfl, by decide +kernel, by decide +kernel⟩
abbrev s__law_bare : Stmt := top 73
theorem sc__law_bare : FnScope ["pot", "names", "most", "depth", "kind"] ["pot", "names", "most", "depth"] (defScope s__law_bare) := ⟨rfl, rfl, rfl, by decide +kernel, rfl, by decide +kernel, by decide +kernel⟩
abbrev s__law_sum : Stmt := top 74
theorem sc__law_sum : FnScope ["t", "known"] ["t", "known"] (defScope s__law_sum) := ⟨rfl, rfl, rfl, by decide +kernel, rfl, by decide +kernel, by decide +kernel⟩
abbrev s__law_made : Stmt := top 75
theorem sc__law_made : FnScope ["parts", "total", "sums", "linear", "times", "v", "many"] ["parts"] (defScope s__law_made) := ⟨rfl, rfl, rfl, by decide +kernel, rfl, by decide +kernel, by decide +kernel⟩
abbrev s__law_le : Stmt := top 76
theorem sc__law_le : FnScope ["near", "far", "add", "late"] ["near", "far", "add"] (defScope s__law_le) := ⟨rfl, rfl, rfl, by decide +kernel, rfl, by decide +kernel, by decide +kernel⟩
abbrev s__law_formula : Stmt := top 77
theorem sc__law_formula : FnScope ["f", "known", "is_denied", "next_one", "within", "inner", "late", "near", "far", "word", "add"] ["f", "known", "is_denied", "next_one"] (defScope s__law_formula) := ⟨rfl, rfl, rfl, by decide +kernel, rfl, by decide +kernel, by decide +kernel⟩
abbrev s__law_is_so : Stmt := top 78
theorem sc__law_is_so : FnScope ["formula", "numbers", "total", "told", "one", "v", "many"] ["formula", "numbers"] (defScope s__law_is_so) := ⟨rfl, rfl, rfl, by decide +kernel, rfl, by decide +kernel, by decide +kernel⟩
abbrev s__law_prenex : Stmt := top 79
theorem sc__law_prenex : FnScope ["pot", "many", "depth", "names", "tree", "matrix", "name", "at"] ["pot", "many", "depth"] (defScope s__law_prenex) := ⟨rfl, rfl, rfl, by decide +kernel, rfl, by decide +kernel, by decide +kernel⟩
abbrev s__law_linear : Stmt := top 80
theorem sc__law_linear : FnScope ["pot", "many", "some", "v"] ["pot", "many"] (defScope s__law_linear) := ⟨rfl, rfl, rfl, by decide +kernel, rfl, by decide +kernel, by decide +kernel⟩
abbrev s__law_guard : Stmt := top 81
theorem sc__law_guard : FnScope ["pot", "many", "kind"] ["pot", "many"] (defScope s__law_guard) := ⟨rfl, rfl, rfl, by decide +kernel, rfl, by decide +kernel, by decide +kernel⟩
abbrev s__law_value : Stmt := top 82
theorem sc__law_value : FnScope ["pot", "many", "kind", "period", "sums", "turn"] ["pot", "many"] (defScope s__law_value) := ⟨rfl, rfl, rfl, by decide +kernel, rfl, by decide +kernel, by decide +kernel⟩
abbrev s__law_plan : Stmt := top 83
theorem sc__law_plan : FnScope ["pot", "many", "pieces", "turn"] ["pot", "many"] (defScope s__law_plan) := ⟨rfl, rfl, rfl, by decide +kernel, rfl, by decide +kernel, by decide +kernel⟩
abbrev s__law_own : Stmt := top 84
theorem sc__law_own : FnScope ["form", "side", "at", "kind"] ["form", "side"] (defScope s__law_own) := ⟨rfl, rfl, rfl, by decide +kernel, rfl, by decide +kernel, by decide +kernel⟩
abbrev s__law_defence : Stmt := top 85
theorem sc__law_defence : FnScope ["pot", "form", "side", "v"] ["pot", "form", "side"] (defScope s__law_defence) := ⟨rfl, rfl, rfl, by decide +kernel, rfl, by decide +kernel, by decide +kernel⟩
abbrev s__law_total : Stmt := top 86
theorem sc__law_total : FnScope ["linear", "numbers", "v", "many"] ["linear", "numbers"] (defScope s__law_total) := ⟨rfl, rfl, rfl, by decide +kernel, rfl, by decide +kernel, by decide +kernel⟩
abbrev s__law_told : Stmt := top 87
theorem sc__law_told : FnScope ["plan", "numbers", "value", "number", "sums", "step", "formula", "late", "one"] ["plan", "numbers"] (defScope s__law_told) := ⟨rfl, rfl, rfl, by decide +kernel, rfl, by decide +kernel, by decide +kernel⟩
abbrev s__law_play : Stmt := top 88
theorem sc__law_play : FnScope ["form", "defence", "answers", "v", "plans", "found", "left", "number"] ["form", "defence", "answers"] (defScope s__law_play) := ⟨rfl, rfl, rfl, by decide +kernel, rfl, by decide +kernel, by decide +kernel⟩
abbrev s__law_rows : Stmt := top 89
theorem sc__law_rows : FnScope ["many", "low", "high", "found", "turn", "late", "row", "number"] ["many", "low", "high"] (defScope s__law_rows) := ⟨rfl, rfl, rfl, by decide +kernel, rfl, by decide +kernel, by decide +kernel⟩
abbrev s__law_heard : Stmt := top 90
theorem sc__law_heard : FnScope ["call", "e", "told"] ["call"] (defScope s__law_heard) := ⟨rfl, rfl, rfl, by decide +kernel, rfl, by decide +kernel, by decide +kernel⟩
abbrev s__law_next : Stmt := top 91
theorem sc__law_next : FnScope ["form", "plans", "gone", "number"] ["form", "plans", "gone"] (defScope s__law_next) := ⟨rfl, rfl, rfl, by decide +kernel, rfl, by decide +kernel, by decide +kernel⟩
abbrev s__law_looks : Stmt := top 92
theorem sc__law_looks : FnScope ["form", "match", "gone", "is_over", "turn", "winner"] ["form", "match", "gone"] (defScope s__law_looks) := ⟨rfl, rfl, rfl, by decide +kernel, rfl, by decide +kernel, by decide +kernel⟩
abbrev s__law_go_on : Stmt := top 93
theorem sc__law_go_on : FnScope ["form", "plans", "gone", "many", "told"] ["form", "plans", "gone"] (defScope s__law_go_on) := ⟨rfl, rfl, rfl, by decide +kernel, rfl, by decide +kernel, by decide +kernel⟩
abbrev s__law_match_right : Stmt := top 94
theorem sc__law_match_right : FnScope ["pot", "form", "defence", "plans", "turn", "match", "gone", "way", "due", "told", "late", "number", "is_let"] ["pot", "form", "defence"] (defScope s__law_match_right) := ⟨rfl, rfl, rfl, by decide +kernel, rfl, by decide +kernel, by decide +kernel⟩
abbrev s__law_whole_right : Stmt := top 95
theorem sc__law_whole_right : FnScope ["pot", "form", "defence", "match", "answers", "due", "number", "turn"] ["pot", "form", "defence"] (defScope s__law_whole_right) := ⟨rfl, rfl, rfl, by decide +kernel, rfl, by decide +kernel, by decide +kernel⟩
abbrev s__law_right : Stmt := top 96
theorem sc__law_right : FnScope ["pot", "form", "side"] ["pot"] (defScope s__law_right) := ⟨rfl, rfl, rfl, by decide +kernel, rfl, by decide +kernel, by decide +kernel⟩
abbrev s_law : Stmt := top 97
theorem sc_law : FnScope ["script", "k", "pot"] ["script"] (defScope s_law) := ⟨rfl, rfl, rfl, by decide +kernel, rfl, by decide +kernel, by decide +kernel⟩
/-- what the top leaves -/
structure Top (K : PySem.W.Frag) (w : World) (mg : Str → Option Value) : Prop where
  f_is_integer : Lay.IsDef K mg "is_integer" s_is_integer
  f_is_count : Lay.IsDef K mg "is_count" s_is_count
  f_is_list : Lay.IsDef K mg "is_list" s_is_list
  f_are_numbers : Lay.IsDef K mg "are_numbers" s_are_numbers
  f_worth : Lay.IsDef K mg "worth" s_worth
  f_is_linear : Lay.IsDef K mg "is_linear" s_is_linear
  f_is_number : Lay.IsDef K mg "is_number" s_is_number
  f_atom_holds : Lay.IsDef K mg "atom_holds" s_atom_holds
  f_holds : Lay.IsDef K mg "holds" s_holds
  f_is_near : Lay.IsDef K mg "is_near" s_is_near
  f_is_sum : Lay.IsDef K mg "is_sum" s_is_sum
  f_is_divisor : Lay.IsDef K mg "is_divisor" s_is_divisor
  f_is_atom : Lay.IsDef K mg "is_atom" s_is_atom
  f_is_bare_formula : Lay.IsDef K mg "is_bare_formula" s_is_bare_formula
  f_is_value : Lay.IsDef K mg "is_value" s_is_value
  f_is_piece : Lay.IsDef K mg "is_piece" s_is_piece
  f_own_variables : Lay.IsDef K mg "own_variables" s_own_variables
  f_has_form : Lay.IsDef K mg "has_form" s_has_form
  f_matrix_holds : Lay.IsDef K mg "matrix_holds" s_matrix_holds
  f_divided : Lay.IsDef K mg "divided" s_divided
  f_value_at : Lay.IsDef K mg "value_at" s_value_at
  f_piece_at : Lay.IsDef K mg "piece_at" s_piece_at
  f_told_by : Lay.IsDef K mg "told_by" s_told_by
  f_want_played : Lay.IsDef K mg "want_played" s_want_played
  f_want_answers : Lay.IsDef K mg "want_answers" s_want_answers
  f_told_number : Lay.IsDef K mg "told_number" s_told_number
  f_plans_by_variable : Lay.IsDef K mg "plans_by_variable" s_plans_by_variable
  f_all_numbers : Lay.IsDef K mg "all_numbers" s_all_numbers
  f_played : Lay.IsDef K mg "played" s_played
  f__law_pot : Lay.IsDef K mg "_law_pot" s__law_pot
  f__law_draw : Lay.IsDef K mg "_law_draw" s__law_draw
  f__law_pick : Lay.IsDef K mg "_law_pick" s__law_pick
  f__law_n : Lay.IsDef K mg "_law_n" s__law_n
  f__law_v : Lay.IsDef K mg "_law_v" s__law_v
  f__law_term : Lay.IsDef K mg "_law_term" s__law_term
  f__law_atom : Lay.IsDef K mg "_law_atom" s__law_atom
  f__law_bare : Lay.IsDef K mg "_law_bare" s__law_bare
  f__law_sum : Lay.IsDef K mg "_law_sum" s__law_sum
  f__law_made : Lay.IsDef K mg "_law_made" s__law_made
  f__law_le : Lay.IsDef K mg "_law_le" s__law_le
  f__law_formula : Lay.IsDef K mg "_law_formula" s__law_formula
  f__law_is_so : Lay.IsDef K mg "_law_is_so" s__law_is_so
  f__law_prenex : Lay.IsDef K mg "_law_prenex" s__law_prenex
  f__law_linear : Lay.IsDef K mg "_law_linear" s__law_linear
  f__law_guard : Lay.IsDef K mg "_law_guard" s__law_guard
  f__law_value : Lay.IsDef K mg "_law_value" s__law_value
  f__law_plan : Lay.IsDef K mg "_law_plan" s__law_plan
  f__law_own : Lay.IsDef K mg "_law_own" s__law_own
  f__law_defence : Lay.IsDef K mg "_law_defence" s__law_defence
  f__law_total : Lay.IsDef K mg "_law_total" s__law_total
  f__law_told : Lay.IsDef K mg "_law_told" s__law_told
  f__law_play : Lay.IsDef K mg "_law_play" s__law_play
  f__law_rows : Lay.IsDef K mg "_law_rows" s__law_rows
  f__law_heard : Lay.IsDef K mg "_law_heard" s__law_heard
  f__law_next : Lay.IsDef K mg "_law_next" s__law_next
  f__law_looks : Lay.IsDef K mg "_law_looks" s__law_looks
  f__law_go_on : Lay.IsDef K mg "_law_go_on" s__law_go_on
  f__law_match_right : Lay.IsDef K mg "_law_match_right" s__law_match_right
  f__law_whole_right : Lay.IsDef K mg "_law_whole_right" s__law_whole_right
  f__law_right : Lay.IsDef K mg "_law_right" s__law_right
  f_law : Lay.IsDef K mg "law" s_law
  c_GREATEST : ∃ t, mg "GREATEST" = some (.int 1000000000000000000 t)
  c_LE : ∃ t, mg "LE" = some (.str "le" t)
  c_INTO : ∃ t, mg "INTO" = some (.str "into" t)
  c_OFF : ∃ t, mg "OFF" = some (.str "off" t)
  c_AND : ∃ t, mg "AND" = some (.str "and" t)
  c_OR : ∃ t, mg "OR" = some (.str "or" t)
  c_ATOMS : ∃ a, mg "ATOMS" = some (.ref a) ∧ ∀ H, Dp K H (.ref a) (.tuple [.str "le", .str "into", .str "off"])
  c_YES : ∃ a, mg "YES" = some (.ref a) ∧ ∀ H, Dp K H (.ref a) (.tuple [.str "and", .tuple []])
  c_WORD : ∃ t, mg "WORD" = some (.str "defence" t)
  c_SIDES : ∃ a, mg "SIDES" = some (.ref a) ∧ ∀ H, Dp K H (.ref a) (.tuple [.str "yes", .str "no"])
  c_KINDS : ∃ a, mg "KINDS" = some (.ref a) ∧ KDct K w a "yes" (.str "some") ∧ KDct K w a "no" (.str "all")
  c_OVER_judge : ∃ t, mg "OVER_judge" = some (.str "over" t)
  c_LOW_judge : ∃ t, mg "LOW_judge" = some (.str "low" t)
  c_HIGH : ∃ t, mg "HIGH" = some (.str "high" t)
  c_MOST_DEEP : ∃ t, mg "MOST_DEEP" = some (.int 200 t)
  c_MOST_PIECES : ∃ t, mg "MOST_PIECES" = some (.int 400 t)
  c_FIGURES : ∃ t, mg "FIGURES" = some (.int (10 ^ 400) t)
  c_OVER_values : ∃ t, mg "OVER_values" = some (.str "over" t)
  c_LOW_values : ∃ t, mg "LOW_values" = some (.str "low" t)
  c_OTHER : ∃ a, mg "OTHER" = some (.ref a) ∧ KDct K w a "yes" (.str "no") ∧ KDct K w a "no" (.str "yes")
  b_abs : mg "abs" = none
  b_all : mg "all" = none
  b_any : mg "any" = none
  b_bool : mg "bool" = none
  b_dict : mg "dict" = none
  b_divmod : mg "divmod" = none
  b_enumerate : mg "enumerate" = none
  b_int : mg "int" = none
  b_isinstance : mg "isinstance" = none
  b_len : mg "len" = none
  b_list : mg "list" = none
  b_max : mg "max" = none
  b_min : mg "min" = none
  b_range : mg "range" = none
  b_repr : mg "repr" = none
  b_sorted : mg "sorted" = none
  b_str : mg "str" = none
  b_sum : mg "sum" = none
  b_tuple : mg "tuple" = none
  b_zip : mg "zip" = none
end K85

/-! ### text E0 -/
namespace K85
open PySem PySem.Spec PyProof.Rows L2 Lay
abbrev rtB : List Value := [.type "RuntimeError", .type "Exception", .type "BaseException", .type "object"]
/-- an own exception class over RuntimeError, without own __init__ -/
structure ExcOk (K : PySem.W.Frag) (mg : Str → Option Value) (x : Str) (C : Addr) : Prop where
  m : mg x = some (.ref C)
  q : PySem.W.excIn K C rtB "RuntimeError.__new__" = true
  k : PySem.W.keepIn K (.ref C) = true
  sub : PySem.W.subIn K (.ref C) (.type "BaseException") = some true
  ty : PySem.W.typeIn K (.ref C) = some (.type "type")
end K85

/-! ### text M1 -/
namespace Lay
open PySem PySem.Spec PyProof.Rows L2
/-! o.f as a target among others -/
def gFld (K : PySem.W.Frag) (ta : TE) (f : Str) : TG := fun v σ H N => ta σ H fun x H2 => ∃ a C dx fs, x = .ref a ∧ H2 a = some (.ins C dx fs) ∧ Cls K C ∧ NoAttr K C f ∧ fs.length < 1000 ∧ N σ (upd H2 a (.ins C dx (putF f v fs)))
theorem pg_fld {X : Cx} {o : Expr} {f : Str} {pos : Pos} {ta : TE} (ha : PE X o ta) : PG X (.Attribute o f pos) (gFld X.K ta f) := by
  refine ⟨fun pins s σ H v u Q I r h => ?_⟩
  refine PySem.W.kas_attr (thn (ha.run pins s σ H _ I h) fun ov s1 ⟨x, H1, I1, rx, a, C, dx, fs, ex, ea, c, n, l, q⟩ => ?_)
  subst ex
  obtain rfl : ov = Value.ref a := rx
  exact setattr_ok I1 ea c n l r fun s3 I3 => ⟨σ, _, I3, q⟩
/-! isinstance of a caught error of an own class, with or without fields -/
def rIsX (K : PySem.W.Frag) (a : Addr) (cls : Value) (d : Option Addr) : List V → Hp → VK → Prop := fun xs H Q => ∃ (D : Addr) (c : V) (cv : Value) (b : Bool), cls = .ref D ∧ ExcC K D ∧ (d = none ∨ ∃ dd fs, d = some dd ∧ H dd = some (.xd fs)) ∧ xs = [.ref a, c] ∧ (∀ u, RelV c u → u = cv) ∧
  PySem.W.kitOne K (.ref D) cv = some b ∧ Q (.bl b) H
theorem call_isX {X : Cx} {a : Addr} {oe : Obj} {cls : Value} {d : Option Addr} {pn : List (Addr × Obj)} (hz : Zc cls d oe) (hf : ∃ vs, oe.data = .fields vs) : CallR (X.suite a ((a, oe) :: pn)) (.builtin "isinstance") (rIsX X.K a cls d) := by
  intro pins s σ H xs us Q I r h
  obtain ⟨D, c, cv, b, rfl, C, hd, rfl, hcv, e, q⟩ := h
  cases r with
  | cons rx rr =>
    cases rr with
    | cons rt rr =>
      cases rr
      cases rx
      have ec := hcv _ rt
      subst ec
      obtain ⟨hget, _⟩ := I.pin (a, oe) (List.mem_append.mpr (.inl List.mem_cons_self))
      obtain ⟨vs, hv⟩ := hf
      have hcl : (PySem.W.clsIn X.K D).isSome = true := by
        obtain ⟨cd, hc, _⟩ := PySem.W.any_some C.hd
        rw [hc]
        rfl
      have nc : PySem.W.notCls oe := by
        unfold PySem.W.notCls
        rw [hv] <;> rfl
      have fin : ∀ tk, EP (X.suite a ((a, oe) :: pn)) pins σ Q (.bool b) { s with toks := tk } := fun tk => ⟨.bl b, H, I.kept (t' := tk) fun _ _ z => z, rfl, q⟩
      rcases hd with hd | ⟨dd, fs, hd, hx⟩
      · have J : PySem.W.InstAt s.heap a oe D none := ⟨hget, hz.1, nc, by rw [hz.2, hd]; trivial⟩
        exact PySem.W.kia_one (PySem.W.kitx_exc hcl C.hg C.hk C.hs C.ha C.hn C.ht C.hm) I.kIn J e (fun z => nomatch z) fin
      · have hx2 : ObjOk X.prog X.w H s.heap dd (.xd fs) := I.hok dd _ hx
        obtain ⟨mA, ⟨od, es, ep, ho, hr⟩, hr2⟩ := hx2
        have J : PySem.W.InstAt s.heap a oe D (some od) := ⟨hget, hz.1, nc, by rw [hz.2, hd]; exact ho⟩
        exact PySem.W.kia_one (PySem.W.kitx_exc hcl C.hg C.hk C.hs C.ha C.hn C.ht C.hm) I.kIn J e (fun z => nomatch z) fin
/-! a lambda's body that raises -/
theorem takesL {X : Cx} {A : Around} {outer : List Env} {s : Shared} {H : Hp} {E : XK} {scope : Scope} {f c' : Addr} : Takes (LamX.lamCx X A outer s H E scope f c') (fun cls d _ H => E cls d H) :=
  takes_of rfl rfl rfl (E₁ := fun e' s'' => L2.CX X.prog X.w outer H s E e' s'') rfl
theorem passL {X : Cx} {A : Around} {outer : List Env} {s : Shared} {H : Hp} {E : XK} {scope : Scope} {f c' : Addr} : Passes (L2.CX X.prog X.w) (LamX.lamCx X A outer s H E scope f c') E := passes_call takesL fun _ _ _ _ h => h
/-! ## all but M and the tables of code objects stays -/
structure RT (M : List Addr) (H H' : Hp) : Prop where
  keep : ∀ a o, a ∉ M → (∀ ps, o ≠ .tbl ps) → H a = some o → H' a = some o
  tups : ∀ a xs, H a = some (.tup xs) → H' a = some (.tup xs)
  frzs : ∀ a o u, H a = some (.frz o u) → H' a = some (.frz o u)
  pots : ∀ p ∈ M, PotAt H p → PotAt H' p
/-- all but M stays -/
structure RW (M : List Addr) (H H' : Hp) : Prop where
  keep : ∀ a o, a ∉ M → H a = some o → H' a = some o
  tups : ∀ a xs, H a = some (.tup xs) → H' a = some (.tup xs)
  frzs : ∀ a o u, H a = some (.frz o u) → H' a = some (.frz o u)
def NewT (H : Hp) (p : Addr) : Prop := ∀ o, H p = some o → ∃ ps, o = .tbl ps
section
variable {M N : List Addr} {K : PySem.W.Frag} {H H0 H1 H2 H' : Hp} {a p : Addr} {o : HO} {xs : List V} {v : V} {d : PyData}
theorem RW.ofR (e : R M H H') : RW M H H' := ⟨e.keep, e.tups, e.frzs⟩
theorem RW.ofEx (e : Ex H H') : RW M H H' := .ofR (R.of e)
theorem RW.trans (a : RW M H H1) (b : RW M H1 H2) : RW M H H2 := ⟨fun x o n h => b.keep x o n (a.keep x o n h), fun x o h => b.tups x o (a.tups x o h), fun x o u h => b.frzs x o u (a.frzs x o u h)⟩
theorem RW.at (h : H p = some o) (h1 : ∀ xs, o ≠ .tup xs) (h2 : ∀ b u, o ≠ .frz b u) {u : HO} : RW [p] H (upd H p u) :=
  ⟨fun a v n e => by rw [upd_ne (by simpa using n)]; exact e, fun a ys e => by
    rw [upd_ne (fun z => by rw [z, h] at e; exact h1 _ (Option.some.inj e))]
    exact e, fun a b v e => by
    rw [upd_ne (fun z => by rw [z, h] at e; exact h2 _ _ (Option.some.inj e))]
    exact e⟩
theorem RW.lst (h : H p = some (.lst xs)) {u : HO} : RW [p] H (upd H p u) := RW.at h (fun xs z => by cases z) (fun b u z => by cases z)
theorem RW.ins {C dx : Addr} {fs : List (Str × V)} (h : H p = some (.ins C dx fs)) {u : HO} : RW [p] H (upd H p u) := RW.at h (fun xs z => by cases z) (fun b u z => by cases z)
theorem RW.mut (e : RW M H H') (h : H p = none) : RW M H (upd H' p o) :=
  ⟨fun b u n q => by rw [upd_ne (ne_of_none q h)]; exact e.keep b u n q, fun b u q => by rw [upd_ne (ne_of_none q h)]; exact e.tups b u q, fun b u v q => by rw [upd_ne (ne_of_none q h)]; exact e.frzs b u v q⟩
theorem RW.sqt (e : RW M H H') (h : SqT K H a xs) : SqT K H' a xs := by
  rcases h with (h | ⟨o, h⟩) | h
  · exact .inl (.inl (e.tups _ _ h))
  · exact .inl (.inr ⟨o, e.frzs _ _ _ h⟩)
  · exact .inr h
theorem RW.dp (e : RW M H H') (h : Dp K H v d) (i : im d = true) : Dp K H' v d := im_keep (fun _ _ => e.sqt) d v i h
theorem RW.dps (e : RW M H H') {ds : List PyData} {vs : List V} (h : DpAll K H vs ds) (i : ims ds = true) : DpAll K H' vs ds := ims_keep (fun _ _ => e.sqt) ds vs i h
theorem RW.free (e : RW M H H') (h : H' p = none) (n : p ∉ M) : H p = none := by
  cases q : H p with
  | none => rfl
  | some o => rw [e.keep p o n q] at h; cases h
theorem RT.refl (H : Hp) : RT M H H := ⟨fun _ _ _ _ h => h, fun _ _ h => h, fun _ _ _ h => h, fun _ _ h => h⟩
theorem RT.trans (a : RT M H H1) (b : RT M H1 H2) : RT M H H2 :=
  ⟨fun x o n t h => b.keep x o n t (a.keep x o n t h), fun x o h => b.tups x o (a.tups x o h), fun x o u h => b.frzs x o u (a.frzs x o u h), fun p h q => b.pots p h (a.pots p h q)⟩
theorem RT.ofR (e : R M H H') : RT M H H' := ⟨fun x o n _ h => e.keep x o n h, e.tups, e.frzs, e.pots⟩
theorem RT.ofEx (e : Ex H H') : RT M H H' := .ofR (R.of e)
theorem RT.ofN (e : LamX.ExtN H H') : RT M H H' := ⟨fun x o _ t h => e x o h t, fun x xs h => e x _ h (fun ps z => by cases z), fun x o u h => e x _ h (fun ps z => by cases z), fun p _ ⟨a, b, c, q⟩ => ⟨a, b, c, e p _ q fun ps z => by cases z⟩⟩
theorem NewT.of (h : H p = none) : NewT H p := fun o e => by rw [h] at e; cases e
theorem RT.newT (e : RT M H H') (h : NewT H' p) (n : p ∉ M) : NewT H p := fun o q => by
  by_cases c : ∀ ps, o ≠ .tbl ps
  · exact h o (e.keep p o n c q)
  · exact Classical.byContradiction fun z => c fun ps y => z ⟨ps, y⟩
theorem NewT.ne (h : NewT H p) (q : H a = some o) (n : ∀ ps, o ≠ .tbl ps) : a ≠ p := fun z => by
  rw [z] at q
  obtain ⟨ps, e⟩ := h o q
  exact n ps e
theorem NewT.pot (h : NewT H p) (q : PotAt H a) : a ≠ p := by
  obtain ⟨_, _, _, e⟩ := q
  exact h.ne e fun ps z => by cases z
/-- what was new may have changed -/
theorem RT.step (e : RT M H0 H) (r : RW N H H') (n : ∀ p ∈ N, p ∉ M → NewT H0 p) (hp : ∀ p ∈ M, PotAt H p → PotAt H' p) : RT M H0 H' :=
  ⟨fun x o m t h => r.keep x o (fun z => by
      obtain ⟨ps, y⟩ := n x z m o h
      exact t ps y) (e.keep x o m t h), fun x o h => r.tups x o (e.tups x o h), fun x o u h => r.frzs x o u (e.frzs x o u h), fun p m h => hp p m (e.pots p m h)⟩
theorem RT.mut (e : RT M H H') (h : NewT H p) : RT M H (upd H' p o) :=
  have k : ∀ b u, H b = some u → (∀ ps, u ≠ .tbl ps) → H' b = some u → upd H' p o b = some u := fun b u q t q' => by rw [upd_ne (h.ne q t)]; exact q'
  ⟨fun b u n t q => k b u q t (e.keep b u n t q), fun b u q => k b _ q (fun ps z => by cases z) (e.tups b u q), fun b u w q => k b _ q (fun ps z => by cases z) (e.frzs b u w q), fun q m ⟨a, b, c, d⟩ => by
    obtain ⟨a', b', c', d'⟩ := e.pots q m ⟨a, b, c, d⟩
    exact ⟨a', b', c', by rw [upd_ne (h.ne d fun ps z => by cases z)]; exact d'⟩⟩
theorem RT.sqt (e : RT M H H') (h : SqT K H a xs) : SqT K H' a xs := by
  rcases h with (h | ⟨o, h⟩) | h
  · exact .inl (.inl (e.tups _ _ h))
  · exact .inl (.inr ⟨o, e.frzs _ _ _ h⟩)
  · exact .inr h
theorem RT.dp (e : RT M H H') (h : Dp K H v d) (i : im d = true) : Dp K H' v d := im_keep (fun _ _ => e.sqt) d v i h
theorem RT.dps (e : RT M H H') {ds : List PyData} {vs : List V} (h : DpAll K H vs ds) (i : ims ds = true) : DpAll K H' vs ds := ims_keep (fun _ _ => e.sqt) ds vs i h
theorem RT.lst (e : RT M H H') (h : H a = some (.lst xs)) (n : a ∉ M) : H' a = some (.lst xs) := e.keep a _ n (fun ps z => by cases z) h
theorem RT.ins {C dx : Addr} {fs : List (Str × V)} (e : RT M H H') (h : H a = some (.ins C dx fs)) (n : a ∉ M) : H' a = some (.ins C dx fs) := e.keep a _ n (fun ps z => by cases z) h
theorem RT.dic {kvs : List (Key × V)} (e : RT M H H') (h : H a = some (.dK kvs)) (n : a ∉ M) : H' a = some (.dK kvs) := e.keep a _ n (fun ps z => by cases z) h
/-- an object that may have changed, for R -/
theorem R.stepN (e : R M H0 H) (r : RW N H H') (n : ∀ p ∈ N, p ∉ M → H0 p = none) (hp : ∀ p ∈ M, PotAt H p → PotAt H' p) : R M H0 H' :=
  ⟨fun x o m h => r.keep x o (fun z => by
      have y := n x z m
      rw [h] at y
      cases y) (e.keep x o m h), fun x o h => r.tups x o (e.tups x o h), fun x o u h => r.frzs x o u (e.frzs x o u h), fun p m h => hp p m (e.pots p m h)⟩
end
/-! readings -/
section
variable {K : PySem.W.Frag} {σ : L2.St} {H : Hp} {Q : VK} {ta : TE} {f : Str} {a C dx : Addr} {fs : List (Str × V)} {v : V} {D : Ends}
theorem x_fldE (q : ta σ H fun x H1 => ∃ a C dx fs v, x = .ref a ∧ H1 a = some (.ins C dx fs) ∧ Cls K C ∧ NoAttr K C f ∧ fs.lookup f = some v ∧ Q v H1) : tFld K ta f σ H Q := q
theorem x_methE {m : Str} {sp : Sp} {E : XK} {t : TA} (q : ta σ H fun x H1 => ∃ a dx fs, x = .ref a ∧ H1 a = some (.ins C dx fs) ∧ fs.lookup m = none ∧ t σ H1 fun vs H2 => sp (x :: (vs ++ [])) H2 Q E) : tMeth C m sp [] E ta t σ H Q := q
end
/-! ## methods -/
def CalM (P : Program) (w : World) (K : PySem.W.Frag) (mg : Str → Option Value) (base : Heap) (CX : CXT) (Pf : Addr → Prop) (ps : List Str) (k : Nat) (sp : Sp) : Prop := ∃ f fd, Pf f ∧ (∃ oc od osl, K.lookup f = some (⟨oc, od, .func fd, osl⟩ : Obj)) ∧ Binds K fd ps [] ∧ FnOk P w K mg base CX k f fd ps sp
section
variable {P : Program} {w : World} {K : PySem.W.Frag} {mg : Str → Option Value} {base : Heap} {x qual : Str} {st : Stmt} {N ps : List Str} {k : Nat} {sp : Sp} {Pf : Addr → Prop} {CX : CXT}
theorem calM_of (F : ∃ f fd, Pf f ∧ Fun K x qual st f fd) (S : FnScope N ps (defScope st)) (len : ∀ vs H Q E, sp vs H Q E → vs.length = ps.length)
    (hbind : ∀ (kV doc pm : Value) (an : Option Addr) (cdv ct : Value) (us : List Value), us.length = ps.length → bindArgs (PySem.W.fnOf x qual (defArgs st) (defBody st) (defScope st) .none kV doc pm an cdv ct) ⟨us, []⟩ = pure (ps.zip us))
    (hbody : ∀ (f : Addr) (cdv : Value) (A : Around) (outer : List Env) (s : Shared) (H : Hp) (vs : List V) (Q : VK) (E : XK), Room k (A.deeper (envOfC qual (defScope st) s.heap.objs.size f cdv)) → sp vs H Q E →
      ∃ t, PSs (cxOf CX0 P w K mg base N qual (defScope st) f cdv A outer s H E).nox (defBody st) t ∧ t { nx := fun _ H' => Q .non H', rt := Q } (start N vs) H) : CalM P w K mg base CX0 Pf ps (k + 1) sp := by
  obtain ⟨f, fd, hm, F⟩ := F
  have hlk : ∃ oc od osl, K.lookup f = some (⟨oc, od, .func fd, osl⟩ : Obj) := by
    obtain ⟨oc, od, kV, doc, pm, an, cdv, ct, osl, _, lk, _⟩ := F.ex
    exact ⟨oc, od, osl, lk⟩
  exact ⟨f, fd, hm, hlk, F.binds hbind, F.ok S len fun cdv A outer s H vs Q E hr h => hbody f cdv A outer s H vs Q E hr h⟩
theorem calMX_of (F : ∃ f fd, Pf f ∧ Fun K x qual st f fd) (S : FnScope N ps (defScope st)) (len : ∀ vs H Q E, sp vs H Q E → vs.length = ps.length)
    (hbind : ∀ (kV doc pm : Value) (an : Option Addr) (cdv ct : Value) (us : List Value), us.length = ps.length → bindArgs (PySem.W.fnOf x qual (defArgs st) (defBody st) (defScope st) .none kV doc pm an cdv ct) ⟨us, []⟩ = pure (ps.zip us))
    (hbody : ∀ (f : Addr) (cdv : Value) (A : Around) (outer : List Env) (s : Shared) (H : Hp) (vs : List V) (Q : VK) (E : XK), Room k (A.deeper (envOfC qual (defScope st) s.heap.objs.size f cdv)) → sp vs H Q E →
      ∃ t, PSs (cxOf (L2.CX P w) P w K mg base N qual (defScope st) f cdv A outer s H E) (defBody st) t ∧ t { nx := fun _ H' => Q .non H', rt := Q } (start N vs) H) : CalM P w K mg base (L2.CX P w) Pf ps (k + 1) sp := by
  obtain ⟨f, fd, hm, F⟩ := F
  have hlk : ∃ oc od osl, K.lookup f = some (⟨oc, od, .func fd, osl⟩ : Obj) := by
    obtain ⟨oc, od, kV, doc, pm, an, cdv, ct, osl, _, lk, _⟩ := F.ex
    exact ⟨oc, od, osl, lk⟩
  refine ⟨f, fd, hm, hlk, F.binds hbind, ?_⟩
  obtain ⟨oc, od, kV, doc, pm, an, cdv, ct, osl, rfl, lk, hcd⟩ := F.ex
  exact fn_of lk hcd S len fun A outer s H vs Q E hr h => hbody f cdv A outer s H vs Q E hr h
theorem CalM.mono {j : Nat} (C : CalM P w K mg base CX Pf ps k sp) (h : k ≤ j) : CalM P w K mg base CX Pf ps j sp := by
  obtain ⟨f, fd, hm, lk, hb, F⟩ := C
  exact ⟨f, fd, hm, lk, hb, F.mono h⟩
variable {X : Cx} {C : Addr} {m : Str} {o e : Expr} {es : List Expr} {kws : List Keyword} {ta : TE} {t : TA} {E : XK} {apos pos p : Pos} {pl : Sem Bool}
theorem pe_mth0 (T : CalM X.prog X.w X.K X.mg X.base CX (Meth X.K C m) ps k sp) (c : Cls X.K C) (hx : Passes CX X E) (hr : Room k X.A) (he : PE X o ta)
    (ht : eval (.Call (.Attribute o m apos) [] [] pos) X.env = (do
      let ov ← eval o X.env
      standAt apos.atName
      let (f, first) ← holding [ov] (getMethod ov m pl)
      callWith pos f first (backTo pos (starEach [] X.env)) (backToKw pos (keywordEach [] X.env))) := by rfl) : PE X (.Call (.Attribute o m apos) [] [] pos) (tMeth C m sp [] E ta tNil) := by
  obtain ⟨f, fd, hm, _, hb, F⟩ := T
  exact pe_meth0 he c hm F hr hb .nil hx ht
theorem pe_mth (T : CalM X.prog X.w X.K X.mg X.base CX (Meth X.K C m) ps k sp) (c : Cls X.K C) (hx : Passes CX X E) (hr : Room k X.A) (he : PE X o ta) (ha : PA X (e :: es) t)
    (hst : starEach (e :: es) X.env = (false, eval e X.env) :: starEach es X.env := by rfl) (hpl : (backTo pos (starEach es X.env)).any (·.1) = false := by rfl)
    (ht : eval (.Call (.Attribute o m apos) (e :: es) [] pos) X.env = (do
      let ov ← eval o X.env
      standAt apos.atName
      let (f, first) ← holding [ov] (getMethod ov m pl)
      callWith pos f first (backTo pos (starEach (e :: es) X.env)) (backToKw pos (keywordEach [] X.env))) := by rfl) : PE X (.Call (.Attribute o m apos) (e :: es) [] pos) (tMeth C m sp [] E ta t) := by
  obtain ⟨f, fd, hm, _, hb, F⟩ := T
  exact pe_meth he c hm F hr hb .nil hx ha hst hpl ht
/-- by keywords: the same def -/
theorem CalM.kb {n : Nat} {ks : List Str} {g : List Value → List Value → List Value} {gV : List V → List V → List V} (T : CalM P w K mg base CX Pf ps k sp) (F : ∃ f fd, Pf f ∧ Fun K x qual st f fd) (uniq : ∀ f f', Pf f → Pf f' → f = f')
    (hb : ∀ (kV doc pm : Value) (an : Option Addr) (cdv ct : Value), KBn K (PySem.W.fnOf x qual (defArgs st) (defBody st) (defScope st) .none kV doc pm an cdv ct) ps n ks g gV) : ∃ f fd, Pf f ∧ KBn K fd ps n ks g gV ∧ FnOk P w K mg base CX k f fd ps sp := by
  obtain ⟨f, fd, hm, ⟨oc, od, osl, lk⟩, _, F1⟩ := T
  obtain ⟨f2, fd2, hm2, F2⟩ := F
  obtain rfl := uniq _ _ hm hm2
  obtain ⟨oc2, od2, kV, doc, pm, an, cdv, ct, osl2, rfl, lk2, _⟩ := F2.ex
  rw [lk] at lk2
  have e : fd = PySem.W.fnOf x qual (defArgs st) (defBody st) (defScope st) .none kV doc pm an cdv ct := by
    have := Option.some.inj lk2
    injection this with _ _ h3 _
    injection h3
  subst e
  exact ⟨f, _, hm, hb kV doc pm an cdv ct, F1⟩
theorem meth_uniq {m : Str} {f f' : Addr} (h : Meth K C m f) (h' : Meth K C m f') : f = f' := by
  have := h.at_.symm.trans h'.at_
  simpa using this
theorem mk_uniq {f f' : Addr} (h : Mk K C f) (h' : Mk K C f') : f = f' := by
  have := h.init.symm.trans h'.init
  simpa using this
theorem pe_mk (T : CalM X.prog X.w X.K X.mg X.base CX (Mk X.K C) ps k sp) (hx : Passes CX X E) (hr : Room (k + 1) X.A) (hm : X.mg x = some (.ref C)) (ha : PA X (e :: es) t) (hg : Gl X x := by rfl)
    (hdb : (x == ("__debug__" : Str)) = false := by decide) (he : starEach (e :: es) X.env = (false, eval e X.env) :: starEach es X.env := by rfl) (hpl : (backTo pos (starEach es X.env)).any (·.1) = false := by rfl) : PE X (.Call (.Name x p) (e :: es) [] pos) (tMake C sp [] E t) := by
  obtain ⟨f, fd, M, _, hb, F⟩ := T
  exact pe_make M F hr hg hm hb .nil hx ha hdb he hpl
theorem pe_mkK {ks : List Str} {g : List Value → List Value → List Value} {gV : List V → List V → List V} {tk : TA} (T : ∃ f fd, Mk X.K C f ∧ KBn X.K fd ps 1 ks g gV ∧ FnOk X.prog X.w X.K X.mg X.base CX k f fd ps sp) (hx : Passes CX X E) (hr : Room (k + 1) X.A) (hm : X.mg x = some (.ref C)) (hkw : PK X kws tk) (hg : Gl X x := by rfl)
    (hall : (backToKw pos (keywordEach kws X.env)).all (·.1.isSome) = true := by rfl) (hks : (backToKw pos (keywordEach kws X.env)).filterMap (·.1) = ks := by rfl) (hdb : (x == ("__debug__" : Str)) = false := by decide)
    (hpl : ((backTo pos (starEach [] X.env)).any (·.1) || (backToKw pos (keywordEach kws X.env)).any (·.1.isNone)) = false := by rfl) : PE X (.Call (.Name x p) [] kws pos) (tMakeK C 0 ks.length sp gV E tNil tk) := by
  obtain ⟨f, fd, M, hb, F⟩ := T
  exact pe_makeK0 M F hr hg hm hb hx hkw hall hks hdb hpl
theorem pe_mthK {ks : List Str} {g : List Value → List Value → List Value} {gV : List V → List V → List V} {tk : TA} (T : ∃ f fd, Meth X.K C m f ∧ KBn X.K fd ps 1 ks g gV ∧ FnOk X.prog X.w X.K X.mg X.base CX k f fd ps sp) (c : Cls X.K C) (hx : Passes CX X E) (hr : Room k X.A) (he : PE X o ta) (hkw : PK X kws tk)
    (hall : (backToKw pos (keywordEach kws X.env)).all (·.1.isSome) = true := by rfl) (hks : (backToKw pos (keywordEach kws X.env)).filterMap (·.1) = ks := by rfl)
    (hpl : ((backTo pos (starEach [] X.env)).any (·.1) || (backToKw pos (keywordEach kws X.env)).any (·.1.isNone)) = false := by rfl)
    (ht : eval (.Call (.Attribute o m apos) [] kws pos) X.env = (do
      let ov ← eval o X.env
      standAt apos.atName
      let (f, first) ← holding [ov] (getMethod ov m pl)
      callWith pos f first (backTo pos (starEach [] X.env)) (backToKw pos (keywordEach kws X.env))) := by rfl) : PE X (.Call (.Attribute o m apos) [] kws pos) (tMethK C m ks.length sp gV E ta tk) := by
  obtain ⟨f, fd, hm, hb, F⟩ := T
  exact pe_methK he c hm F hr hb hx hkw hall hks hpl ht
end
end Lay

/-! ### text HD -/
namespace K85
open PySem PySem.Spec PyProof.Rows L2 Lay
/-! the head: what the top leaves, read by the kernel -/
def oexB (K : PySem.W.Frag) (C : Addr) : Bool := match K.lookup C with
  | some ⟨.type tn, _, .cls kd, slo⟩ => decide (tn = "type") && (match kd.mro, slo.toList with
    | .ref D :: tl, [_, _, _, _, some (.builtin nid), _] => D == C && (nid == "ValueError.__new__" && (!kd.hasDel && (kd.hasDict && PySem.HandSPX.refsVE tl)))
    | _, _ => false)
  | _ => false
theorem oexB_ok {K : PySem.W.Frag} {C : Addr} (h : oexB K C = true) : ∃ nm q N bs bm sn sub ab col dd k0 k1 k2 k3 k5, K.lookup C = some (excClassObj nm q C N bs bm true sn sub ab col dd k0 k1 k2 k3 k5 "ValueError.__new__") ∧ PySem.HandSPX.refsVE bm = true := by
  unfold oexB at h
  split at h
  · rename_i tn dd0 kd slo ho
    obtain ⟨ht, h⟩ := Bool.and_eq_true_iff.mp h
    split at h
    · rename_i D tl k0 k1 k2 k3 nid k5 hm hs
      simp only [Bool.and_eq_true, beq_iff_eq, Bool.not_eq_true'] at h
      obtain ⟨h1, h2, h3, h4, h5⟩ := h
      have ht' : tn = "type" := of_decide_eq_true ht
      obtain ⟨nm, bs, mro, ns, qn, hd, sn, sub, ab, col, del⟩ := kd
      dsimp only at hm h3 h4
      subst ht' h1 h2 hm h3 h4
      have hsl : slo = #[k0, k1, k2, k3, some (.builtin "ValueError.__new__"), k5] := by
        obtain ⟨l⟩ := slo
        dsimp only at hs
        rw [hs]
      subst hsl
      exact ⟨nm, qn, ns, bs, tl, sn, sub, ab, col, dd0, k0, k1, k2, k3, k5, ho, h5⟩
    · cases h
  · cases h
def excCB (K : PySem.W.Frag) (D : Addr) : Bool := decide (PySem.W.findIn K (.ref D) "__getattribute__" = some (some (.builtin "BaseException.__getattribute__"))) && (decide (PySem.W.findIn K (.ref D) "__getattr__" = some none) && (decide (PySem.W.subIn K (.ref D) (.type "BaseException") = some true) && (PySem.W.hasDictIn K D &&
  (decide (PySem.W.findIn K (.ref D) "__class__" = some (some (.builtin "object.__class__"))) && (decide (PySem.W.specialIn K (.builtin "object.__class__") "__get__" = some (some (.builtin "getset_descriptor.__get__"))) && (decide (PySem.W.takesIn K (.builtin "object.__class__") = some true) && decide (PySem.W.mroIn K D (.type "object") = some true)))))))
theorem excCB_ok {K : PySem.W.Frag} {D : Addr} (h : excCB K D = true) : ExcC K D := by
  obtain ⟨a1, h⟩ := Bool.and_eq_true_iff.mp h
  obtain ⟨a2, h⟩ := Bool.and_eq_true_iff.mp h
  obtain ⟨a3, h⟩ := Bool.and_eq_true_iff.mp h
  obtain ⟨a4, h⟩ := Bool.and_eq_true_iff.mp h
  obtain ⟨a5, h⟩ := Bool.and_eq_true_iff.mp h
  obtain ⟨a6, h⟩ := Bool.and_eq_true_iff.mp h
  obtain ⟨a7, a8⟩ := Bool.and_eq_true_iff.mp h
  exact ⟨of_decide_eq_true a1, of_decide_eq_true a2, of_decide_eq_true a3, a4, of_decide_eq_true a5, of_decide_eq_true a6, of_decide_eq_true a7, of_decide_eq_true a8⟩
def rtBB (K : PySem.W.Frag) (C : Addr) : Bool := PySem.W.excIn K C rtB "RuntimeError.__new__" && (PySem.W.keepIn K (.ref C) && (decide (PySem.W.subIn K (.ref C) (.type "BaseException") = some true) && decide (PySem.W.typeIn K (.ref C) = some (.type "type"))))
theorem rtBB_ok {K : PySem.W.Frag} {mg : Str → Option Value} {x : Str} {C : Addr} (m : mg x = some (.ref C)) (h : rtBB K C = true) : ExcOk K mg x C := by
  obtain ⟨a1, h⟩ := Bool.and_eq_true_iff.mp h
  obtain ⟨a2, h⟩ := Bool.and_eq_true_iff.mp h
  obtain ⟨a3, a4⟩ := Bool.and_eq_true_iff.mp h
  exact ⟨m, a1, a2, of_decide_eq_true a3, of_decide_eq_true a4⟩
/-- a tuple of the written part -/
def tupAt (K : PySem.W.Frag) (a : Addr) (vs : List V) : Bool := match K.lookup a with
  | some ⟨.type tn, _, .seq its _, _⟩ => decide (tn = "tuple") && (decide (its.size ≤ sizeLine) && He.relAll vs its.toList)
  | _ => false
theorem tupAt_ok {K : PySem.W.Frag} {a : Addr} {vs : List V} (h : tupAt K a vs = true) (H : Hp) : SqT K H a vs := by
  unfold tupAt at h
  split at h
  · rename_i tn dd its n slo ho
    obtain ⟨h1, h⟩ := Bool.and_eq_true_iff.mp h
    obtain ⟨h2, h3⟩ := Bool.and_eq_true_iff.mp h
    exact .inr ⟨_, its, n, ho, congrArg Value.type (of_decide_eq_true h1), rfl, of_decide_eq_true h2, He.relAll_ok h3⟩
  · cases h
/-- the i-th item of a tuple, an object -/
def itAt (K : PySem.W.Frag) (a : Addr) (i : Nat) : Addr := match K.lookup a with
  | some ⟨_, _, .seq its _, _⟩ => (match its.toList[i]? with
    | some (.ref b) => b
    | _ => 0)
  | _ => 0
theorem funD_fun {K : PySem.W.Frag} {x qual : Str} {st : Stmt} {f : Addr} {fd : FuncData} (F : FunD K x qual (defArgs st) (defBody st) (defScope st) [] [] f fd) : Fun K x qual st f fd := by
  obtain ⟨oc, od, dV, kV, doc, pm, an, cdv, ct, osl, e, lk, hc, hD, _⟩ := F.ex
  rcases hD with ⟨_, rfl⟩ | ⟨z, _⟩
  · exact ⟨⟨oc, od, kV, doc, pm, an, cdv, ct, osl, e, lk, hc⟩, F.kp⟩
  · exact absurd rfl z

def d_InvalidNumbers___init__ : He.DefD := ⟨("InvalidNumbers", some "__init__"), "__init__", "InvalidNumbers.__init__", defArgs s_InvalidNumbers___init__, defBody s_InvalidNumbers___init__, defScope s_InvalidNumbers___init__, [], []⟩
def d_is_integer : He.DefD := ⟨("is_integer", none), "is_integer", "is_integer", defArgs s_is_integer, defBody s_is_integer, defScope s_is_integer, [], []⟩
def d_is_count : He.DefD := ⟨("is_count", none), "is_count", "is_count", defArgs s_is_count, defBody s_is_count, defScope s_is_count, [], []⟩
def d_is_list : He.DefD := ⟨("is_list", none), "is_list", "is_list", defArgs s_is_list, defBody s_is_list, defScope s_is_list, [], []⟩
def d_are_numbers : He.DefD := ⟨("are_numbers", none), "are_numbers", "are_numbers", defArgs s_are_numbers, defBody s_are_numbers, defScope s_are_numbers, [], []⟩
def d_worth : He.DefD := ⟨("worth", none), "worth", "worth", defArgs s_worth, defBody s_worth, defScope s_worth, [], []⟩
def d_is_linear : He.DefD := ⟨("is_linear", none), "is_linear", "is_linear", defArgs s_is_linear, defBody s_is_linear, defScope s_is_linear, [], []⟩
def d_is_number : He.DefD := ⟨("is_number", none), "is_number", "is_number", defArgs s_is_number, defBody s_is_number, defScope s_is_number, [], []⟩
def d_atom_holds : He.DefD := ⟨("atom_holds", none), "atom_holds", "atom_holds", defArgs s_atom_holds, defBody s_atom_holds, defScope s_atom_holds, [], []⟩
def d_holds : He.DefD := ⟨("holds", none), "holds", "holds", defArgs s_holds, defBody s_holds, defScope s_holds, [], []⟩
def d_is_near : He.DefD := ⟨("is_near", none), "is_near", "is_near", defArgs s_is_near, defBody s_is_near, defScope s_is_near, [], []⟩
def d_is_sum : He.DefD := ⟨("is_sum", none), "is_sum", "is_sum", defArgs s_is_sum, defBody s_is_sum, defScope s_is_sum, [], []⟩
def d_is_divisor : He.DefD := ⟨("is_divisor", none), "is_divisor", "is_divisor", defArgs s_is_divisor, defBody s_is_divisor, defScope s_is_divisor, [], []⟩
def d_is_atom : He.DefD := ⟨("is_atom", none), "is_atom", "is_atom", defArgs s_is_atom, defBody s_is_atom, defScope s_is_atom, [], []⟩
def d_is_bare_formula : He.DefD := ⟨("is_bare_formula", none), "is_bare_formula", "is_bare_formula", defArgs s_is_bare_formula, defBody s_is_bare_formula, defScope s_is_bare_formula, [], []⟩
def d_is_value : He.DefD := ⟨("is_value", none), "is_value", "is_value", defArgs s_is_value, defBody s_is_value, defScope s_is_value, [], []⟩
def d_is_piece : He.DefD := ⟨("is_piece", none), "is_piece", "is_piece", defArgs s_is_piece, defBody s_is_piece, defScope s_is_piece, [], []⟩
def d_own_variables : He.DefD := ⟨("own_variables", none), "own_variables", "own_variables", defArgs s_own_variables, defBody s_own_variables, defScope s_own_variables, [], []⟩
def d_has_form : He.DefD := ⟨("has_form", none), "has_form", "has_form", defArgs s_has_form, defBody s_has_form, defScope s_has_form, [], []⟩
def d_matrix_holds : He.DefD := ⟨("matrix_holds", none), "matrix_holds", "matrix_holds", defArgs s_matrix_holds, defBody s_matrix_holds, defScope s_matrix_holds, [], []⟩
def d_divided : He.DefD := ⟨("divided", none), "divided", "divided", defArgs s_divided, defBody s_divided, defScope s_divided, [], []⟩
def d_value_at : He.DefD := ⟨("value_at", none), "value_at", "value_at", defArgs s_value_at, defBody s_value_at, defScope s_value_at, [], []⟩
def d_piece_at : He.DefD := ⟨("piece_at", none), "piece_at", "piece_at", defArgs s_piece_at, defBody s_piece_at, defScope s_piece_at, [], []⟩
def d_told_by : He.DefD := ⟨("told_by", none), "told_by", "told_by", defArgs s_told_by, defBody s_told_by, defScope s_told_by, [], []⟩
def d_want_played : He.DefD := ⟨("want_played", none), "want_played", "want_played", defArgs s_want_played, defBody s_want_played, defScope s_want_played, [], []⟩
def d_want_answers : He.DefD := ⟨("want_answers", none), "want_answers", "want_answers", defArgs s_want_answers, defBody s_want_answers, defScope s_want_answers, [], []⟩
def d_told_number : He.DefD := ⟨("told_number", none), "told_number", "told_number", defArgs s_told_number, defBody s_told_number, defScope s_told_number, [], []⟩
def d_plans_by_variable : He.DefD := ⟨("plans_by_variable", none), "plans_by_variable", "plans_by_variable", defArgs s_plans_by_variable, defBody s_plans_by_variable, defScope s_plans_by_variable, [], []⟩
def d_all_numbers : He.DefD := ⟨("all_numbers", none), "all_numbers", "all_numbers", defArgs s_all_numbers, defBody s_all_numbers, defScope s_all_numbers, [], []⟩
def d_played : He.DefD := ⟨("played", none), "played", "played", defArgs s_played, defBody s_played, defScope s_played, [], []⟩
def d_Match___init__ : He.DefD := ⟨("Match", some "__init__"), "__init__", "Match.__init__", defArgs s_Match___init__, defBody s_Match___init__, defScope s_Match___init__, [], []⟩
def d_Match_numbers : He.DefD := ⟨("Match", some "numbers"), "numbers", "Match.numbers", defArgs s_Match_numbers, defBody s_Match_numbers, defScope s_Match_numbers, [], []⟩
def d_Match_is_over : He.DefD := ⟨("Match", some "is_over"), "is_over", "Match.is_over", defArgs s_Match_is_over, defBody s_Match_is_over, defScope s_Match_is_over, [], []⟩
def d_Match_turn : He.DefD := ⟨("Match", some "turn"), "turn", "Match.turn", defArgs s_Match_turn, defBody s_Match_turn, defScope s_Match_turn, [], []⟩
def d_Match_go : He.DefD := ⟨("Match", some "go"), "go", "Match.go", defArgs s_Match_go, defBody s_Match_go, defScope s_Match_go, [], []⟩
def d_Match_go_on : He.DefD := ⟨("Match", some "go_on"), "go_on", "Match.go_on", defArgs s_Match_go_on, defBody s_Match_go_on, defScope s_Match_go_on, [], []⟩
def d_Match_say : He.DefD := ⟨("Match", some "say"), "say", "Match.say", defArgs s_Match_say, defBody s_Match_say, defScope s_Match_say, [], []⟩
def d_Match_back : He.DefD := ⟨("Match", some "back"), "back", "Match.back", defArgs s_Match_back, defBody s_Match_back, defScope s_Match_back, [], []⟩
def d_Match_winner : He.DefD := ⟨("Match", some "winner"), "winner", "Match.winner", defArgs s_Match_winner, defBody s_Match_winner, defScope s_Match_winner, [], []⟩
def d__law_pot : He.DefD := ⟨("_law_pot", none), "_law_pot", "_law_pot", defArgs s__law_pot, defBody s__law_pot, defScope s__law_pot, [], []⟩
def d__law_draw : He.DefD := ⟨("_law_draw", none), "_law_draw", "_law_draw", defArgs s__law_draw, defBody s__law_draw, defScope s__law_draw, [], []⟩
def d__law_pick : He.DefD := ⟨("_law_pick", none), "_law_pick", "_law_pick", defArgs s__law_pick, defBody s__law_pick, defScope s__law_pick, [], []⟩
def d__law_n : He.DefD := ⟨("_law_n", none), "_law_n", "_law_n", defArgs s__law_n, defBody s__law_n, defScope s__law_n, [], []⟩
def d__law_v : He.DefD := ⟨("_law_v", none), "_law_v", "_law_v", defArgs s__law_v, defBody s__law_v, defScope s__law_v, [], []⟩
def d__law_term : He.DefD := ⟨("_law_term", none), "_law_term", "_law_term", defArgs s__law_term, defBody s__law_term, defScope s__law_term, [], []⟩
def d__law_atom : He.DefD := ⟨("_law_atom", none), "_law_atom", "_law_atom", defArgs s__law_atom, defBody s__law_atom, defScope s__law_atom, [], []⟩
def d__law_bare : He.DefD := ⟨("_law_bare", none), "_law_bare", "_law_bare", defArgs s__law_bare, defBody s__law_bare, defScope s__law_bare, [], []⟩
def d__law_sum : He.DefD := ⟨("_law_sum", none), "_law_sum", "_law_sum", defArgs s__law_sum, defBody s__law_sum, defScope s__law_sum, [], []⟩
def d__law_made : He.DefD := ⟨("_law_made", none), "_law_made", "_law_made", defArgs s__law_made, defBody s__law_made, defScope s__law_made, [], []⟩
def d__law_le : He.DefD := ⟨("_law_le", none), "_law_le", "_law_le", defArgs s__law_le, defBody s__law_le, defScope s__law_le, [], []⟩
def d__law_formula : He.DefD := ⟨("_law_formula", none), "_law_formula", "_law_formula", defArgs s__law_formula, defBody s__law_formula, defScope s__law_formula, [], []⟩
def d__law_is_so : He.DefD := ⟨("_law_is_so", none), "_law_is_so", "_law_is_so", defArgs s__law_is_so, defBody s__law_is_so, defScope s__law_is_so, [], []⟩
def d__law_prenex : He.DefD := ⟨("_law_prenex", none), "_law_prenex", "_law_prenex", defArgs s__law_prenex, defBody s__law_prenex, defScope s__law_prenex, [], []⟩
def d__law_linear : He.DefD := ⟨("_law_linear", none), "_law_linear", "_law_linear", defArgs s__law_linear, defBody s__law_linear, defScope s__law_linear, [], []⟩
def d__law_guard : He.DefD := ⟨("_law_guard", none), "_law_guard", "_law_guard", defArgs s__law_guard, defBody s__law_guard, defScope s__law_guard, [], []⟩
def d__law_value : He.DefD := ⟨("_law_value", none), "_law_value", "_law_value", defArgs s__law_value, defBody s__law_value, defScope s__law_value, [], []⟩
def d__law_plan : He.DefD := ⟨("_law_plan", none), "_law_plan", "_law_plan", defArgs s__law_plan, defBody s__law_plan, defScope s__law_plan, [], []⟩
def d__law_own : He.DefD := ⟨("_law_own", none), "_law_own", "_law_own", defArgs s__law_own, defBody s__law_own, defScope s__law_own, [], []⟩
def d__law_defence : He.DefD := ⟨("_law_defence", none), "_law_defence", "_law_defence", defArgs s__law_defence, defBody s__law_defence, defScope s__law_defence, [], []⟩
def d__law_total : He.DefD := ⟨("_law_total", none), "_law_total", "_law_total", defArgs s__law_total, defBody s__law_total, defScope s__law_total, [], []⟩
def d__law_told : He.DefD := ⟨("_law_told", none), "_law_told", "_law_told", defArgs s__law_told, defBody s__law_told, defScope s__law_told, [], []⟩
def d__law_play : He.DefD := ⟨("_law_play", none), "_law_play", "_law_play", defArgs s__law_play, defBody s__law_play, defScope s__law_play, [], []⟩
def d__law_rows : He.DefD := ⟨("_law_rows", none), "_law_rows", "_law_rows", defArgs s__law_rows, defBody s__law_rows, defScope s__law_rows, [], []⟩
def d__law_heard : He.DefD := ⟨("_law_heard", none), "_law_heard", "_law_heard", defArgs s__law_heard, defBody s__law_heard, defScope s__law_heard, [], []⟩
def d__law_next : He.DefD := ⟨("_law_next", none), "_law_next", "_law_next", defArgs s__law_next, defBody s__law_next, defScope s__law_next, [], []⟩
def d__law_looks : He.DefD := ⟨("_law_looks", none), "_law_looks", "_law_looks", defArgs s__law_looks, defBody s__law_looks, defScope s__law_looks, [], []⟩
def d__law_go_on : He.DefD := ⟨("_law_go_on", none), "_law_go_on", "_law_go_on", defArgs s__law_go_on, defBody s__law_go_on, defScope s__law_go_on, [], []⟩
def d__law_match_right : He.DefD := ⟨("_law_match_right", none), "_law_match_right", "_law_match_right", defArgs s__law_match_right, defBody s__law_match_right, defScope s__law_match_right, [], []⟩
def d__law_whole_right : He.DefD := ⟨("_law_whole_right", none), "_law_whole_right", "_law_whole_right", defArgs s__law_whole_right, defBody s__law_whole_right, defScope s__law_whole_right, [], []⟩
def d__law_right : He.DefD := ⟨("_law_right", none), "_law_right", "_law_right", defArgs s__law_right, defBody s__law_right, defScope s__law_right, [], []⟩
def d_law : He.DefD := ⟨("law", none), "law", "law", defArgs s_law, defBody s_law, defScope s_law, [], []⟩
def fn : List He.DefD := [d_InvalidNumbers___init__, d_is_integer, d_is_count, d_is_list, d_are_numbers, d_worth, d_is_linear, d_is_number, d_atom_holds, d_holds, d_is_near, d_is_sum, d_is_divisor, d_is_atom, d_is_bare_formula, d_is_value, d_is_piece, d_own_variables, d_has_form, d_matrix_holds, d_divided, d_value_at, d_piece_at, d_told_by, d_want_played, d_want_answers, d_told_number, d_plans_by_variable, d_all_numbers, d_played, d_Match___init__, d_Match_numbers, d_Match_is_over, d_Match_turn, d_Match_go, d_Match_go_on, d_Match_say, d_Match_back, d_Match_winner, d__law_pot, d__law_draw, d__law_pick, d__law_n, d__law_v, d__law_term, d__law_atom, d__law_bare, d__law_sum, d__law_made, d__law_le, d__law_formula, d__law_is_so, d__law_prenex, d__law_linear, d__law_guard, d__law_value, d__law_plan, d__law_own, d__law_defence, d__law_total, d__law_told, d__law_play, d__law_rows, d__law_heard, d__law_next, d__law_looks, d__law_go_on, d__law_match_right, d__law_whole_right, d__law_right, d_law]
def fa : List He.Fa := [.glo "is_integer", .glo "is_count", .glo "is_list", .glo "are_numbers", .glo "worth", .glo "is_linear", .glo "is_number", .glo "atom_holds", .glo "holds", .glo "is_near", .glo "is_sum", .glo "is_divisor", .glo "is_atom", .glo "is_bare_formula", .glo "is_value", .glo "is_piece", .glo "own_variables", .glo "has_form", .glo "matrix_holds", .glo "divided", .glo "value_at", .glo "piece_at", .glo "told_by", .glo "want_played", .glo "want_answers", .glo "told_number", .glo "plans_by_variable", .glo "all_numbers", .glo "played", .glo "_law_pot", .glo "_law_draw", .glo "_law_pick", .glo "_law_n", .glo "_law_v", .glo "_law_term", .glo "_law_atom", .glo "_law_bare", .glo "_law_sum", .glo "_law_made", .glo "_law_le", .glo "_law_formula", .glo "_law_is_so", .glo "_law_prenex", .glo "_law_linear", .glo "_law_guard", .glo "_law_value", .glo "_law_plan", .glo "_law_own", .glo "_law_defence", .glo "_law_total", .glo "_law_told", .glo "_law_play", .glo "_law_rows", .glo "_law_heard", .glo "_law_next", .glo "_law_looks", .glo "_law_go_on", .glo "_law_match_right", .glo "_law_whole_right", .glo "_law_right", .glo "law", .glo "Match", .glo "NotDefended", .glo "NothingToUndo", .glo "InvalidNumbers", .glo "StateError", .glo "BookError", .glo "ATOMS", .glo "YES", .glo "SIDES", .glo "KINDS", .glo "OTHER", .free "abs", .free "all", .free "any", .free "bool", .free "dict", .free "divmod", .free "enumerate", .free "int", .free "isinstance", .free "len", .free "list", .free "max", .free "min", .free "range", .free "repr", .free "sorted", .free "str", .free "sum", .free "tuple", .free "zip", .int "GREATEST" 1000000000000000000, .str "LE" "le", .str "INTO" "into", .str "OFF" "off", .str "AND" "and", .str "OR" "or", .str "WORD" "defence", .str "OVER_judge" "over", .str "LOW_judge" "low", .str "HIGH" "high", .int "MOST_DEEP" 200, .int "MOST_PIECES" 400, .int "FIGURES" (10 ^ 400), .str "OVER_values" "over", .str "LOW_values" "low", .cls "Match", .noat "Match" "prenex", .noat "Match" "defence", .noat "Match" "plans", .noat "Match" "told", .meth "Match" "numbers", .meth "Match" "is_over", .meth "Match" "turn", .meth "Match" "go", .meth "Match" "go_on", .meth "Match" "say", .meth "Match" "back", .meth "Match" "winner", .mkr "Match", .exm "NotDefended" "NotDefended" true, .exm "NothingToUndo" "NotDefended" false, .exm "NothingToUndo" "NothingToUndo" true, .exm "InvalidNumbers" "NotDefended" false, .exm "InvalidNumbers" "NothingToUndo" false, .exm "InvalidNumbers" "InvalidNumbers" true, .keep "InvalidNumbers"]
abbrev gaN (K : PySem.W.Frag) (x : Str) : Addr := He.ga K x
abbrev tMr : He.Defn := ("_law_match_right", none)
abbrev tWr : He.Defn := ("_law_whole_right", none)
def tf : List He.Defn := [tMr, tWr]
def ts : List He.Tab := [(fun K => He.ga K "KINDS", ["yes", "no"]), (fun K => He.ga K "OTHER", ["yes", "no"])]
def ex1 (K : PySem.W.Frag) : Bool := tupAt K (He.ga K "ATOMS") [.str "le", .str "into", .str "off"] && (tupAt K (He.ga K "SIDES") [.str "yes", .str "no"] && (tupAt K (He.ga K "YES") [.str "and", .ref (itAt K (He.ga K "YES") 1)] && (tupAt K (itAt K (He.ga K "YES") 1) [] &&
  (He.valsB K (He.ga K "KINDS") [("yes", .str "some"), ("no", .str "all")] && He.valsB K (He.ga K "OTHER") [("yes", .str "no"), ("no", .str "yes")]))))
def ex2 (K : PySem.W.Frag) : Bool := rtBB K (He.ga K "NotDefended") && (rtBB K (He.ga K "NothingToUndo") && (excCB K (He.ga K "NotDefended") && (excCB K (He.ga K "NothingToUndo") && (excCB K (He.ga K "InvalidNumbers") && (xfB K (He.ga K "InvalidNumbers") && (oexB K (He.ga K "InvalidNumbers") &&
  (decide (PySem.W.findIn K (.ref (He.ga K "InvalidNumbers")) "value" = some none) && (decide (PySem.W.kitOne K (.ref (He.ga K "NotDefended")) (.ref (He.ga K "StateError")) = some true) && (decide (PySem.W.kitOne K (.ref (He.ga K "NothingToUndo")) (.ref (He.ga K "StateError")) = some true) &&
  (decide (PySem.W.kitOne K (.ref (He.ga K "InvalidNumbers")) (.ref (He.ga K "BookError")) = some true) && (decide (PySem.W.findIn K (.ref (He.ga K "InvalidNumbers")) "__setattr__" = some (some (.builtin "object.__setattr__"))) && (decide (PySem.W.subIn K (.ref (He.ga K "InvalidNumbers")) (.type "BaseException") = some true) &&
  (decide (PySem.W.typeIn K (.ref (He.ga K "InvalidNumbers")) = some (.type "type")) && (decide (PySem.W.findIn K (.ref (He.ga K "InvalidNumbers")) "__init__" = some (some (.ref (He.ma K (He.ga K "InvalidNumbers") "__init__")))) && (decide (PySem.W.typeIn K (.ref (He.ma K (He.ga K "InvalidNumbers") "__init__")) = some (.type "function")) &&
  !((He.cT K tMr).2 == (He.cT K tWr).2))))))))))))))))
def ex (K : PySem.W.Frag) : Bool := ex1 K && ex2 K
abbrev hdR : PySem.W.OpenRow := PySem.W.OpenLaw.row PySem.Challenge.rw_defended_k85_whole_matches_by_hand
def nm0 : List PySem.Str := ["BookError", "StateError", "InvalidDefence", "InvalidNumbers", "NothingToUndo", "NotDefended", "is_integer", "is_count", "is_list", "GREATEST", "are_numbers", "worth", "is_linear", "is_number", "LE", "INTO", "OFF", "AND", "OR", "ATOMS", "YES", "atom_holds", "holds", "WORD", "SIDES", "KINDS", "OVER_judge", "LOW_judge", "HIGH", "MOST_DEEP"]
def nm1 : List PySem.Str := ["MOST_PIECES", "FIGURES", "is_near", "is_sum", "is_divisor", "is_atom", "is_bare_formula", "is_value", "is_piece", "own_variables", "has_form", "matrix_holds", "OVER_values", "LOW_values", "divided", "value_at", "piece_at", "told_by", "OTHER", "want_played", "want_answers", "told_number", "plans_by_variable", "all_numbers", "played", "Match", "_law_pot", "_law_draw", "_law_pick", "_law_n"]
def nm2 : List PySem.Str := ["_law_v", "_law_term", "_law_atom", "_law_bare", "_law_sum", "_law_made", "_law_le", "_law_formula", "_law_is_so", "_law_prenex", "_law_linear", "_law_guard", "_law_value", "_law_plan", "_law_own", "_law_defence", "_law_total", "_law_told", "_law_play", "_law_rows", "_law_heard", "_law_next", "_law_looks", "_law_go_on", "_law_match_right", "_law_whole_right", "_law_right"]
def loose : List PySem.Str := nm0 ++ (nm1 ++ (nm2))
abbrev hk : PySem.W.Hook := He.hookX 4 fa fn ts tf ex
def ob (s : PySem.W.SharedT) : He.AlX := He.obsX 4 fa fn ts tf ex (HandSHeadRun.getT s)
theorem ob_eq (s : PySem.W.SharedT) : ob s = hk.obs s.abs := He.obsX_eq (HandSHeadRun.getT_eq s)
theorem runF (w : World) : HandSHeadRun.RunEq hdR (PySem.W.view hdR.prog [97]) hk ob 6000 loose (w.withFollow "special-get-raises" false) := by
  intro os
  kernel_rfl
theorem runT (w : World) : HandSHeadRun.RunEq hdR (PySem.W.view hdR.prog [97]) hk ob 6000 loose (w.withFollow "special-get-raises" true) := by
  intro os
  kernel_rfl
theorem run (w : World) : HandSHeadRun.RunEq hdR (PySem.W.view hdR.prog [97]) hk ob 6000 loose w := PySem.W.byRow2 "special-get-raises" runF runT w
end K85

/-! ### text HL -/
/-! the end of a law whose def keeps its promise where nothing is being shown (FnG) -/
namespace Lay
open PySem PySem.Spec PyProof.Rows L2
section
variable {P : Program} {w : World} {K : PySem.W.Frag} {mg mb : Str → Option Value} {k : Nat} {fa a : Addr} {cs : List (Addr × Addr)} {x : Str} {sp : Sp} {st : Shared} {us : List Value} {ns : List Int}
abbrev scO (us : List Value) : Obj := { cls := .type "list", data := .seq us.toArray }
abbrev emO : Obj := { cls := .none, data := .fields #[] }
open Classical in
/-- the tracked heap at the start: the tables, and the script where it is not written down -/
noncomputable def Hst (K : PySem.W.Frag) (a : Addr) (cs : List (Addr × Addr)) (us : List Value) (ns : List Int) : Hp := fun b =>
  if b ∈ cs.map (fun p => p.2) then some (.tbl #[]) else if b = a ∧ K.lookup a = none then some (.frz (scO us) (.lst (ns.map V.int))) else none
theorem Hst_tab {b : Addr} (hb : b ∈ cs.map (fun p => p.2)) : Hst K a cs us ns b = some (.tbl #[]) := by
  unfold Hst
  rw [if_pos hb]
theorem Hst_inv {b : Addr} {u : HO} (hu : Hst K a cs us ns b = some u) : (b ∈ cs.map (fun p => p.2) ∧ u = .tbl #[]) ∨ (b = a ∧ K.lookup a = none ∧ u = .frz (scO us) (.lst (ns.map V.int))) := by
  unfold Hst at hu
  by_cases h1 : b ∈ cs.map (fun p => p.2)
  · rw [if_pos h1] at hu
    exact .inl ⟨h1, (Option.some.inj hu).symm⟩
  · rw [if_neg h1] at hu
    by_cases h2 : b = a ∧ K.lookup a = none
    · rw [if_pos h2] at hu
      exact .inr ⟨h2.1, h2.2, (Option.some.inj hu).symm⟩
    · rw [if_neg h2] at hu
      cases hu
theorem law_endG (KX : K.In st.heap) (hmain : st.heap.Ns mainGlobals mg) (hblt : st.heap.Ns builtinsNs mb) (hboot : ∀ y : Str, y ≠ "__name__" → mb y = bootBuiltins y) (hlim : st.heap.NoLimit) (hgen : st.gens = #[])
    (hT : ∀ p ∈ cs, st.heap.get? p.2 = some emO) (nT : ∀ p ∈ cs, K.lookup p.2 = none) (hC : ∀ p ∈ cs, PySem.W.CodeHd st.heap p.1 p.2)
    (hmod : ∃ (m : Addr) (o : Obj), mg "__builtins__" = some (.ref m) ∧ m ≠ builtinsNs ∧ st.heap.get? m = some o ∧ o.cls = .type "module" ∧ o.dict = some builtinsNs ∧ o.data = .plain)
    (hscr : st.heap.get? a = some (scO us)) (hint : IntsAre us ns) (hlen : ns.length ≤ sizeLine) (hroom : Room k callerA)
    (F : ∀ base : Heap, K.In base → base.Ns mainGlobals mg → (∀ p ∈ cs, LamX.TabB base mg p.1 p.2) → ∃ fd, Binds K fd [x] [] ∧ FnG P w K mg base k fa fd [x] sp)
    (hsp : ∀ H : Hp, (∀ p ∈ cs, H p.2 = some (.tbl #[])) → SqL K H a (ns.map V.int) → sp [.ref a] H (fun v _ => v = .bl true) fun _ _ _ => False) :
    codeAny (model P w) callerA (.call (.ref fa) ⟨[.ref a], []⟩) (fun r s' => r = .ok (.ret (.bool true)) ∧ OldK st.heap s'.heap ∧ s'.os = st.os ∧ AllBare s'.gens) st := by
  have rel := vals_ints hint
  have ulen := hint.length
  have tabAt : ∀ {b : Addr}, b ∈ cs.map (fun p => p.2) → ∃ p ∈ cs, p.2 = b := fun {b} hb => by
    obtain ⟨p, hp, e⟩ := List.mem_map.mp hb
    exact ⟨p, hp, e⟩
  have inTab : ∀ {p : Addr × Addr}, p ∈ cs → p.2 ∈ cs.map (fun p => p.2) := fun {p} hp => List.mem_map.mpr ⟨p, hp, rfl⟩
  have getTab : ∀ {b : Addr}, b ∈ cs.map (fun p => p.2) → st.heap.get? b = some emO := fun {b} hb => by
    obtain ⟨p, hp, e⟩ := tabAt hb
    rw [← e]
    exact hT p hp
  have aNo : a ∉ cs.map (fun p => p.2) := fun hb => by
    have e := getTab hb
    rw [hscr] at e
    have d : Data.seq us.toArray _ = Data.fields #[] := congrArg Obj.data (Option.some.inj e)
    cases d
  obtain ⟨H, hH⟩ : ∃ H, H = Hst K a cs us ns := ⟨_, rfl⟩
  have Htab : ∀ p ∈ cs, H p.2 = some (.tbl #[]) := fun p hp => by rw [hH]; exact Hst_tab (inTab hp)
  have Hinv : ∀ {b : Addr} {u : HO}, H b = some u → (b ∈ cs.map (fun p => p.2) ∧ u = .tbl #[]) ∨ (b = a ∧ K.lookup a = none ∧ u = .frz (scO us) (.lst (ns.map V.int))) := fun {b u} e => Hst_inv (by rw [← hH]; exact e)
  have Hscr : SqL K H a (ns.map V.int) := by
    cases hk : K.lookup a with
    | none =>
      refine .inl (.inr ⟨scO us, ?_⟩)
      rw [hH]
      unfold Hst
      rw [if_neg aNo, if_pos ⟨rfl, hk⟩]
    | some o =>
      have e := KX a o hk
      rw [hscr] at e
      have eo : o = scO us := (Option.some.inj e).symm
      subst eo
      refine .inr ⟨_, us.toArray, _, hk, rfl, rfl, rfl, ?_, ?_⟩
      · rw [List.size_toArray, ulen]
        exact hlen
      · simpa using rel
  have Hok : HOk P w H st.heap := fun b u e => by
    rcases Hinv e with ⟨hb, rfl⟩ | ⟨rfl, _, rfl⟩
    · exact getTab hb
    · refine ⟨hscr, ?_, us, _, rel, hscr⟩
      rw [List.length_map]
      exact hlen
  -- an object that is neither the script nor a table is untracked
  have untr : ∀ {b : Addr} {o : Obj}, st.heap.get? b = some o → (∀ vs n, o.data ≠ .seq vs n) → o.data ≠ .fields #[] → H b = none := fun {b o} e n1 n2 => by
    cases q : H b with
    | none => rfl
    | some u =>
      rcases Hinv q with ⟨hb, _⟩ | ⟨hb, _, _⟩
      · rw [getTab hb] at e
        exact absurd (congrArg Obj.data (Option.some.inj e)).symm n2
      · rw [hb, hscr] at e
        exact absurd (congrArg Obj.data (Option.some.inj e)).symm (n1 _ _)
  have toBase : ∀ {b : Addr} {o : Obj}, st.heap.get? b = some o → H b = none → (hidT st.heap H).get? b = some o := fun e n => hidT_get e n
  have nsBase : ∀ {b : Addr} {m : Str → Option Value}, st.heap.Ns b m → (hidT st.heap H).Ns b m := fun {b m} z => by
    obtain ⟨o, es, ep, e, d, r⟩ := z
    refine ⟨o, es, ep, toBase e (untr e (fun vs n q => ?_) fun q => ?_), d, r⟩ <;> (rw [d] at q; cases q)
  have KB : K.In (hidT st.heap H) := fun b o e => toBase (KX b o e) (by
    cases q : H b with
    | none => rfl
    | some u =>
      rcases Hinv q with ⟨hb, _⟩ | ⟨hb, hn, _⟩
      · obtain ⟨p, hp, ep⟩ := tabAt hb
        rw [← ep, nT p hp] at e
        cases e
      · rw [hb, hn] at e
        cases e)
  have modB : L2.Mod K mg (hidT st.heap H) := by
    refine ⟨KB, nsBase hmain, ⟨mb, nsBase hblt, hboot⟩, ?_⟩
    obtain ⟨mc, z1, z2⟩ := hlim
    exact ⟨mc, nsBase z1, z2⟩
  have TB : ∀ p ∈ cs, LamX.TabB (hidT st.heap H) mg p.1 p.2 := fun p hp => by
    have tp := hT p hp
    have noG : mainGlobals ≠ p.2 := fun z => by
      obtain ⟨o, es, ep, e, d, _⟩ := hmain
      rw [z, tp] at e
      cases e
      cases d
    refine ⟨?_, ?_, noG⟩
    · obtain ⟨o, vs, fl, tf, fg, tg, nf, tx, tt, e1, r1, r2, r3, rest⟩ := hC p hp
      refine ⟨o, vs, fl, tf, fg, tg, nf, tx, tt, toBase e1 (untr e1 (fun y n z => ?_) fun z => ?_), r1, r2, r3, rest⟩
      · rw [r2] at z
        cases z
      · rw [r2] at z
        cases z
        simp at r3
    · obtain ⟨m, o, b1, b2, b3, b4, b5, b6⟩ := hmod
      have nm : m ≠ mainGlobals := fun z => by
        obtain ⟨o2, es, ep, e, d, _⟩ := hmain
        rw [z, e] at b3
        cases b3
        rw [d] at b6
        cases b6
      have np : m ≠ p.2 := fun z => by
        rw [z, tp] at b3
        cases b3
        cases b6
      refine ⟨m, o, b1, b2, nm, np, toBase b3 (untr b3 (fun y n z => ?_) fun z => ?_), b4, b5, b6⟩ <;> (rw [b6] at z; cases z)
  have start : Env0 P w K mg (hidT st.heap H) callerA [] st H := ⟨rfl, modB, fun b o e => of_hidT e, Nat.le_of_eq (hidT_size _ _), trivial, (fun b hb => by cases hb), Hok, .of_eq hgen⟩
  obtain ⟨fd, hbd, FG⟩ := F _ KB (nsBase hmain) TB
  refine codeAny_mono (FG.run callerA [] st H ⟨[.ref a], []⟩ [.ref a] [.ref a] _ _ rfl hroom start (hbd st [.ref a] KX rfl) (.cons rfl .nil) (hsp H Htab Hscr)) fun r s' hq => ?_
  cases r with
  | error e => exact hq.elim
  | ok fl =>
    cases fl with
    | next => exact False.elim hq
    | brk => exact False.elim hq
    | cont => exact False.elim hq
    | ret u =>
      obtain ⟨v, H', hos, bare, un, ok', rv, ev⟩ := hq
      have ev' : v = .bl true := ev
      subst ev'
      obtain rfl : u = Value.bool true := rv
      have stays : ∀ b o, b ∉ cs.map (fun p => p.2) → st.heap.get? b = some o → s'.heap.get? b = some o := fun b o nb e => by
        cases q : H b with
        | none => exact un.keep b o e q (by intro z; cases z) (by simp)
        | some u =>
          rcases Hinv q with ⟨hb, _⟩ | ⟨rfl, _, rfl⟩
          · exact absurd hb nb
          · obtain ⟨e2, _⟩ := ok' b _ (un.frzs b _ _ q)
            rw [hscr] at e
            cases e
            exact e2
      have grow : ∀ p ∈ cs, ∃ more : Array Value, s'.heap.get? p.2 = some { cls := .none, data := .fields more } := fun p hp => by
        obtain ⟨more, z⟩ := un.tbls p.2 #[] (Htab p hp)
        exact ⟨_, ok' p.2 _ z⟩
      refine ⟨rfl, ⟨fun b o e => ?_, fun b o e => ?_⟩, hos, bare⟩
      · by_cases hb : b ∈ cs.map (fun p => p.2)
        · obtain ⟨p, hp, ep⟩ := tabAt hb
          obtain ⟨more, hm⟩ := grow p hp
          rw [← ep] at e ⊢
          rw [hT p hp] at e
          cases e
          exact .inr (.inl ⟨((hC p hp).tab (hT p hp)).isCodeTable, rfl, #[], more, rfl, by rw [Array.empty_append]; exact hm⟩)
        · exact .inl (stays b o hb e)
      · by_cases hb : b ∈ cs.map (fun p => p.2)
        · obtain ⟨p, hp, ep⟩ := tabAt hb
          obtain ⟨more, hm⟩ := grow p hp
          rw [← ep]
          exact ⟨_, hm⟩
        · exact ⟨o, stays b o hb e⟩
/-- what is known of the law at the head's heap -/
def LawG (l : PySem.W.OpenLaw) (w : World) (K : PySem.W.Frag) (k n : Nat) (x : Str) (mg : Str → Option Value) (fa : Addr) (h : Heap) : Prop :=
  ∃ (cs : List (Addr × Addr)) (sp : Sp), (∀ p ∈ cs, h.get? p.2 = some emO) ∧ (∀ p ∈ cs, K.lookup p.2 = none) ∧ (∀ p ∈ cs, PySem.W.CodeHd h p.1 p.2) ∧
    (∀ (H : Hp) (a : Addr) (ns : List Int), ns.length ≤ n → (∀ z ∈ ns, Builtin.Int.intBits z ≤ 1048576) → (∀ p ∈ cs, H p.2 = some (.tbl #[])) → SqL K H a (ns.map V.int) → sp [.ref a] H (fun v _ => v = .bl true) fun _ _ _ => False) ∧
    ∀ base : Heap, K.In base → base.Ns mainGlobals mg → (∀ p ∈ cs, LamX.TabB base mg p.1 p.2) → ∃ fd, Binds K fd [x] [] ∧ FnG l.prog w K mg base k fa fd [x] sp
theorem walk_lawG {l : PySem.W.OpenLaw} {n k : Nat} {q : Program} {loose : List Str} {XP : (Str → Option Value) → Heap → Prop} {YP : World → Heap → Prop} {d : DefRec} {x : Str} (hn : l.most = some n) (hn2 : n ≤ sizeLine) (hdf : d.params.defaults = []) (hr : Room k callerA)
    (F : ∀ (w : World) (mg : Str → Option Value) (fa : Addr) (h : Heap), YP w h → h.Ns mainGlobals mg → mg d.name = some (.ref fa) → ∃ K : PySem.W.Frag, K.In h ∧ LawG l w K k n x mg fa h) :
    PySem.W.WalkO q loose XP YP l.row.toRowW d [] (fun f vs => PySem.call f vs) := by
  refine Att.attach_callB hn hdf fun w s0 st mg mb fa o pm cd doc a us ns G Y ho hd hcd hmg hobj hints hlen hbits hg => ?_
  obtain ⟨K, KX, cs, sp, hT, nT, hC, hsp, hF⟩ := F w mg fa _ Y G.T.g hmg
  exact law_endG KX G.T.g G.T.b G.T.builtins G.T.nolimit hg hT nT hC G.T.bmain hobj hints (Nat.le_trans hlen hn2) hr hF fun H hH hS => hsp H a ns hlen hbits hH hS
end
end Lay

/-! ### text HX -/
open PySem PySem.W PySem.Calls PyProof.Rows
/-- the top's run and the law's end, the law's own promise left open -/
theorem K85.fin (sp : PySem.W.Frag → L2.Sp)
    (hs : ∀ (K : PySem.W.Frag) (H : L2.Hp) (a : Addr) (ns : List Int), ns.length ≤ 63 → (∀ z ∈ ns, Builtin.Int.intBits z ≤ 1048576) → (∀ p ∈ [He.cT K K85.tMr, He.cT K K85.tWr], H p.2 = some (.tbl #[])) → L2.SqL K H a (ns.map L2.V.int) → sp K [.ref a] H (fun v _ => v = .bl true) fun _ _ _ => False)
    (hc : ∀ (w : World) (K : PySem.W.Frag) (mg : PySem.Str → Option Value) (h base : Heap), K.In h → h.Ns mainGlobals mg → He.SaysX K85.fa K85.fn K85.ts K85.tf K85.ex w h K → (∀ p ∈ [He.cT K K85.tMr, He.cT K K85.tWr], LamX.TabB base mg p.1 p.2) → Lay.CalG (PySem.Challenge.rw_defended_k85_whole_matches_by_hand).prog w K mg base "law" ["script"] 23 (sp K)) :
    PySem.Challenge.rw_defended_k85_whole_matches_by_hand.Holds := by
  w_on; o_law
  refine HandSHeadRun.head_any (r := OpenLaw.row PySem.Challenge.rw_defended_k85_whole_matches_by_hand) (q := view (OpenLaw.row PySem.Challenge.rw_defended_k85_whole_matches_by_hand).prog [97]) (H := K85.hk) (ob := K85.ob) (M := 6000) (loose := K85.loose) (d := HandSHeadRun.topDef (OpenLaw.row PySem.Challenge.rw_defended_k85_whole_matches_by_hand).prog 97) (kwd := []) K85.ob_eq
    (by kernel_rfl) (fun s => by kernel_rfl) K85.run (by kernel_rfl) (by kernel_rfl) (by kernel_rfl) (by rfl) (by first | assumption | decide +kernel) (by decide +kernel) ⟨rfl, rfl, rfl, rfl, rfl, by decide +kernel⟩ ?hw ?hc
  case hw => w_witness2
  case hc =>
    refine Lay.walk_lawG (l := PySem.Challenge.rw_defended_k85_whole_matches_by_hand) (n := 63) (k := 23) (x := "script") rfl (by decide) (by kernel_rfl) ⟨rfl, by decide, by decide⟩ ?F
    intro w mg fa h Y G hmg0
    obtain ⟨K, KX, c⟩ := Y
    have hmg : mg ("law" : PySem.Str) = some (.ref fa) := by
      have e : (HandSHeadRun.topDef (OpenLaw.row PySem.Challenge.rw_defended_k85_whole_matches_by_hand).prog 97).name = ("law" : PySem.Str) := by kernel_rfl
      rw [← e]
      exact hmg0
    refine ⟨K, KX, [He.cT K K85.tMr, He.cT K K85.tWr], sp K, ?_, ?_, ?_, ?_, ?_⟩
    · intro p hp
      rcases List.mem_cons.mp hp with z | z
      · subst z; exact c.empty _ List.mem_cons_self
      · have z2 : p = He.cT K K85.tWr := by simpa using z
        subst z2; exact c.empty _ (List.mem_cons_of_mem _ List.mem_cons_self)
    · intro p hp
      rcases List.mem_cons.mp hp with z | z
      · subst z; exact c.out _ List.mem_cons_self
      · have z2 : p = He.cT K K85.tWr := by simpa using z
        subst z2; exact c.out _ (List.mem_cons_of_mem _ List.mem_cons_self)
    · intro p hp
      rcases List.mem_cons.mp hp with z | z
      · subst z; exact codeHd_of_K KX (c.hd _ List.mem_cons_self)
      · have z2 : p = He.cT K K85.tWr := by simpa using z
        subst z2; exact codeHd_of_K KX (c.hd _ (List.mem_cons_of_mem _ List.mem_cons_self))
    · exact fun H a ns hl hb hT hS => hs K H a ns hl hb hT hS
    · intro base KB hns TB
      obtain ⟨f, fd, hm, hk, hbn, F⟩ := hc w K mg h base KX G c TB
      have ef := hmg.symm.trans hm
      cases ef
      exact ⟨fd, hbn, F⟩

/-! ### text D1 -/
namespace K85
open PySem PySem.Spec PyProof.Rows L2 Lay
theorem dp_r {K : PySem.W.Frag} {M : List Addr} {H H' : Hp} {v : V} {d : PyData} (e : R M H H') (h : Dp K H v d) (i : im d = true) : Dp K H' v d := R.dp e d v i h
theorem dp_x {K : PySem.W.Frag} {H H' : Hp} {v : V} {d : PyData} (e : Ex H H') (h : Dp K H v d) : Dp K H' v d := R.xp e d v h
theorem dp_bl {K : PySem.W.Frag} {H : Hp} {b c : Bool} (e : b = c) : Dp K H (.bl b) (.bool c) := by subst e; exact .bl _
theorem dp_int {K : PySem.W.Frag} {H : Hp} {b c : Int} (e : b = c) : Dp K H (.int b) (.int c) := by subst e; exact .int _
theorem seq_inv {K : PySem.W.Frag} {H : Hp} {v : V} {ds : List PyData} (h : Dp K H v (.tuple ds) ∨ Dp K H v (.list ds)) : ∃ a xs, v = .ref a ∧ (SqL K H a xs ∨ SqT K H a xs) ∧ DpAll K H xs ds := by
  rcases h with h | h
  · obtain ⟨a, xs, rfl, e2, e3⟩ := Dp.tup_inv h
    exact ⟨a, xs, rfl, .inr e2, e3⟩
  · obtain ⟨a, xs, rfl, e2, e3⟩ := Dp.lst_inv h
    exact ⟨a, xs, rfl, .inl e2, e3⟩
/-! data -/
abbrev Lin : Type := Int × List (Int × Int)
def eT (t : Int × Int) : PyData := .tuple [.int t.1, .int t.2]
def eL (l : Lin) : PyData := .tuple [.int l.1, .tuple (l.2.map eT)]
def eI (ns : List Int) : PyData := .list (ns.map PyData.int)
def at0 (ns : List Int) (v : Int) : Int := ns.getD v.toNat 0
def wsum (ns : List Int) (ts : List (Int × Int)) : Int := (ts.map fun t => t.2 * at0 ns t.1).sum
def worth (l : Lin) (ns : List Int) : Int := l.1 + wsum ns l.2
/-- the variables of a sum are below n, the multipliers small -/
def LinOk (n : Nat) (l : Lin) : Prop := l.2.length ≤ 100 ∧ ∀ t ∈ l.2, 0 ≤ t.1 ∧ t.1 < n ∧ -100 ≤ t.2 ∧ t.2 ≤ 100
theorem wsum_snoc {ns : List Int} {ts : List (Int × Int)} {i : Nat} {t : Int × Int} (e : ts[i]? = some t) : wsum ns (ts.take (i + 1)) = wsum ns (ts.take i) + t.2 * at0 ns t.1 := by
  unfold wsum
  rw [List.take_add_one, e, List.map_append, List.sum_append]
  simp
theorem at_ints {ns : List Int} {v : Int} (h0 : 0 ≤ v) (h1 : v < ns.length) : atI (ns.map PyData.int) v = some (.int (at0 ns v)) := by
  refine atI_nn h0 ?_
  have z : v.toNat < ns.length := by omega
  rw [List.getElem?_map, List.getElem?_eq_getElem z]
  unfold at0
  rw [List.getD_eq_getElem?_getD, List.getElem?_eq_getElem z]
  rfl
/-- formulas without quantifiers, as drawn ones are made -/
inductive Fm
  | le (l : Lin)
  | into (k : Int) (l : Lin)
  | off (k : Int) (l : Lin)
  | yes
  | both (f g : Fm)
  | one (f g : Fm)
def eF : Fm → PyData
  | .le l => .tuple [.str "le", eL l]
  | .into k l => .tuple [.str "into", .int k, eL l]
  | .off k l => .tuple [.str "off", .int k, eL l]
  | .yes => .tuple [.str "and", .tuple []]
  | .both f g => .tuple [.str "and", .tuple [eF f, eF g]]
  | .one f g => .tuple [.str "or", .tuple [eF f, eF g]]
def Fm.atom : Fm → Bool
  | .le _ => true
  | .into _ _ => true
  | .off _ _ => true
  | _ => false
def Fm.deep : Fm → Nat
  | .both f g => max f.deep g.deep + 1
  | .one f g => max f.deep g.deep + 1
  | .yes => 1
  | _ => 0
def FmOk (n : Nat) : Fm → Prop
  | .le l => LinOk n l
  | .into k l => 0 < k ∧ k < 100 ∧ LinOk n l
  | .off k l => 0 < k ∧ k < 100 ∧ LinOk n l
  | .yes => True
  | .both f g => FmOk n f ∧ FmOk n g
  | .one f g => FmOk n f ∧ FmOk n g
def fh (ns : List Int) : Fm → Bool
  | .le l => decide (worth l ns ≤ 0)
  | .into k l => decide (worth l ns % k = 0)
  | .off k l => !decide (worth l ns % k = 0)
  | .yes => true
  | .both f g => fh ns f && fh ns g
  | .one f g => fh ns f || fh ns g
theorem im_T (t : Int × Int) : im (eT t) = true := rfl
theorem ims_T (ts : List (Int × Int)) : ims (ts.map eT) = true := ims_of fun d hd => by
  obtain ⟨t, _, rfl⟩ := List.mem_map.mp hd
  rfl
theorem im_L (l : Lin) : im (eL l) = true := by simp [eL, im, ims, ims_T]
theorem im_F : ∀ f : Fm, im (eF f) = true
  | .le l => by simp [eF, im, ims, im_L]
  | .into _ l => by simp [eF, im, ims, im_L]
  | .off _ l => by simp [eF, im, ims, im_L]
  | .yes => by simp [eF, im, ims]
  | .both f g => by simp [eF, im, ims, im_F f, im_F g]
  | .one f g => by simp [eF, im, ims, im_F f, im_F g]
/-- VALUES -/
inductive Va
  | over (l : Lin) (by_ : Int)
  | low (ls : List Lin) (rest per by_ : Int)
  | high (ls : List Lin) (rest per by_ : Int)
def eV : Va → PyData
  | .over l b => .tuple [.str "over", eL l, .int b]
  | .low ls r p b => .tuple [.str "low", .tuple (ls.map eL), .int r, .int p, .int b]
  | .high ls r p b => .tuple [.str "high", .tuple (ls.map eL), .int r, .int p, .int b]
def VaOk (n : Nat) : Va → Prop
  | .over l b => LinOk n l ∧ 0 < b ∧ b < 100
  | .low ls r p b => (∀ l ∈ ls, LinOk n l) ∧ 0 ≤ r ∧ r < p ∧ p < 100 ∧ 0 < b ∧ b < 100 ∧ ls.length ≤ 100
  | .high ls r p b => (∀ l ∈ ls, LinOk n l) ∧ 0 ≤ r ∧ r < p ∧ p < 100 ∧ 0 < b ∧ b < 100 ∧ ls.length ≤ 100
def div? (n b : Int) : Option Int := if n % b = 0 then some (n / b) else none
def eO : Option Int → PyData
  | some i => .int i
  | none => .none
def minL : List Int → Int
  | [] => 0
  | [x] => x
  | x :: y :: r => min x (minL (y :: r))
def maxL : List Int → Int
  | [] => 0
  | [x] => x
  | x :: y :: r => max x (maxL (y :: r))
theorem minL_mem : ∀ {xs : List Int}, xs ≠ [] → minL xs ∈ xs ∧ ∀ y ∈ xs, minL xs ≤ y
  | [], h => absurd rfl h
  | [x], _ => by simp [minL]
  | x :: y :: r, _ => by
    obtain ⟨h1, h2⟩ := minL_mem (xs := y :: r) (by simp)
    unfold minL
    refine ⟨?_, fun z hz => ?_⟩
    · rcases Int.le_total x (minL (y :: r)) with h | h
      · rw [Int.min_eq_left h]
        exact List.mem_cons_self
      · rw [Int.min_eq_right h]
        exact List.mem_cons_of_mem _ h1
    · rcases List.mem_cons.mp hz with e | e
      · subst e
        exact Int.min_le_left _ _
      · exact Int.le_trans (Int.min_le_right _ _) (h2 z e)
theorem maxL_mem : ∀ {xs : List Int}, xs ≠ [] → maxL xs ∈ xs ∧ ∀ y ∈ xs, y ≤ maxL xs
  | [], h => absurd rfl h
  | [x], _ => by simp [maxL]
  | x :: y :: r, _ => by
    obtain ⟨h1, h2⟩ := maxL_mem (xs := y :: r) (by simp)
    unfold maxL
    refine ⟨?_, fun z hz => ?_⟩
    · rcases Int.le_total x (maxL (y :: r)) with h | h
      · rw [Int.max_eq_right h]
        exact List.mem_cons_of_mem _ h1
      · rw [Int.max_eq_left h]
        exact List.mem_cons_self
    · rcases List.mem_cons.mp hz with e | e
      · subst e
        exact Int.le_max_left _ _
      · exact Int.le_trans (h2 z e) (Int.le_max_right _ _)
theorem minL_of {xs : List Int} {m : Int} (h : m ∈ xs) (h2 : ∀ y ∈ xs, m ≤ y) : m = minL xs := by
  obtain ⟨a, b⟩ := minL_mem (xs := xs) (fun z => by rw [z] at h; cases h)
  exact Int.le_antisymm (h2 _ a) (b _ h)
theorem maxL_of {xs : List Int} {m : Int} (h : m ∈ xs) (h2 : ∀ y ∈ xs, y ≤ m) : m = maxL xs := by
  obtain ⟨a, b⟩ := maxL_mem (xs := xs) (fun z => by rw [z] at h; cases h)
  exact Int.le_antisymm (b _ h) (h2 _ a)
/-- the number that a VALUE tells -/
def vnum (ns : List Int) : Va → Option Int
  | .over l b => div? (worth l ns) b
  | .low ls r p b => if ls = [] then div? r b else
      let k := minL (ls.map fun l => worth l ns) - 1
      div? (k - (k - r) % p) b
  | .high ls r p b => if ls = [] then div? r b else
      let k := maxL (ls.map fun l => worth l ns) + 1
      div? (k + (r - k) % p) b
theorem ims_Ls (ls : List Lin) : ims (ls.map eL) = true := ims_of fun d hd => by
  obtain ⟨t, _, rfl⟩ := List.mem_map.mp hd
  exact im_L t
theorem im_V (v : Va) : im (eV v) = true := by cases v <;> simp [eV, im, ims, im_L, ims_Ls]
abbrev Pl : Type := List (Fm × Va)
def eP1 (p : Fm × Va) : PyData := .tuple [eF p.1, eV p.2]
def eP (p : Pl) : PyData := .tuple (p.map eP1)
theorem im_P1 (p : Fm × Va) : im (eP1 p) = true := by simp [eP1, im, ims, im_F, im_V]
theorem ims_P (p : Pl) : ims (p.map eP1) = true := ims_of fun d hd => by
  obtain ⟨t, _, rfl⟩ := List.mem_map.mp hd
  exact im_P1 t
theorem im_P (p : Pl) : im (eP p) = true := by simp [eP, im, ims_P]
/-- where the first piece whose formula holds stands -/
def pix (ns : List Int) : Pl → Option Nat
  | [] => none
  | p :: r => if fh ns p.1 then some 0 else (pix ns r).map (· + 1)
def tnum (ns : List Int) (p : Pl) : Option Int := (pix ns p).bind fun i => (p[i]?).bind fun q => vnum ns q.2
def PlOk (n : Nat) (p : Pl) : Prop := (∀ q ∈ p, FmOk n q.1 ∧ q.1.deep ≤ 2 ∧ VaOk n q.2) ∧ (∃ q r, p = r ++ [q] ∧ q.1 = .yes) ∧ p.length ≤ 100
theorem pix_some {ns : List Int} : ∀ {p : Pl} {q : Fm × Va} {r : Pl}, p = r ++ [q] → q.1 = .yes → ∃ i x, pix ns p = some i ∧ p[i]? = some x
  | [], _, r, e, _ => by simp at e
  | x :: p, q, [], e, hq => by
    simp at e
    obtain ⟨rfl, rfl⟩ := e
    exact ⟨0, x, by simp [pix, hq, fh], by simp⟩
  | x :: p, q, y :: r, e, hq => by
    simp at e
    obtain ⟨rfl, e⟩ := e
    obtain ⟨i, z, h1, h2⟩ := pix_some (ns := ns) e hq
    unfold pix
    by_cases h : fh ns x.1 = true
    · exact ⟨0, x, by rw [if_pos h], by simp⟩
    · exact ⟨i + 1, z, by rw [if_neg h, h1]; rfl, by simpa using h2⟩
theorem pix_at {ns : List Int} : ∀ {p : Pl} {i : Nat} {q : Fm × Va}, (∀ j x, j < i → p[j]? = some x → fh ns x.1 = false) → p[i]? = some q → fh ns q.1 = true → pix ns p = some i
  | [], _, _, _, e, _ => by simp at e
  | x :: p, 0, q, _, e, h => by
    simp at e
    subst e
    simp [pix, h]
  | x :: p, i + 1, q, hj, e, h => by
    have h0 := hj 0 x (Nat.succ_pos _) (by simp)
    have ih := pix_at (p := p) (i := i) (q := q) (fun j y hji e => hj (j + 1) y (Nat.succ_lt_succ hji) (by simpa using e)) (by simpa using e) h
    simp [pix, h0, ih]
theorem pix_none {ns : List Int} : ∀ {p : Pl}, (∀ (j : Nat) x, p[j]? = some x → fh ns x.1 = false) → pix ns p = none
  | [], _ => rfl
  | x :: p, h => by
    have h0 := h 0 x (by simp)
    have ih := pix_none (p := p) fun j y e => h (j + 1) y (by simpa using e)
    simp [pix, h0, ih]
theorem _root_.L2.DpAll.inv5 {K : PySem.W.Frag} {H : Hp} {vs : List V} {d d1 d2 d3 d4 : PyData} (h : DpAll K H vs [d, d1, d2, d3, d4]) : ∃ v w x y z, vs = [v, w, x, y, z] ∧ Dp K H v d ∧ Dp K H w d1 ∧ Dp K H x d2 ∧ Dp K H y d3 ∧ Dp K H z d4 := by
  cases h with
  | cons q r =>
    obtain ⟨w, x, y, z, rfl, r2⟩ := DpAll.inv4 r
    exact ⟨_, _, _, _, _, rfl, q, r2⟩
theorem x_gtupN {K : PySem.W.Frag} {H : Hp} {v : V} {σ : L2.St} {gs : TGs} {N : L2.St → Hp → Prop} {n : Nat} {ds : List PyData} (h : Dp K H v (.tuple ds)) (hn : ds.length = n) (q : ∀ vs, DpAll K H vs ds → gs vs σ H N) : gTup K n gs v σ H N := by
  obtain ⟨a, vs, rfl, hs, hd⟩ := Dp.tup_inv h
  exact ⟨a, vs, rfl, hs, by rw [hd.len]; exact hn, q _ hd⟩
/-! prenexes: kinds (true: some), matrix -/
def kS (b : Bool) : Str := if b = true then "some" else "all"
def sS (b : Bool) : Str := if b = true then "yes" else "no"
abbrev Pre : Type := List Bool × Fm
def eX (f : Pre) : PyData := .tuple [.str "prenex", .int 0, .tuple (f.1.map fun b => .str (kS b)), eF f.2]
def ownF (o : Int) (b : Bool) : List Bool → List Int
  | [] => []
  | k :: r => if k = b then o :: ownF (o + 1) b r else ownF (o + 1) b r
theorem ownF_app (b : Bool) : ∀ (xs ys : List Bool) (o : Int), ownF o b (xs ++ ys) = ownF o b xs ++ ownF (o + xs.length) b ys
  | [], ys, o => by simp [ownF]
  | x :: xs, ys, o => by
    have ih := ownF_app b xs ys (o + 1)
    have e : o + 1 + (xs.length : Int) = o + ((xs.length + 1 : Nat) : Int) := by omega
    show (if x = b then o :: ownF (o + 1) b (xs ++ ys) else ownF (o + 1) b (xs ++ ys)) = (if x = b then o :: ownF (o + 1) b xs else ownF (o + 1) b xs) ++ ownF (o + ((xs.length + 1 : Nat) : Int)) b ys
    rw [ih, e]
    by_cases h : x = b <;> simp [h]
theorem ownF_snoc {b k : Bool} {ks : List Bool} {i : Nat} (e : ks[i]? = some k) : ownF 0 b (ks.take (i + 1)) = ownF 0 b (ks.take i) ++ if k = b then [(i : Int)] else [] := by
  have hi := (List.getElem?_eq_some_iff.mp e).1
  rw [List.take_add_one, e, ownF_app, List.length_take, Nat.min_eq_left (Nat.le_of_lt hi)]
  by_cases h : k = b <;> simp [h, ownF]
theorem kS_eq (a b : Bool) : decide (kS a = kS b) = decide (a = b) := by cases a <;> cases b <;> decide
theorem sS_eq (a b : Bool) : decide (sS a = sS b) = decide (a = b) := by cases a <;> cases b <;> decide
theorem ims_ints (ns : List Int) : ims (ns.map PyData.int) = true := ims_of fun d hd => by
  obtain ⟨t, _, rfl⟩ := List.mem_map.mp hd
  rfl
theorem ims_kinds (ns : List Bool) : ims (ns.map fun b => PyData.str (kS b)) = true := ims_of fun d hd => by
  obtain ⟨t, _, rfl⟩ := List.mem_map.mp hd
  rfl
theorem im_X (f : Pre) : im (eX f) = true := by simp [eX, im, ims, im_F, ims_kinds]
/-! shapes -/
def Sh (n : Nat) (d : PyData) : Prop := d.canLay0 = true ∧ d.depth ≤ n
theorem Sh.mono {n m : Nat} {d : PyData} (h : Sh n d) (e : n ≤ m) : Sh m d := ⟨h.1, Nat.le_trans h.2 e⟩
theorem sh_all {n : Nat} : ∀ {ds : List PyData}, (∀ d ∈ ds, Sh n d) → PyData.canLayAll0 ds = true ∧ PyData.depthAll ds ≤ n
  | [], _ => ⟨by simp [PyData.canLayAll0], by simp [PyData.depthAll]⟩
  | d :: ds, h => by
    obtain ⟨h1, h2⟩ := sh_all (ds := ds) fun x hx => h x (List.mem_cons_of_mem _ hx)
    obtain ⟨h3, h4⟩ := h d List.mem_cons_self
    exact ⟨by simp [PyData.canLayAll0, h1, h3], by simp only [PyData.depthAll]; omega⟩
theorem Sh.tup {n : Nat} {ds : List PyData} (h : ∀ d ∈ ds, Sh n d) : Sh (n + 1) (.tuple ds) := by
  obtain ⟨h1, h2⟩ := sh_all h
  exact ⟨by simp [PyData.canLay0, h1], by simp only [PyData.depth]; omega⟩
theorem Sh.lst {n : Nat} {ds : List PyData} (h : ∀ d ∈ ds, Sh n d) : Sh (n + 1) (.list ds) := by
  obtain ⟨h1, h2⟩ := sh_all h
  exact ⟨by simp [PyData.canLay0, h1], by simp only [PyData.depth]; omega⟩
theorem Sh.int {n : Nat} {i : Int} : Sh n (.int i) := ⟨by simp [PyData.canLay0], by simp [PyData.depth]⟩
theorem Sh.non {n : Nat} : Sh n .none := ⟨by simp [PyData.canLay0], by simp [PyData.depth]⟩
theorem Sh.bl {n : Nat} {b : Bool} : Sh n (.bool b) := ⟨by simp [PyData.canLay0], by simp [PyData.depth]⟩
theorem Sh.str {n : Nat} {s : Str} (h : PyData.strOk s = true) : Sh n (.str s) := ⟨by simp [PyData.canLay0, h], by simp [PyData.depth]⟩
theorem Sh.ok {d : PyData} (h : Sh 64 d) : SeqAt.shaped d = true := by
  unfold SeqAt.shaped
  rw [h.1, decide_eq_true h.2]
  rfl
theorem sh_T (t : Int × Int) : Sh 1 (eT t) := Sh.tup fun d hd => by
  have : d = .int t.1 ∨ d = .int t.2 := by simpa using hd
  rcases this with e | e <;> (subst e; exact .int)
theorem sh_L (l : Lin) : Sh 3 (eL l) := Sh.tup fun d hd => by
  have : d = .int l.1 ∨ d = .tuple (l.2.map eT) := by simpa using hd
  rcases this with e | e
  · subst e
    exact .int
  · subst e
    refine Sh.tup fun x hx => ?_
    obtain ⟨t, _, rfl⟩ := List.mem_map.mp hx
    exact sh_T t
theorem sh_Ls (ls : List Lin) : Sh 4 (.tuple (ls.map eL)) := Sh.tup fun x hx => by
  obtain ⟨t, _, rfl⟩ := List.mem_map.mp hx
  exact sh_L t
theorem sh_ints (ls : List Int) : Sh 1 (.tuple (ls.map PyData.int)) := Sh.tup fun x hx => by
  obtain ⟨t, _, rfl⟩ := List.mem_map.mp hx
  exact .int
theorem sh_nil : Sh 1 (.tuple []) := Sh.tup fun x hx => by cases hx
end K85

/-! ### text T1 -/
namespace K85
open PySem PySem.Spec PyProof.Rows L2 Lay

end K85
/-! ### macros Mac -/
open PySem PySem.Spec PyProof.Rows L2 Lay RZ K85
local macro_rules | `(tactic| walk_at "lyIm") => `(tactic| simp only [im, ims, im_T, im_L, im_F, im_V, im_P, im_P1, ims_T, ims_Ls, ims_P, im_X, ims_ints, ims_kinds, Bool.and_self, Bool.and_true])
local macro_rules | `(tactic| walk_at "lyD") => `(tactic| first
  | with_reducible assumption
  | with_reducible apply Dp.int | with_reducible apply Dp.str | with_reducible apply Dp.bl | with_reducible apply Dp.non
  | with_reducible apply DpAll.nil
  | ((with_reducible apply DpC.dp); with_reducible assumption)
  | ((with_reducible apply DpAll.cons); (· walk_at "lyD"); walk_at "lyD")
  | assumption
  | (apply DpC.dp; assumption)
  | ((with_reducible apply dp_x); (· with_reducible assumption); walk_at "lyD")
  | ((with_reducible apply dp_r); (· with_reducible assumption); (· walk_at "lyD"); (first | rfl | walk_at "lyIm"))
  | fail)
local macro_rules | `(tactic| walk_at "lyV") => `(tactic| (intro ly_w ly_h; (first | (have ly_q := Dp.int_inv ly_h; subst ly_q) | (have ly_q := Dp.str_inv ly_h; subst ly_q) | (have ly_q := Dp.bl_inv ly_h; subst ly_q) | (have ly_q := Dp.non_inv ly_h; subst ly_q) | skip)))
local macro_rules | `(tactic| walk_at "lyX") => `(tactic| (intro ly_w ly_H ly_e ly_h; (first | (have ly_q := Dp.int_inv ly_h; subst ly_q) | (have ly_q := Dp.str_inv ly_h; subst ly_q) | (have ly_q := Dp.bl_inv ly_h; subst ly_q) | (have ly_q := Dp.non_inv ly_h; subst ly_q) | skip)))
local macro_rules | `(tactic| walk_at "lyL") => `(tactic| (intro ly_l ly_H ly_e ly_n ly_t ly_h))
local macro_rules | `(tactic| walk_at "ly1") => `(tactic| first
  | with_reducible refine x_seq ?_ | with_reducible refine x_asg ?_ | with_reducible refine x_ret ?_ | with_reducible refine x_ifS ?_ | with_reducible refine x_drop ?_ | with_reducible refine x_next ?_ | with_reducible refine x_retN ?_
  | ((with_reducible refine x_var (v := ?lya) ?lyh ?lyq); (case lyh => rfl)) | with_reducible refine x_c ?_ | with_reducible refine x_op ?_ | with_reducible refine x_un ?_ | with_reducible refine x_cb ?_ | with_reducible refine x_cons ?_ | with_reducible refine x_nil ?_ | with_reducible refine x_call0 ?_
  | with_reducible refine x_test ?_ | with_reducible refine x_B ?_ | with_reducible refine x_k ?_ | with_reducible refine x_and ?_ | with_reducible refine x_or ?_ | with_reducible refine x_not ?_ | with_reducible refine x_if ?_ | with_reducible refine x_andV ?_ | with_reducible refine x_orV ?_ | with_reducible refine x_notV ?_
  | with_reducible refine x_name ?_ | with_reducible refine x_gcons ?_ | with_reducible refine x_gnil ?_ | with_reducible refine x_tupE ?_ | with_reducible refine x_lstE ?_
  | with_reducible refine x_I0 ?_ | with_reducible refine x_U ?_ | with_reducible refine x_forE ?_ | with_reducible refine x_gsub ?_ | with_reducible refine x_int1 ?_ | with_reducible refine x_abs ?_ | with_reducible refine x_parE ?_ | with_reducible refine x_par2 ?_ | with_reducible refine x_lcE ?_ | with_reducible refine x_iET ?_ | with_reducible refine x_iE ?_ | with_reducible refine x_iZM ?_ | with_reducible refine x_iR1 ?_ | with_reducible refine x_iT ?_ | with_reducible refine x_iL ?_
  | ((with_reducible refine x_ixT (ds := ?lya) (d := ?lyb) ?lyh ?lye ?lyq); (case lyh => walk_at "lyD"); (case lye => rfl); walk_at "lyV") | ((with_reducible refine x_ixL (ds := ?lya) (d := ?lyb) ?lyh ?lye ?lyq); (case lyh => walk_at "lyD"); (case lye => rfl); walk_at "lyV")
  | ((with_reducible refine x_eqT ?lyh ?lye ?lyq); (case lyh => rfl); (case lye => with_reducible rfl)) | ((with_reducible refine x_eqF ?lyh ?lye ?lyq); (case lyh => rfl); (case lye => with_reducible decide)) | with_reducible refine x_eqI ?_ | with_reducible refine x_eqB ?_ | with_reducible refine x_eqS ?_
  | ((with_reducible refine x_neT ?lyh ?lye ?lyq); (case lyh => rfl); (case lye => with_reducible rfl)) | ((with_reducible refine x_neF ?lyh ?lye ?lyq); (case lyh => rfl); (case lye => with_reducible decide)) | with_reducible refine x_neI ?_ | with_reducible refine x_neS ?_
  | ((with_reducible refine x_inT (ds := ?lya) ?lyh ?lye ?lyb ?lyq); (case lyh => walk_at "lyD"); (case lye => rfl); (case lyb => decide)) | ((with_reducible refine x_inF (ds := ?lya) ?lyh ?lye ?lyb ?lyq); (case lyh => walk_at "lyD"); (case lye => rfl); (case lyb => decide)) | ((with_reducible refine x_niT (ds := ?lya) ?lyh ?lye ?lyb ?lyq); (case lyh => walk_at "lyD"); (case lye => rfl); (case lyb => decide)) | ((with_reducible refine x_niF (ds := ?lya) ?lyh ?lye ?lyb ?lyq); (case lyh => walk_at "lyD"); (case lye => rfl); (case lyb => decide))
  | ((with_reducible refine x_lenT (ds := ?lya) ?lyh ?lyq); (case lyh => walk_at "lyD")) | ((with_reducible refine x_lenL (ds := ?lya) ?lyh ?lyq); (case lyh => walk_at "lyD"))
  | ((with_reducible refine x_dat ?lyq); walk_at "lyV") | with_reducible refine x_yes ?_
  | ((with_reducible refine x_ifdT ?lyh ?lyq); (case lyh => decide)) | ((with_reducible refine x_ifdF ?lyh ?lyq); (case lyh => decide)) | with_reducible refine iteT ?_ | with_reducible refine iteF ?_
  | ((with_reducible refine x_tupC ?lyh ?lyl ?lyq); (case lyh => rfl); (case lyl => (simp; done)); walk_at "lyX") | ((with_reducible refine x_lstC ?lyh ?lyl ?lyq); (case lyh => rfl); (case lyl => (simp; done)); walk_at "lyL")
  | ((with_reducible apply x_tup); (· walk_at "lyD"); (· (simp; done)); walk_at "lyX") | ((with_reducible apply x_lst); (· walk_at "lyD"); (· (simp; done)); walk_at "lyL")
  | fail)
local macro_rules | `(tactic| walk_at "ly") => `(tactic| repeat walk_at "ly1")
local macro_rules | `(tactic| walk_at "lyI") => `(tactic| ((try dsimp only [cxOf, Cx.nox, Cx.wish]); walk_at "ly"))
namespace K85
open PySem PySem.Spec PyProof.Rows L2 Lay RZ

section
variable {P : Program} {w : World} {K : PySem.W.Frag} {mg : Str → Option Value} {base : Heap}
def sp_worth (K : PySem.W.Frag) : Sp := spG K (α := Lin × List Int) (fun a => [eL a.1, eI a.2]) (fun a => LinOk a.2.length a.1) (fun a => .int (worth a.1 a.2))
theorem cal_worth (T : Top K w mg) : Cal P w K mg base "worth" ["linear", "values"] 1 (sp_worth K) := by
  refine cal_of T.f_worth sc_worth ?len (fun _ _ _ _ _ _ us hl => match us, hl with | [_, _], _ => rfl) (fun f cdv A outer s H vs Q E hr h => ⟨_, (pss_cons (ps_set (i := 2) sc_worth.nd rfl (by first | exact Or.inl rfl | exact Or.inr rfl) (pe_ix ix_tupK (pv 0) pe_int (fun _ _ => rfl)))
      (pss_cons (ps_for PassesOwn.never rfl (pi_tup (pe_ix ix_tupK (pv 0) pe_int (fun _ _ => rfl))) (pg_tup rfl (pgs_cons (pg_name (i := 3) sc_worth.nd rfl (by first | exact Or.inl rfl | exact Or.inr rfl)) (pgs_cons (pg_name (i := 4) sc_worth.nd rfl (by first | exact Or.inl rfl | exact Or.inr rfl)) pgs_nil))) (pss_one (ps_set (i := 2) sc_worth.nd rfl (by first | exact Or.inl rfl | exact Or.inr rfl) (pe_op op_add (pv 2) (pe_op op_mul (pv 4) (pe_ix ix_listK (pv 1) (pv 3) (fun _ _ => rfl)))))))
      (pss_one (ps_ret (pv 2))))), ?_⟩)
  case len => exact spG_len fun _ => rfl
  obtain ⟨⟨l, ns⟩, h, hp, q⟩ := h
  obtain ⟨v0, v1, rfl, h0, h1⟩ := h.inv2
  dsimp only at h0 h1 hp q
  dsimp only [cxOf, Cx.nox, Cx.wish]
  walk_at "ly"
  refine x_forT (M := []) (fun i σ' H' => Ex H H' ∧ ∃ x3 x4, σ' = [some v0, some v1, some (.int (l.1 + wsum ns (l.2.take i))), x3, x4]) (by walk_at "lyD") ?_ ?_ (.inl rfl) ?_ ?_
  · exact ⟨R.refl _, none, none, by simp [wsum]; rfl⟩
  · exact fun i σ' H' h => h.1
  · intro i d x σ' H' e h hx
    obtain ⟨hE, x3, x4, rfl⟩ := h
    rw [List.getElem?_map] at e
    cases et : l.2[i]? with
    | none => rw [et] at e; cases e
    | some t =>
      rw [et] at e
      cases e
      obtain ⟨t1, t2, t3, t4⟩ := hp.2 t (List.mem_of_getElem? et)
      refine x_gtup2 hx ?_
      intro a b ha hb
      obtain rfl := Dp.int_inv ha
      obtain rfl := Dp.int_inv hb
      walk_at "ly"
      refine x_ixL (by walk_at "lyD") (at_ints t1 t2) ?_
      walk_at "lyV"
      refine x_I (Or.inl ⟨by omega, by omega⟩) ?_
      walk_at "ly"
      refine ⟨hE, some (.int t.1), some (.int t.2), ?_⟩
      rw [wsum_snoc et, ← Int.add_assoc]
      rfl
  · intro σ' H' h
    obtain ⟨hE, x3, x4, rfl⟩ := h
    walk_at "ly"
    refine q _ _ hE ?_
    rw [List.length_map, List.take_length]
    exact Dp.int _
def sp_atom (K : PySem.W.Frag) : Sp := spG K (α := Fm × List Int) (fun a => [eF a.1, eI a.2]) (fun a => FmOk a.2.length a.1 ∧ a.1.atom = true) (fun a => .bool (fh a.2 a.1))
theorem cal_atom_holds (T : Top K w mg) : Cal P w K mg base "atom_holds" ["atom", "values"] 2 (sp_atom K) := by
  refine cal_of T.f_atom_holds sc_atom_holds ?len (fun _ _ _ _ _ _ us hl => match us, hl with | [_, _], _ => rfl) (fun f cdv A outer s H vs Q E hr h => ⟨_, (pss_cons (ps_set (i := 2) sc_atom_holds.nd rfl (by first | exact Or.inl rfl | exact Or.inr rfl) (pe_def (cal_worth T) (hr.mono (by omega)) (pa_cons (pe_ix ix_tupK (pv 0) (pe_un un_neg pe_int) (fun _ _ => rfl)) (pa_cons (pv 1) pa_nil))))
      (pss_cons (ps_if (pt_cmpR op_eq (pe_ix ix_tupK (pv 0) pe_int (fun _ _ => rfl)) (pe_gstr T.c_LE) (nomark _)) (pss_one (ps_ret (pe_cmpR op_le (pv 2) pe_int (nomark _)))) pss_nil)
      (pss_one (ps_ret (pe_cmpR op_eq (pe_cmpR op_eq (pe_op op_mod (pv 2) (pe_ix ix_tupK (pv 0) pe_int (fun _ _ => rfl))) pe_int (nomark _)) (pe_cmpR op_eq (pe_ix ix_tupK (pv 0) pe_int (fun _ _ => rfl)) (pe_gstr T.c_INTO) (nomark _)) (nomark _)))))), ?_⟩)
  case len => exact spG_len fun _ => rfl
  obtain ⟨⟨f, ns⟩, h, ⟨hp, ha⟩, q⟩ := h
  obtain ⟨v0, v1, rfl, h0, h1⟩ := h.inv2
  dsimp only at h0 h1 hp ha q
  dsimp only [cxOf, Cx.nox, Cx.wish]
  cases f with
  | le l =>
    walk_at "ly"
    refine x_spG (a := (l, ns)) (by walk_at "lyD") hp ?_
    walk_at "lyX"
    walk_at "ly"
    exact q _ _ (by assumption) (.bl _)
  | into k l =>
    obtain ⟨k1, k2, hp⟩ := hp
    walk_at "ly"
    refine x_spG (a := (l, ns)) (by walk_at "lyD") hp ?_
    walk_at "lyX"
    walk_at "ly"
    refine x_I k1 ?_
    walk_at "ly"
    exact q _ _ (by assumption) (dp_bl (by simp [fh]))
  | off k l =>
    obtain ⟨k1, k2, hp⟩ := hp
    walk_at "ly"
    refine x_spG (a := (l, ns)) (by walk_at "lyD") hp ?_
    walk_at "lyX"
    walk_at "ly"
    refine x_I k1 ?_
    walk_at "ly"
    exact q _ _ (by assumption) (dp_bl (by simp [fh]))
  | yes => cases ha
  | both f g => cases ha
  | one f g => cases ha

theorem fdeep0 : ∀ {f : Fm}, f.deep = 0 → f.atom = true
  | .le _, _ => rfl
  | .into _ _, _ => rfl
  | .off _ _, _ => rfl
  | .yes, h => by cases h
  | .both _ _, h => by cases h
  | .one _ _, h => by cases h
def sp_holds (n : Nat) (K : PySem.W.Frag) : Sp := spG K (α := Fm × List Int) (fun a => [eF a.1, eI a.2]) (fun a => FmOk a.2.length a.1 ∧ a.1.deep ≤ n) (fun a => .bool (fh a.2 a.1))
end
end K85

/-! ### text T2 -/
namespace K85
open PySem PySem.Spec PyProof.Rows L2 Lay

section
variable {P : Program} {w : World} {K : PySem.W.Frag} {mg : Str → Option Value} {base : Heap}
/-- holds at an atom -/
theorem cal_holds (T : Top K w mg) : ∀ n, Cal P w K mg base "holds" ["formula", "values"] (n + 3) (sp_holds n K) := by
  intro n
  induction n with
  | zero =>
    have ih : Cal P w K mg base "holds" ["formula", "values"] 2 (fun _ _ _ _ => False) := by
      obtain ⟨f, fd, hm, F⟩ := T.f_holds
      exact ⟨f, fd, hm, F.kp, F.binds (fun _ _ _ _ _ _ us hl => match us, hl with | [_, _], _ => rfl), fun _ _ _ _ h => h.elim, fun _ _ _ _ _ _ _ _ _ _ _ _ _ h => h.elim⟩
    refine cal_of T.f_holds sc_holds ?len (fun _ _ _ _ _ _ us hl => match us, hl with | [_, _], _ => rfl) (fun f cdv A outer s H vs Q E hr h => ⟨_, (pss_cons (ps_if (pt_cmpR op_inK (pe_ix ix_tupK (pv 0) pe_int (fun _ _ => rfl)) (pe_gdatK T.c_ATOMS) rfl) (pss_one (ps_ret (pe_def (cal_atom_holds T) (hr.mono (by omega)) (pa_cons (pv 0) (pa_cons (pv 1) pa_nil))))) pss_nil)
      (pss_cons (ps_setLc (i := 2) (own := [("one", 3)]) (g := (gName 3)) rfl sc_holds.nd rfl rfl (sw_true rfl rfl rfl (by decide +kernel)) (pi_tup (pe_ix ix_tupK (pv 0) pe_int (fun _ _ => rfl))) (blkOk_by (by show blkC ["formula", "values", "told", "one"] (defScope s_holds) _ _ = true; decide +kernel)) (fun _ _ _ _ _ => (pg_name (i := 3) sc_holds.nd rfl (by first | exact Or.inl rfl | exact Or.inr rfl))) (fun _ _ _ _ _ => pts_nil) (fun _ _ _ _ _ => (pe_def ih (hr.mono (by omega)) (pa_cons (pv 3) (pa_cons (pv 1) pa_nil)))))
      (pss_one (ps_ret (pe_ifExp (pt_cmpR op_eq (pe_ix ix_tupK (pv 0) pe_int (fun _ _ => rfl)) (pe_gstr T.c_AND) (nomark _)) (pe_callB cr_allK rfl T.b_all (by decide +kernel) (pa_cons (pv 2) pa_nil)) (pe_callB cr_anyK rfl T.b_any (by decide +kernel) (pa_cons (pv 2) pa_nil))))))), ?_⟩)
    case len => exact spG_len fun _ => rfl
    obtain ⟨⟨f, ns⟩, h, ⟨hp, hd⟩, q⟩ := h
    obtain ⟨v0, v1, rfl, h0, h1⟩ := h.inv2
    dsimp only at h0 h1 hp hd q
    have ha := fdeep0 (Nat.le_zero.mp hd)
    dsimp only [cxOf, Cx.nox, Cx.wish]
    cases f with
    | le l =>
      walk_at "ly"
      refine x_spG (a := (Fm.le l, ns)) (by walk_at "lyD") ⟨hp, ha⟩ ?_
      intro v H' e hv
      exact q _ _ e hv
    | into k l =>
      walk_at "ly"
      refine x_spG (a := (Fm.into k l, ns)) (by walk_at "lyD") ⟨hp, ha⟩ ?_
      intro v H' e hv
      exact q _ _ e hv
    | off k l =>
      walk_at "ly"
      refine x_spG (a := (Fm.off k l, ns)) (by walk_at "lyD") ⟨hp, ha⟩ ?_
      intro v H' e hv
      exact q _ _ e hv
    | yes => cases ha
    | both f g => cases ha
    | one f g => cases ha
  | succ n ih =>
    refine cal_of T.f_holds sc_holds ?len (fun _ _ _ _ _ _ us hl => match us, hl with | [_, _], _ => rfl) (fun f cdv A outer s H vs Q E hr h => ⟨_, (pss_cons (ps_if (pt_cmpR op_inK (pe_ix ix_tupK (pv 0) pe_int (fun _ _ => rfl)) (pe_gdatK T.c_ATOMS) rfl) (pss_one (ps_ret (pe_def (cal_atom_holds T) (hr.mono (by omega)) (pa_cons (pv 0) (pa_cons (pv 1) pa_nil))))) pss_nil)
      (pss_cons (ps_setLc (i := 2) (own := [("one", 3)]) (g := (gName 3)) rfl sc_holds.nd rfl rfl (sw_true rfl rfl rfl (by decide +kernel)) (pi_tup (pe_ix ix_tupK (pv 0) pe_int (fun _ _ => rfl))) (blkOk_by (by show blkC ["formula", "values", "told", "one"] (defScope s_holds) _ _ = true; decide +kernel)) (fun _ _ _ _ _ => (pg_name (i := 3) sc_holds.nd rfl (by first | exact Or.inl rfl | exact Or.inr rfl))) (fun _ _ _ _ _ => pts_nil) (fun _ _ _ _ _ => (pe_def ih (hr.mono (by omega)) (pa_cons (pv 3) (pa_cons (pv 1) pa_nil)))))
      (pss_one (ps_ret (pe_ifExp (pt_cmpR op_eq (pe_ix ix_tupK (pv 0) pe_int (fun _ _ => rfl)) (pe_gstr T.c_AND) (nomark _)) (pe_callB cr_allK rfl T.b_all (by decide +kernel) (pa_cons (pv 2) pa_nil)) (pe_callB cr_anyK rfl T.b_any (by decide +kernel) (pa_cons (pv 2) pa_nil))))))), ?_⟩)
    case len => exact spG_len fun _ => rfl
    obtain ⟨⟨f, ns⟩, h, ⟨hp, hd⟩, q⟩ := h
    obtain ⟨v0, v1, rfl, h0, h1⟩ := h.inv2
    dsimp only at h0 h1 hp hd q
    dsimp only [cxOf, Cx.nox, Cx.wish]
    cases f with
    | le l =>
      walk_at "ly"
      refine x_spG (a := (Fm.le l, ns)) (by walk_at "lyD") ⟨hp, rfl⟩ ?_
      intro v H' e hv
      exact q _ _ e hv
    | into k l =>
      walk_at "ly"
      refine x_spG (a := (Fm.into k l, ns)) (by walk_at "lyD") ⟨hp, rfl⟩ ?_
      intro v H' e hv
      exact q _ _ e hv
    | off k l =>
      walk_at "ly"
      refine x_spG (a := (Fm.off k l, ns)) (by walk_at "lyD") ⟨hp, rfl⟩ ?_
      intro v H' e hv
      exact q _ _ e hv
    | yes =>
      walk_at "ly"
      refine x_lcT (α := Fm) [] eF (fun f => .bool (fh ns f)) (by walk_at "lyD") (by simp) (by simp) (fun C a x H' ha => absurd ha (by simp)) ?_
      intro l acc H' e h1 h2 h3
      walk_at "ly"
      refine x_allD (ns := [].map (fh ns)) (dp_lst h2 h3) (q _ _ e (.bl _))
    | both f g =>
      walk_at "ly"
      refine x_lcT (α := Fm) [f, g] eF (fun f => .bool (fh ns f)) (by walk_at "lyD") (fun _ _ => rfl) (by show 2 ≤ 100000; decide) ?_ ?_
      · intro C a x H' ha e hx hC
        walk_at "ly"
        refine ⟨rfl, ?_⟩
        walk_at "ly"
        refine x_spG (a := (a, ns)) (by walk_at "lyD") ?_ fun v H4 e4 hv => hC v H4 e4 hv
        have hdd : max f.deep g.deep + 1 ≤ n + 1 := hd
        dsimp only
        have : a = f ∨ a = g := by simpa using ha
        rcases this with e | e
        · subst e
          exact ⟨hp.1, by omega⟩
        · subst e
          exact ⟨hp.2, by omega⟩
      · intro l acc H' e h1 h2 h3
        walk_at "ly"
        refine x_allD (ns := [f, g].map (fh ns)) (dp_lst h2 h3) (q _ _ e (dp_bl (by simp [fh])))
    | one f g =>
      walk_at "ly"
      refine x_lcT (α := Fm) [f, g] eF (fun f => .bool (fh ns f)) (by walk_at "lyD") (fun _ _ => rfl) (by show 2 ≤ 100000; decide) ?_ ?_
      · intro C a x H' ha e hx hC
        walk_at "ly"
        refine ⟨rfl, ?_⟩
        walk_at "ly"
        refine x_spG (a := (a, ns)) (by walk_at "lyD") ?_ fun v H4 e4 hv => hC v H4 e4 hv
        have hdd : max f.deep g.deep + 1 ≤ n + 1 := hd
        dsimp only
        have : a = f ∨ a = g := by simpa using ha
        rcases this with e | e
        · subst e
          exact ⟨hp.1, by omega⟩
        · subst e
          exact ⟨hp.2, by omega⟩
      · intro l acc H' e h1 h2 h3
        walk_at "ly"
        refine x_anyD (ns := [f, g].map (fh ns)) (dp_lst h2 h3) (q _ _ e (dp_bl (by simp [fh])))
def sp_matrix (K : PySem.W.Frag) : Sp := fun vs H Q _ => ∃ (v w : V) (k : PyData) (f : Fm) (ns : List Int), vs = [v, w] ∧ Dp K H v (.tuple [.str "prenex", .int 0, k, eF f]) ∧ (Dp K H w (.tuple (ns.map PyData.int)) ∨ Dp K H w (eI ns)) ∧ FmOk ns.length f ∧ f.deep ≤ 2 ∧ ∀ H', Ex H H' → Q (.bl (fh ns f)) H'
theorem cal_matrix_holds (T : Top K w mg) : Cal P w K mg base "matrix_holds" ["form", "numbers"] 6 (sp_matrix K) := by
  refine cal_of T.f_matrix_holds sc_matrix_holds ?len (fun _ _ _ _ _ _ us hl => match us, hl with | [_, _], _ => rfl) (fun f cdv A outer s H vs Q E hr h => ⟨_, (pss_one (ps_ret (pe_def (cal_holds T 2) (hr.mono (by omega)) (pa_cons (pe_ix ix_tupK (pv 0) pe_int (fun _ _ => rfl)) (pa_cons (pe_callTy call_listK rfl T.b_list (by decide +kernel) (pa_cons (pv 1) pa_nil)) pa_nil))))), ?_⟩)
  case len => intro vs H Q E h; obtain ⟨_, _, _, _, _, rfl, _⟩ := h; rfl
  obtain ⟨v, w, k, f, ns, rfl, h0, h1, h2, h3, q⟩ := h
  dsimp only [cxOf, Cx.nox, Cx.wish]
  walk_at "ly"
  refine x_listD h1 ?_
  intro l xs H1 e1 hn e2 e3
  have hl' : Dp K H1 (.ref l) (eI ns) := dp_lst e2 e3
  walk_at "ly"
  refine x_spG (a := (f, ns)) (by walk_at "lyD") ⟨h2, h3⟩ ?_
  intro v H2 e hv
  obtain rfl := Dp.bl_inv hv
  exact q _ (e1.trans e)
def sp_divided (K : PySem.W.Frag) : Sp := fun vs H Q _ => ∃ (i b : Int), vs = [.int i, .int b] ∧ 0 < b ∧ b < 1000 ∧ ∀ v, Dp K H v (eO (div? i b)) → Q v H
theorem cal_divided (T : Top K w mg) : Cal P w K mg base "divided" ["number", "by"] 1 (sp_divided K) := by
  refine cal_of T.f_divided sc_divided ?len (fun _ _ _ _ _ _ us hl => match us, hl with | [_, _], _ => rfl) (fun f cdv A outer s H vs Q E hr h => ⟨_, (pss_one (ps_ret (pe_ifExp (pt_cmpR op_eq (pe_op op_mod (pv 0) (pv 1)) pe_int (nomark _)) (pe_op op_fdiv (pv 0) (pv 1)) pe_non))), ?_⟩)
  case len => intro vs H Q E h; obtain ⟨_, _, rfl, _⟩ := h; rfl
  obtain ⟨i, b, rfl, h0, h1, q⟩ := h
  walk_at "lyI"
  refine x_I h0 ?_
  walk_at "ly"
  unfold div? at q
  by_cases c : i % b = 0
  · rw [if_pos c] at q
    rw [decide_eq_true c]
    walk_at "ly"
    exact x_I ⟨h0, by omega⟩ (q _ (.int _))
  · rw [if_neg c] at q
    rw [decide_eq_false c]
    walk_at "ly"
    exact q _ .non
end
end K85

/-! ### text T3 -/
namespace K85
open PySem PySem.Spec PyProof.Rows L2 Lay

section
variable {P : Program} {w : World} {K : PySem.W.Frag} {mg : Str → Option Value} {base : Heap}
def sp_value (K : PySem.W.Frag) : Sp := spG K (α := Va × List Int) (fun a => [eV a.1, eI a.2]) (fun a => VaOk a.2.length a.1) (fun a => eO (vnum a.2 a.1))
theorem eqv_nil (ds : List PyData) : PyData.eqv (.tuple ds) (.tuple []) = ds.isEmpty := by
  cases ds <;> simp [PyData.eqv, PyData.eqvAll]
theorem cal_value_at (T : Top K w mg) : Cal P w K mg base "value_at" ["value", "values"] 3 (sp_value K) := by
  refine cal_of T.f_value_at sc_value_at ?len (fun _ _ _ _ _ _ us hl => match us, hl with | [_, _], _ => rfl) (fun f cdv A outer s H vs Q E hr h => ⟨_, (pss_cons (ps_if (pt_cmpR op_eq (pe_ix ix_tupK (pv 0) pe_int (fun _ _ => rfl)) (pe_gstr T.c_OVER_values) (nomark _)) (pss_one (ps_ret (pe_def (cal_divided T) (hr.mono (by omega)) (pa_cons (pe_def (cal_worth T) (hr.mono (by omega)) (pa_cons (pe_ix ix_tupK (pv 0) pe_int (fun _ _ => rfl)) (pa_cons (pv 1) pa_nil))) (pa_cons (pe_ix ix_tupK (pv 0) pe_int (fun _ _ => rfl)) pa_nil))))) pss_nil)
      (pss_cons (ps_asg (pv 0) (pg_tup rfl (pgs_cons (pg_name (i := 4) sc_value_at.nd rfl (by first | exact Or.inl rfl | exact Or.inr rfl)) (pgs_cons (pg_name (i := 5) sc_value_at.nd rfl (by first | exact Or.inl rfl | exact Or.inr rfl)) (pgs_cons (pg_name (i := 6) sc_value_at.nd rfl (by first | exact Or.inl rfl | exact Or.inr rfl)) (pgs_cons (pg_name (i := 7) sc_value_at.nd rfl (by first | exact Or.inl rfl | exact Or.inr rfl)) (pgs_cons (pg_name (i := 8) sc_value_at.nd rfl (by first | exact Or.inl rfl | exact Or.inr rfl)) pgs_nil)))))))
      (pss_cons (ps_if (pt_cmpR (op_eqDK hr.units) (pv 5) (pe_tup pa_nil) (nomark _)) (pss_one (ps_ret (pe_def (cal_divided T) (hr.mono (by omega)) (pa_cons (pv 6) (pa_cons (pv 8) pa_nil))))) pss_nil)
      (pss_cons (ps_setLc (i := 2) (own := [("one", 9)]) (g := (gName 9)) rfl sc_value_at.nd rfl rfl (sw_true rfl rfl rfl (by decide +kernel)) (pi_tup (pv 5)) (blkOk_by (by show blkC ["value", "values", "told", "bound", "kind", "some", "rest", "period", "by", "one"] (defScope s_value_at) _ _ = true; decide +kernel)) (fun _ _ _ _ _ => (pg_name (i := 9) sc_value_at.nd rfl (by first | exact Or.inl rfl | exact Or.inr rfl))) (fun _ _ _ _ _ => pts_nil) (fun _ _ _ _ _ => (pe_def (cal_worth T) (hr.mono (by omega)) (pa_cons (pv 9) (pa_cons (pv 1) pa_nil)))))
      (pss_cons (ps_if (pt_cmpR op_eq (pv 4) (pe_gstr T.c_LOW_values) (nomark _)) (pss_cons (ps_set (i := 3) sc_value_at.nd rfl (by first | exact Or.inl rfl | exact Or.inr rfl) (pe_op op_sub (pe_callB cr_minK rfl T.b_min (by decide +kernel) (pa_cons (pv 2) pa_nil)) pe_int))
      (pss_one (ps_ret (pe_def (cal_divided T) (hr.mono (by omega)) (pa_cons (pe_op op_sub (pv 3) (pe_op op_mod (pe_op op_sub (pv 3) (pv 6)) (pv 7))) (pa_cons (pv 8) pa_nil)))))) pss_nil)
      (pss_cons (ps_set (i := 3) sc_value_at.nd rfl (by first | exact Or.inl rfl | exact Or.inr rfl) (pe_op op_add (pe_callB cr_maxK rfl T.b_max (by decide +kernel) (pa_cons (pv 2) pa_nil)) pe_int))
      (pss_one (ps_ret (pe_def (cal_divided T) (hr.mono (by omega)) (pa_cons (pe_op op_add (pv 3) (pe_op op_mod (pe_op op_sub (pv 6) (pv 3)) (pv 7))) (pa_cons (pv 8) pa_nil))))))))))), ?_⟩)
  case len => exact spG_len fun _ => rfl
  obtain ⟨⟨a, ns⟩, h, hp, q⟩ := h
  obtain ⟨v0, v1, rfl, h0, h1⟩ := h.inv2
  dsimp only at h0 h1 hp q
  cases a with
  | over l b =>
    obtain ⟨p1, p2, p3⟩ := hp
    walk_at "lyI"
    refine x_spG (a := (l, ns)) (by walk_at "lyD") p1 ?_
    walk_at "lyX"
    walk_at "ly"
    exact ⟨_, _, rfl, p2, by omega, fun v hv => q _ _ (by assumption) hv⟩
  | low ls r p b =>
    obtain ⟨p1, p2, p3, p4, p5, p6, p7⟩ := hp
    walk_at "lyI"
    refine x_gtupN h0 rfl ?_
    intro vs hv
    obtain ⟨u0, u1, u2, u3, u4, rfl, g0, g1, g2, g3, g4⟩ := hv.inv5
    obtain rfl := Dp.str_inv g0
    obtain rfl := Dp.int_inv g2
    obtain rfl := Dp.int_inv g3
    obtain rfl := Dp.int_inv g4
    walk_at "ly"
    refine ⟨.tuple (ls.map eL), .tuple [], by walk_at "lyD", by walk_at "lyD", ((sh_Ls ls).mono (by decide)).ok, (sh_nil.mono (by decide)).ok, ?_⟩
    rw [eqv_nil]
    refine ⟨_, rfl, ?_⟩
    cases ls with
    | nil =>
      rw [show (List.map eL ([] : List Lin)).isEmpty = true from rfl]
      walk_at "ly"
      exact ⟨_, _, rfl, p5, by omega, fun v hv => q _ _ (by assumption) hv⟩
    | cons l ls =>
    rw [show (List.map eL (l :: ls)).isEmpty = false from rfl]
    walk_at "ly"
    refine x_lcT (α := Lin) (l :: ls) eL (fun l => .int (worth l ns)) (by walk_at "lyD") (fun _ _ => rfl) (by omega) ?_ ?_
    · intro C a x H' ha e hx hC
      walk_at "ly"
      refine ⟨rfl, ?_⟩
      walk_at "ly"
      refine x_spG (a := (a, ns)) (by walk_at "lyD") (p1 a ha) fun v H4 e4 hv => hC v H4 e4 hv
    · intro k acc H' e h1 h2 h3
      have h3' : DpAll K H' acc (((l :: ls).map fun l => worth l ns).map PyData.int) := by rw [List.map_map]; exact h3
      walk_at "ly"
      refine x_minD (dp_lst h2 h3') (by simp) fun m m1 m2 => ?_
      obtain rfl := minL_of m1 m2
      walk_at "ly"
      refine x_I (by omega) ?_
      walk_at "ly"
      exact ⟨_, _, rfl, p5, by omega, fun v hv => q _ _ (R.trans (by assumption) (by assumption)) hv⟩
  | high ls r p b =>
    obtain ⟨p1, p2, p3, p4, p5, p6, p7⟩ := hp
    walk_at "lyI"
    refine x_gtupN h0 rfl ?_
    intro vs hv
    obtain ⟨u0, u1, u2, u3, u4, rfl, g0, g1, g2, g3, g4⟩ := hv.inv5
    obtain rfl := Dp.str_inv g0
    obtain rfl := Dp.int_inv g2
    obtain rfl := Dp.int_inv g3
    obtain rfl := Dp.int_inv g4
    walk_at "ly"
    refine ⟨.tuple (ls.map eL), .tuple [], by walk_at "lyD", by walk_at "lyD", ((sh_Ls ls).mono (by decide)).ok, (sh_nil.mono (by decide)).ok, ?_⟩
    rw [eqv_nil]
    refine ⟨_, rfl, ?_⟩
    cases ls with
    | nil =>
      rw [show (List.map eL ([] : List Lin)).isEmpty = true from rfl]
      walk_at "ly"
      exact ⟨_, _, rfl, p5, by omega, fun v hv => q _ _ (by assumption) hv⟩
    | cons l ls =>
    rw [show (List.map eL (l :: ls)).isEmpty = false from rfl]
    walk_at "ly"
    refine x_lcT (α := Lin) (l :: ls) eL (fun l => .int (worth l ns)) (by walk_at "lyD") (fun _ _ => rfl) (by omega) ?_ ?_
    · intro C a x H' ha e hx hC
      walk_at "ly"
      refine ⟨rfl, ?_⟩
      walk_at "ly"
      refine x_spG (a := (a, ns)) (by walk_at "lyD") (p1 a ha) fun v H4 e4 hv => hC v H4 e4 hv
    · intro k acc H' e h1 h2 h3
      have h3' : DpAll K H' acc (((l :: ls).map fun l => worth l ns).map PyData.int) := by rw [List.map_map]; exact h3
      walk_at "ly"
      refine x_maxD (dp_lst h2 h3') (by simp) fun m m1 m2 => ?_
      obtain rfl := maxL_of m1 m2
      walk_at "ly"
      refine x_I (by omega) ?_
      walk_at "ly"
      exact ⟨_, _, rfl, p5, by omega, fun v hv => q _ _ (R.trans (by assumption) (by assumption)) hv⟩

end
end K85

/-! ### text T4 -/
namespace K85
open PySem PySem.Spec PyProof.Rows L2 Lay

section
variable {P : Program} {w : World} {K : PySem.W.Frag} {mg : Str → Option Value} {base : Heap}
def PcOk (n : Nat) (p : Pl) : Prop := ∀ q ∈ p, FmOk n q.1 ∧ q.1.deep ≤ 2 ∧ VaOk n q.2
def sp_piece (K : PySem.W.Frag) : Sp := spG K (α := Pl × List Int) (fun a => [eP a.1, eI a.2]) (fun a => PcOk a.2.length a.1) (fun a => eO ((pix a.2 a.1).map fun i => (i : Int)))
theorem cal_piece_at (T : Top K w mg) : Cal P w K mg base "piece_at" ["plan", "values"] 6 (sp_piece K) := by
  refine cal_of T.f_piece_at sc_piece_at ?len (fun _ _ _ _ _ _ us hl => match us, hl with | [_, _], _ => rfl) (fun f cdv A outer s H vs Q E hr h => ⟨_, (pss_cons (ps_for PassesOwn.never rfl (pi_enumT rfl T.b_enumerate (pa_cons (pv 0) pa_nil)) (pg_tup rfl (pgs_cons (pg_name (i := 2) sc_piece_at.nd rfl (by first | exact Or.inl rfl | exact Or.inr rfl)) (pgs_cons (pg_tup rfl (pgs_cons (pg_name (i := 3) sc_piece_at.nd rfl (by first | exact Or.inl rfl | exact Or.inr rfl)) (pgs_cons (pg_name (i := 4) sc_piece_at.nd rfl (by first | exact Or.inl rfl | exact Or.inr rfl)) pgs_nil))) pgs_nil))) (pss_one (ps_if (pt_val (pe_def (cal_holds T 2) (hr.mono (by omega)) (pa_cons (pv 3) (pa_cons (pv 1) pa_nil)))) (pss_one (ps_ret (pv 2))) pss_nil)))
      (pss_one (ps_ret pe_non))), ?_⟩)
  case len => exact spG_len fun _ => rfl
  obtain ⟨⟨p, ns⟩, h, hp, q⟩ := h
  obtain ⟨v0, v1, rfl, h0, h1⟩ := h.inv2
  dsimp only at h0 h1 hp q
  walk_at "lyI"
  obtain ⟨a, xs, rfl, hq, hd⟩ := Dp.tup_inv h0
  refine ⟨a, xs, rfl, hq, ?_⟩
  have wk := dw_enumT (M := []) hq hd (.inl rfl)
  rw [List.length_map] at wk
  refine x_for wk (fun i σ' H' => Ex H H' ∧ (∀ j x, j < i → p[j]? = some x → fh ns x.1 = false) ∧ ∃ x2 x3 x4, σ' = [some (.ref a), some v1, x2, x3, x4]) ⟨R.refl _, fun j x hj => absurd hj (Nat.not_lt_zero _), none, none, none, rfl⟩ (fun i σ' H' h => h.1) ?_ ?_
  · intro i x σ' H' H2 hi hW r hx
    obtain ⟨e, hn, x2, x3, x4, rfl⟩ := hW
    have ei := List.getElem?_eq_getElem hi
    rw [getD_map ei] at hx
    obtain ⟨p1, p2, p3⟩ := hp _ (List.getElem_mem hi)
    refine x_gtup2 hx ?_
    intro u0 u1 g0 g1
    obtain rfl := Dp.int_inv g0
    walk_at "ly"
    refine x_gtup2 g1 ?_
    intro u2 u3 g2 g3
    have e2 : Ex H H2 := e.trans r
    walk_at "ly"
    refine x_spG (a := (p[i].1, ns)) (by walk_at "lyD") ⟨p1, p2⟩ ?_
    intro z H4 e4 hz
    obtain rfl := Dp.bl_inv hz
    walk_at "ly"
    dsimp only
    cases c : fh ns p[i].1 with
    | true =>
      walk_at "ly"
      refine q _ _ (e2.trans e4) ?_
      rw [pix_at hn ei c]
      exact .int _
    | false =>
      walk_at "ly"
      refine ⟨e2.trans e4, fun j x hj ej => ?_, _, _, _, rfl⟩
      rcases Nat.lt_succ_iff_lt_or_eq.mp hj with h | h
      · exact hn j x h ej
      · subst h
        rw [ei] at ej
        cases ej
        exact c
  · intro σ' H' hW
    obtain ⟨e, hn, x2, x3, x4, rfl⟩ := hW
    walk_at "ly"
    refine q _ _ e ?_
    rw [pix_none fun j x ej => hn j x (List.getElem?_eq_some_iff.mp ej).1 ej]
    exact .non
theorem PlOk.pc {n : Nat} {p : Pl} (h : PlOk n p) : PcOk n p := h.1
def sp_told (K : PySem.W.Frag) : Sp := spG K (α := Pl × List Int) (fun a => [eP a.1, eI a.2]) (fun a => PlOk a.2.length a.1) (fun a => eO (tnum a.2 a.1))
theorem cal_told_by (T : Top K w mg) : Cal P w K mg base "told_by" ["plan", "values"] 7 (sp_told K) := by
  refine cal_of T.f_told_by sc_told_by ?len (fun _ _ _ _ _ _ us hl => match us, hl with | [_, _], _ => rfl) (fun f cdv A outer s H vs Q E hr h => ⟨_, (pss_one (ps_ret (pe_def (cal_value_at T) (hr.mono (by omega)) (pa_cons (pe_ix ix_tupK (pe_ix ix_tupK (pv 0) (pe_def (cal_piece_at T) (hr.mono (by omega)) (pa_cons (pv 0) (pa_cons (pv 1) pa_nil))) (fun _ _ => rfl)) pe_int (fun _ _ => rfl)) (pa_cons (pv 1) pa_nil))))), ?_⟩)
  case len => exact spG_len fun _ => rfl
  obtain ⟨⟨p, ns⟩, h, hp, q⟩ := h
  obtain ⟨v0, v1, rfl, h0, h1⟩ := h.inv2
  dsimp only at h0 h1 hp q
  obtain ⟨x, r, ep, hy⟩ := hp.2.1
  obtain ⟨i, y, e1, e2⟩ := pix_some (ns := ns) ep hy
  have hi := (List.getElem?_eq_some_iff.mp e2).1
  obtain ⟨p1, p2, p3⟩ := hp.1 y (List.mem_of_getElem? e2)
  walk_at "lyI"
  refine x_spG (a := (p, ns)) (by walk_at "lyD") hp.pc ?_
  intro z H2 e hz
  dsimp only at hz
  rw [e1] at hz
  obtain rfl := Dp.int_inv hz
  walk_at "ly"
  refine x_ixT (ds := p.map eP1) (d := eP1 y) (by walk_at "lyD") (atI_nat (by rw [List.getElem?_map, e2]; rfl)) ?_
  walk_at "lyV"
  walk_at "ly"
  refine x_spG (a := (y.2, ns)) (by walk_at "lyD") p3 ?_
  intro z H4 e4 hz
  refine q _ _ (e.trans e4) ?_
  have et : tnum ns p = vnum ns y.2 := by simp [tnum, e1, e2]
  rw [et]
  exact hz
/-! variables of a side -/
def sp_own (K : PySem.W.Frag) : Sp := fun vs H Q _ => ∃ (f : Pre) (b : Bool) (v w : V), vs = [v, w] ∧ Dp K H v (eX f) ∧ w = .str (sS b) ∧ f.1.length ≤ 100 ∧ ∀ a acc H', Ex H H' → H a = none → H' a = some (.lst acc) → DpAll K H' acc ((ownF 0 b f.1).map PyData.int) → Q (.ref a) H'
theorem getD_kind {ks : List Bool} {i : Nat} (hi : i < ks.length) : (ks.map fun b => PyData.str (kS b)).getD i .none = .str (kS ks[i]) := getD_map (enc := fun b => PyData.str (kS b)) (List.getElem?_eq_getElem hi)
theorem cal_own_variables (T : Top K w mg) : Cal P w K mg base "own_variables" ["prenex", "side"] 1 (sp_own K) := by
  refine cal_of T.f_own_variables sc_own_variables ?len (fun _ _ _ _ _ _ us hl => match us, hl with | [_, _], _ => rfl) (fun f cdv A outer s H vs Q E hr h => ⟨_, (pss_one (ps_ret (pe_lc (own := [("at", 2), ("kind", 3)]) (g := (gTup K 2 (gCons (gName 2) (gCons (gName 3) gNil)))) rfl sc_own_variables.nd (pi_enumT rfl T.b_enumerate (pa_cons (pe_ix ix_tupK (pv 0) pe_int (fun _ _ => rfl)) pa_nil)) (blkOk_by (by show blkC ["prenex", "side", "at", "kind"] (defScope s_own_variables) _ _ = true; decide +kernel)) (fun _ _ _ _ _ => (pg_tup rfl (pgs_cons (pg_name (i := 2) sc_own_variables.nd rfl (by first | exact Or.inl rfl | exact Or.inr rfl)) (pgs_cons (pg_name (i := 3) sc_own_variables.nd rfl (by first | exact Or.inl rfl | exact Or.inr rfl)) pgs_nil)))) (fun _ _ _ _ _ => (pts_one (pt_cmpR op_eq (pv 3) (pe_ix ix_kdictK (pe_gkd T.c_KINDS) (pv 1) (fun _ _ => rfl)) (nomark _)))) (fun _ _ _ _ _ => (pe_op op_add (pe_ix ix_tupK (pv 0) pe_int (fun _ _ => rfl)) (pv 2)))))), ?_⟩)
  case len => intro vs H Q E h; obtain ⟨_, _, _, _, rfl, _⟩ := h; rfl
  obtain ⟨f, b, v, w', rfl, h0, rfl, hl, q⟩ := h
  walk_at "lyI"
  rename_i u hu
  obtain ⟨a, xs, rfl, hq, hd⟩ := Dp.tup_inv hu
  refine ⟨a, xs, rfl, hq, ?_⟩
  have wk := dw_enumT (M := []) hq hd (.inl rfl)
  rw [List.length_map] at wk
  refine x_lcG wk (fun p hp => absurd hp (by simp)) (fun i es => es = (ownF 0 b (f.1.take i)).map PyData.int) rfl ?_ ?_
  · intro D i x es H' H2 hi S r hx
    rw [getD_kind hi] at hx
    have e2 : Ex H H2 := S.r.trans r
    have es_i : es = (ownF 0 b (f.1.take i)).map PyData.int := S.inv
    refine x_gtup2 hx ?_
    intro u0 u1 g0 g1
    obtain rfl := Dp.int_inv g0
    obtain rfl := Dp.str_inv g1
    walk_at "ly"
    refine ⟨rfl, ?_⟩
    walk_at "ly"
    refine x_kd ?_
    intro ak hk
    walk_at "ly"
    have fin : ∀ H3, H3 = H2 → (if decide (kS f.1[i] = kS b) = true then (tOp (rI0 fun i j => V.int (i + j)) (tOp (rIxT K) (tVar 0) (tC (V.int 1))) (tVar 2)) ((wipe (L2.start ["prenex", "side", "at", "kind"] [v, V.str (sS b)]) (List.map (fun x => x.2) [(("at" : Str), 2), ("kind", 3)])).set 2 (some (V.int ↑i)) |>.set 3 (some (V.str (kS f.1[i])))) H2 (fun z H4 => LcY K [] H (fun i es => es = (ownF 0 b (f.1.take i)).map PyData.int) D i z H4)
        else LcP K [] H (fun i es => es = (ownF 0 b (f.1.take i)).map PyData.int) D (i + 1) H2) := fun H3 _ => by
      rw [kS_eq]
      by_cases c : f.1[i] = b
      · rw [decide_eq_true c]
        walk_at "ly"
        have ee : es ++ [PyData.int (0 + i)] = (ownF 0 b (f.1.take (i + 1))).map PyData.int := by
          rw [ownF_snoc (List.getElem?_eq_getElem hi), if_pos c, es_i]
          simp
        exact lcY S r (.int _) ee (by rw [ee]; exact ims_ints _) (by omega)
      · rw [decide_eq_false c]
        walk_at "ly"
        exact lcN S r (by rw [ownF_snoc (List.getElem?_eq_getElem hi), if_neg c, es_i]; simp) (by rw [es_i]; exact ims_ints _)
    cases b with
    | true =>
      refine x_ixKD hk.1 ?_
      walk_at "ly"
      exact fin _ rfl
    | false =>
      refine x_ixKD hk.2 ?_
      walk_at "ly"
      exact fin _ rfl
  · intro es a' acc H' hI r e1 e2 e3
    have hI' : es = (ownF 0 b (f.1.take f.1.length)).map PyData.int := hI
    rw [List.take_length] at hI'
    subst hI'
    exact q _ _ _ r e1 e2 e3
end
end K85

/-! ### text T5 -/
namespace K85
open PySem PySem.Spec PyProof.Rows L2 Lay

section
variable {P : Program} {w : World} {K : PySem.W.Frag} {mg : Str → Option Value} {base : Heap}
theorem cal__law_own (T : Top K w mg) : Cal P w K mg base "_law_own" ["form", "side"] 1 (sp_own K) := by
  refine cal_of T.f__law_own sc__law_own ?len (fun _ _ _ _ _ _ us hl => match us, hl with | [_, _], _ => rfl) (fun f cdv A outer s H vs Q E hr h => ⟨_, (pss_one (ps_ret (pe_lc (own := [("at", 2), ("kind", 3)]) (g := (gTup K 2 (gCons (gName 2) (gCons (gName 3) gNil)))) rfl sc__law_own.nd (pi_enumT rfl T.b_enumerate (pa_cons (pe_ix ix_tupK (pv 0) pe_int (fun _ _ => rfl)) pa_nil)) (blkOk_by (by show blkC ["form", "side", "at", "kind"] (defScope s__law_own) _ _ = true; decide +kernel)) (fun _ _ _ _ _ => (pg_tup rfl (pgs_cons (pg_name (i := 2) sc__law_own.nd rfl (by first | exact Or.inl rfl | exact Or.inr rfl)) (pgs_cons (pg_name (i := 3) sc__law_own.nd rfl (by first | exact Or.inl rfl | exact Or.inr rfl)) pgs_nil)))) (fun _ _ _ _ _ => (pts_one (pt_cmpR op_eq (pv 3) (pe_ifExp (pt_cmpR op_eq (pv 1) pe_str (nomark _)) pe_str pe_str) (nomark _)))) (fun _ _ _ _ _ => (pv 2))))), ?_⟩)
  case len => intro vs H Q E h; obtain ⟨_, _, _, _, rfl, _⟩ := h; rfl
  obtain ⟨f, b, v, w', rfl, h0, rfl, hl, q⟩ := h
  walk_at "lyI"
  rename_i u hu
  obtain ⟨a, xs, rfl, hq, hd⟩ := Dp.tup_inv hu
  refine ⟨a, xs, rfl, hq, ?_⟩
  have wk := dw_enumT (M := []) hq hd (.inl rfl)
  rw [List.length_map] at wk
  refine x_lcG wk (fun p hp => absurd hp (by simp)) (fun i es => es = (ownF 0 b (f.1.take i)).map PyData.int) rfl ?_ ?_
  · intro D i x es H' H2 hi S r hx
    rw [getD_kind hi] at hx
    have e2 : Ex H H2 := S.r.trans r
    have es_i : es = (ownF 0 b (f.1.take i)).map PyData.int := S.inv
    refine x_gtup2 hx ?_
    intro u0 u1 g0 g1
    obtain rfl := Dp.int_inv g0
    obtain rfl := Dp.str_inv g1
    walk_at "ly"
    refine ⟨rfl, ?_⟩
    walk_at "ly"
    have fin : ∀ H3, H3 = H2 → (if decide (kS f.1[i] = kS b) = true then (tVar 2) ((wipe (L2.start ["form", "side", "at", "kind"] [v, V.str (sS b)]) (List.map (fun x => x.2) [(("at" : Str), 2), ("kind", 3)])).set 2 (some (V.int ↑i)) |>.set 3 (some (V.str (kS f.1[i])))) H2 (fun z H4 => LcY K [] H (fun i es => es = (ownF 0 b (f.1.take i)).map PyData.int) D i z H4)
        else LcP K [] H (fun i es => es = (ownF 0 b (f.1.take i)).map PyData.int) D (i + 1) H2) := fun H3 _ => by
      rw [kS_eq]
      by_cases c : f.1[i] = b
      · rw [decide_eq_true c]
        walk_at "ly"
        have ee : es ++ [PyData.int i] = (ownF 0 b (f.1.take (i + 1))).map PyData.int := by
          rw [ownF_snoc (List.getElem?_eq_getElem hi), if_pos c, es_i]
          simp
        exact lcY S r (.int _) ee (by rw [ee]; exact ims_ints _) (by omega)
      · rw [decide_eq_false c]
        walk_at "ly"
        exact lcN S r (by rw [ownF_snoc (List.getElem?_eq_getElem hi), if_neg c, es_i]; simp) (by rw [es_i]; exact ims_ints _)
    cases b with
    | true =>
      walk_at "ly"
      exact fin _ rfl
    | false =>
      walk_at "ly"
      exact fin _ rfl
  · intro es a' acc H' hI r e1 e2 e3
    have hI' : es = (ownF 0 b (f.1.take f.1.length)).map PyData.int := hI
    rw [List.take_length] at hI'
    subst hI'
    exact q _ _ _ r e1 e2 e3

theorem cal__law_total (T : Top K w mg) : Cal P w K mg base "_law_total" ["linear", "numbers"] 1 (sp_worth K) := by
  refine cal_of T.f__law_total sc__law_total ?len (fun _ _ _ _ _ _ us hl => match us, hl with | [_, _], _ => rfl) (fun f cdv A outer s H vs Q E hr h => ⟨_, (pss_one (ps_ret (pe_op op_add (pe_ix ix_tupK (pv 0) pe_int (fun _ _ => rfl)) (pe_callB cr_sumK rfl T.b_sum (by decide +kernel) (pa_cons (pe_lc (own := [("v", 2), ("many", 3)]) (g := (gTup K 2 (gCons (gName 2) (gCons (gName 3) gNil)))) rfl sc__law_total.nd (pi_tup (pe_ix ix_tupK (pv 0) pe_int (fun _ _ => rfl))) (blkOk_by (by show blkC ["linear", "numbers", "v", "many"] (defScope s__law_total) _ _ = true; decide +kernel)) (fun _ _ _ _ _ => (pg_tup rfl (pgs_cons (pg_name (i := 2) sc__law_total.nd rfl (by first | exact Or.inl rfl | exact Or.inr rfl)) (pgs_cons (pg_name (i := 3) sc__law_total.nd rfl (by first | exact Or.inl rfl | exact Or.inr rfl)) pgs_nil)))) (fun _ _ _ _ _ => pts_nil) (fun _ _ _ _ _ => (pe_op op_mul (pv 3) (pe_ix ix_listK (pv 1) (pv 2) (fun _ _ => rfl))))) pa_nil))))), ?_⟩)
  case len => exact spG_len fun _ => rfl
  obtain ⟨⟨l, ns⟩, h, hp, q⟩ := h
  obtain ⟨v0, v1, rfl, h0, h1⟩ := h.inv2
  dsimp only at h0 h1 hp q
  walk_at "lyI"
  refine x_lcT l.2 eT (fun t => .int (t.2 * at0 ns t.1)) (by walk_at "lyD") (fun _ _ => rfl) (Nat.le_trans hp.1 (by decide)) ?_ ?_
  · intro C a x H' ha e hx hC
    obtain ⟨t1, t2, t3, t4⟩ := hp.2 a ha
    refine x_gtup2 hx ?_
    intro u0 u1 g0 g1
    obtain rfl := Dp.int_inv g0
    obtain rfl := Dp.int_inv g1
    walk_at "ly"
    refine ⟨rfl, ?_⟩
    walk_at "ly"
    refine x_ixL (by walk_at "lyD") (at_ints t1 t2) ?_
    walk_at "lyV"
    refine x_I (Or.inl ⟨by omega, by omega⟩) ?_
    exact hC _ _ (R.refl _) (.int _)
  · intro a acc H' e h1 h2 h3
    have h3' : DpAll K H' acc ((l.2.map fun t => t.2 * at0 ns t.1).map PyData.int) := by rw [List.map_map]; exact h3
    walk_at "ly"
    refine x_sumD (dp_lst h2 h3') ?_
    walk_at "ly"
    exact q _ _ e (.int _)
/-- numbers as a list or a tuple -/
def NumV (K : PySem.W.Frag) (H : Hp) (v : V) (ns : List Int) : Prop := Dp K H v (.tuple (ns.map PyData.int)) ∨ Dp K H v (.list (ns.map PyData.int))
theorem NumV.ex {H H' : Hp} {v : V} {ns : List Int} (h : NumV K H v ns) (e : Ex H H') : NumV K H' v ns := h.elim (fun h => .inl (R.xp e _ _ h)) fun h => .inr (R.xp e _ _ h)
def sp_isso (n : Nat) (K : PySem.W.Frag) : Sp := fun vs H Q _ => ∃ (f : Fm) (ns : List Int) (v w : V), vs = [v, w] ∧ Dp K H v (eF f) ∧ NumV K H w ns ∧ FmOk ns.length f ∧ f.deep ≤ n ∧ ∀ H', Ex H H' → Q (.bl (fh ns f)) H'
theorem cal__law_is_so (T : Top K w mg) : ∀ n, Cal P w K mg base "_law_is_so" ["formula", "numbers"] (n + 1) (sp_isso n K) := by
  intro n
  induction n with
  | zero =>
    have ih : Cal P w K mg base "_law_is_so" ["formula", "numbers"] 0 (fun _ _ _ _ => False) := by
      obtain ⟨f, fd, hm, F⟩ := T.f__law_is_so
      exact ⟨f, fd, hm, F.kp, F.binds (fun _ _ _ _ _ _ us hl => match us, hl with | [_, _], _ => rfl), fun _ _ _ _ h => h.elim, fun _ _ _ _ _ _ _ _ _ _ _ _ _ h => h.elim⟩
    refine cal_of T.f__law_is_so sc__law_is_so ?len (fun _ _ _ _ _ _ us hl => match us, hl with | [_, _], _ => rfl) (fun f cdv A outer s H vs Q E hr h => ⟨_, (pss_cons (ps_if (pt_cmpR op_inK (pe_ix ix_tupK (pv 0) pe_int (fun _ _ => rfl)) (pe_tup (pa_cons pe_str (pa_cons pe_str pa_nil))) rfl) (pss_cons (ps_setLc (i := 3) (own := [("one", 4)]) (g := (gName 4)) rfl sc__law_is_so.nd rfl rfl (sw_true rfl rfl rfl (by decide +kernel)) (pi_tup (pe_ix ix_tupK (pv 0) pe_int (fun _ _ => rfl))) (blkOk_by (by show blkC ["formula", "numbers", "total", "told", "one", "v", "many"] (defScope s__law_is_so) _ _ = true; decide +kernel)) (fun _ _ _ _ _ => (pg_name (i := 4) sc__law_is_so.nd rfl (by first | exact Or.inl rfl | exact Or.inr rfl))) (fun _ _ _ _ _ => pts_nil) (fun _ _ _ _ _ => (pe_def ih (hr.mono (by omega)) (pa_cons (pv 4) (pa_cons (pv 1) pa_nil)))))
      (pss_one (ps_ret (pe_ifExp (pt_cmpR op_eq (pe_ix ix_tupK (pv 0) pe_int (fun _ _ => rfl)) pe_str (nomark _)) (pe_callB cr_allK rfl T.b_all (by decide +kernel) (pa_cons (pv 3) pa_nil)) (pe_callB cr_anyK rfl T.b_any (by decide +kernel) (pa_cons (pv 3) pa_nil)))))) pss_nil)
      (pss_cons (ps_set (i := 2) sc__law_is_so.nd rfl (by first | exact Or.inl rfl | exact Or.inr rfl) (pe_op op_add (pe_ix ix_tupK (pe_ix ix_tupK (pv 0) (pe_un un_neg pe_int) (fun _ _ => rfl)) pe_int (fun _ _ => rfl)) (pe_callB cr_sumK rfl T.b_sum (by decide +kernel) (pa_cons (pe_lc (own := [("v", 5), ("many", 6)]) (g := (gTup K 2 (gCons (gName 5) (gCons (gName 6) gNil)))) rfl sc__law_is_so.nd (pi_tup (pe_ix ix_tupK (pe_ix ix_tupK (pv 0) (pe_un un_neg pe_int) (fun _ _ => rfl)) pe_int (fun _ _ => rfl))) (blkOk_by (by show blkC ["formula", "numbers", "total", "told", "one", "v", "many"] (defScope s__law_is_so) _ _ = true; decide +kernel)) (fun _ _ _ _ _ => (pg_tup rfl (pgs_cons (pg_name (i := 5) sc__law_is_so.nd rfl (by first | exact Or.inl rfl | exact Or.inr rfl)) (pgs_cons (pg_name (i := 6) sc__law_is_so.nd rfl (by first | exact Or.inl rfl | exact Or.inr rfl)) pgs_nil)))) (fun _ _ _ _ _ => pts_nil) (fun _ _ _ _ _ => (pe_op op_mul (pv 6) (pe_ix ix_seqK (pv 1) (pv 5) (fun _ _ => rfl))))) pa_nil))))
      (pss_cons (ps_if (pt_cmpR op_eq (pe_ix ix_tupK (pv 0) pe_int (fun _ _ => rfl)) pe_str (nomark _)) (pss_one (ps_ret (pe_cmpR op_le (pv 2) pe_int (nomark _)))) pss_nil)
      (pss_one (ps_ret (pe_cmpR op_eq (pe_cmpR op_eq (pe_callTy call_int1K rfl T.b_int (by decide +kernel) (pa_cons (pe_op op_mod (pv 2) (pe_ix ix_tupK (pv 0) pe_int (fun _ _ => rfl))) pa_nil)) pe_int (nomark _)) (pe_cmpR op_eq (pe_ix ix_tupK (pv 0) pe_int (fun _ _ => rfl)) pe_str (nomark _)) (nomark _))))))), ?_⟩)
    case len => intro vs H Q E h; obtain ⟨_, _, _, _, rfl, _⟩ := h; rfl
    obtain ⟨f, ns, v0, v1, rfl, h0, h1, hp, hd, q⟩ := h
    have ha := fdeep0 (Nat.le_zero.mp hd)
    cases f with
    | le l =>
      have hl : LinOk ns.length l := hp
      walk_at "lyI"
      refine x_lcT l.2 eT (fun t => .int (t.2 * at0 ns t.1)) (by walk_at "lyD") (fun _ _ => rfl) (Nat.le_trans hl.1 (by decide)) ?_ ?_
      · intro C a x H' ha e hx hC
        obtain ⟨t1, t2, t3, t4⟩ := hl.2 a ha
        refine x_gtup2 hx ?_
        intro u0 u1 g0 g1
        obtain rfl := Dp.int_inv g0
        obtain rfl := Dp.int_inv g1
        walk_at "ly"
        refine ⟨rfl, ?_⟩
        walk_at "ly"
        refine x_ixS (h1.ex (R.trans (by assumption) e)) (at_ints t1 t2) ?_
        walk_at "lyV"
        refine x_I (Or.inl ⟨by omega, by omega⟩) ?_
        exact hC _ _ (R.refl _) (.int _)
      · intro a acc H' e h1 h2 h3
        have h3' : DpAll K H' acc ((l.2.map fun t => t.2 * at0 ns t.1).map PyData.int) := by rw [List.map_map]; exact h3
        walk_at "ly"
        refine x_sumD (dp_lst h2 h3') ?_
        walk_at "ly"
        exact q _ (R.trans (by assumption) e)
    | into k l =>
      have hl : LinOk ns.length l := hp.2.2
      walk_at "lyI"
      refine x_lcT l.2 eT (fun t => .int (t.2 * at0 ns t.1)) (by walk_at "lyD") (fun _ _ => rfl) (Nat.le_trans hl.1 (by decide)) ?_ ?_
      · intro C a x H' ha e hx hC
        obtain ⟨t1, t2, t3, t4⟩ := hl.2 a ha
        refine x_gtup2 hx ?_
        intro u0 u1 g0 g1
        obtain rfl := Dp.int_inv g0
        obtain rfl := Dp.int_inv g1
        walk_at "ly"
        refine ⟨rfl, ?_⟩
        walk_at "ly"
        refine x_ixS (h1.ex (R.trans (by assumption) e)) (at_ints t1 t2) ?_
        walk_at "lyV"
        refine x_I (Or.inl ⟨by omega, by omega⟩) ?_
        exact hC _ _ (R.refl _) (.int _)
      · intro a acc H' e h1 h2 h3
        have h3' : DpAll K H' acc ((l.2.map fun t => t.2 * at0 ns t.1).map PyData.int) := by rw [List.map_map]; exact h3
        walk_at "ly"
        refine x_sumD (dp_lst h2 h3') ?_
        walk_at "ly"
        refine x_I hp.1 ?_
        walk_at "ly"
        have eb : decide (decide ((worth l ns) % k = 0) = true) = fh ns (.into k l) := by simp [fh]
        have q' := q _ (R.trans (by assumption) e)
        rw [← eb] at q'
        exact q'
    | off k l =>
      have hl : LinOk ns.length l := hp.2.2
      walk_at "lyI"
      refine x_lcT l.2 eT (fun t => .int (t.2 * at0 ns t.1)) (by walk_at "lyD") (fun _ _ => rfl) (Nat.le_trans hl.1 (by decide)) ?_ ?_
      · intro C a x H' ha e hx hC
        obtain ⟨t1, t2, t3, t4⟩ := hl.2 a ha
        refine x_gtup2 hx ?_
        intro u0 u1 g0 g1
        obtain rfl := Dp.int_inv g0
        obtain rfl := Dp.int_inv g1
        walk_at "ly"
        refine ⟨rfl, ?_⟩
        walk_at "ly"
        refine x_ixS (h1.ex (R.trans (by assumption) e)) (at_ints t1 t2) ?_
        walk_at "lyV"
        refine x_I (Or.inl ⟨by omega, by omega⟩) ?_
        exact hC _ _ (R.refl _) (.int _)
      · intro a acc H' e h1 h2 h3
        have h3' : DpAll K H' acc ((l.2.map fun t => t.2 * at0 ns t.1).map PyData.int) := by rw [List.map_map]; exact h3
        walk_at "ly"
        refine x_sumD (dp_lst h2 h3') ?_
        walk_at "ly"
        refine x_I hp.1 ?_
        walk_at "ly"
        have eb : decide (decide ((worth l ns) % k = 0) = false) = fh ns (.off k l) := by simp [fh]
        have q' := q _ (R.trans (by assumption) e)
        rw [← eb] at q'
        exact q'
    | yes => cases ha
    | both f g => cases ha
    | one f g => cases ha
  | succ n ih =>
    refine cal_of T.f__law_is_so sc__law_is_so ?len (fun _ _ _ _ _ _ us hl => match us, hl with | [_, _], _ => rfl) (fun f cdv A outer s H vs Q E hr h => ⟨_, (pss_cons (ps_if (pt_cmpR op_inK (pe_ix ix_tupK (pv 0) pe_int (fun _ _ => rfl)) (pe_tup (pa_cons pe_str (pa_cons pe_str pa_nil))) rfl) (pss_cons (ps_setLc (i := 3) (own := [("one", 4)]) (g := (gName 4)) rfl sc__law_is_so.nd rfl rfl (sw_true rfl rfl rfl (by decide +kernel)) (pi_tup (pe_ix ix_tupK (pv 0) pe_int (fun _ _ => rfl))) (blkOk_by (by show blkC ["formula", "numbers", "total", "told", "one", "v", "many"] (defScope s__law_is_so) _ _ = true; decide +kernel)) (fun _ _ _ _ _ => (pg_name (i := 4) sc__law_is_so.nd rfl (by first | exact Or.inl rfl | exact Or.inr rfl))) (fun _ _ _ _ _ => pts_nil) (fun _ _ _ _ _ => (pe_def ih (hr.mono (by omega)) (pa_cons (pv 4) (pa_cons (pv 1) pa_nil)))))
      (pss_one (ps_ret (pe_ifExp (pt_cmpR op_eq (pe_ix ix_tupK (pv 0) pe_int (fun _ _ => rfl)) pe_str (nomark _)) (pe_callB cr_allK rfl T.b_all (by decide +kernel) (pa_cons (pv 3) pa_nil)) (pe_callB cr_anyK rfl T.b_any (by decide +kernel) (pa_cons (pv 3) pa_nil)))))) pss_nil)
      (pss_cons (ps_set (i := 2) sc__law_is_so.nd rfl (by first | exact Or.inl rfl | exact Or.inr rfl) (pe_op op_add (pe_ix ix_tupK (pe_ix ix_tupK (pv 0) (pe_un un_neg pe_int) (fun _ _ => rfl)) pe_int (fun _ _ => rfl)) (pe_callB cr_sumK rfl T.b_sum (by decide +kernel) (pa_cons (pe_lc (own := [("v", 5), ("many", 6)]) (g := (gTup K 2 (gCons (gName 5) (gCons (gName 6) gNil)))) rfl sc__law_is_so.nd (pi_tup (pe_ix ix_tupK (pe_ix ix_tupK (pv 0) (pe_un un_neg pe_int) (fun _ _ => rfl)) pe_int (fun _ _ => rfl))) (blkOk_by (by show blkC ["formula", "numbers", "total", "told", "one", "v", "many"] (defScope s__law_is_so) _ _ = true; decide +kernel)) (fun _ _ _ _ _ => (pg_tup rfl (pgs_cons (pg_name (i := 5) sc__law_is_so.nd rfl (by first | exact Or.inl rfl | exact Or.inr rfl)) (pgs_cons (pg_name (i := 6) sc__law_is_so.nd rfl (by first | exact Or.inl rfl | exact Or.inr rfl)) pgs_nil)))) (fun _ _ _ _ _ => pts_nil) (fun _ _ _ _ _ => (pe_op op_mul (pv 6) (pe_ix ix_seqK (pv 1) (pv 5) (fun _ _ => rfl))))) pa_nil))))
      (pss_cons (ps_if (pt_cmpR op_eq (pe_ix ix_tupK (pv 0) pe_int (fun _ _ => rfl)) pe_str (nomark _)) (pss_one (ps_ret (pe_cmpR op_le (pv 2) pe_int (nomark _)))) pss_nil)
      (pss_one (ps_ret (pe_cmpR op_eq (pe_cmpR op_eq (pe_callTy call_int1K rfl T.b_int (by decide +kernel) (pa_cons (pe_op op_mod (pv 2) (pe_ix ix_tupK (pv 0) pe_int (fun _ _ => rfl))) pa_nil)) pe_int (nomark _)) (pe_cmpR op_eq (pe_ix ix_tupK (pv 0) pe_int (fun _ _ => rfl)) pe_str (nomark _)) (nomark _))))))), ?_⟩)
    case len => intro vs H Q E h; obtain ⟨_, _, _, _, rfl, _⟩ := h; rfl
    obtain ⟨f, ns, v0, v1, rfl, h0, h1, hp, hd, q⟩ := h
    cases f with
    | le l =>
      have hl : LinOk ns.length l := hp
      walk_at "lyI"
      refine x_lcT l.2 eT (fun t => .int (t.2 * at0 ns t.1)) (by walk_at "lyD") (fun _ _ => rfl) (Nat.le_trans hl.1 (by decide)) ?_ ?_
      · intro C a x H' ha e hx hC
        obtain ⟨t1, t2, t3, t4⟩ := hl.2 a ha
        refine x_gtup2 hx ?_
        intro u0 u1 g0 g1
        obtain rfl := Dp.int_inv g0
        obtain rfl := Dp.int_inv g1
        walk_at "ly"
        refine ⟨rfl, ?_⟩
        walk_at "ly"
        refine x_ixS (h1.ex (R.trans (by assumption) e)) (at_ints t1 t2) ?_
        walk_at "lyV"
        refine x_I (Or.inl ⟨by omega, by omega⟩) ?_
        exact hC _ _ (R.refl _) (.int _)
      · intro a acc H' e h1 h2 h3
        have h3' : DpAll K H' acc ((l.2.map fun t => t.2 * at0 ns t.1).map PyData.int) := by rw [List.map_map]; exact h3
        walk_at "ly"
        refine x_sumD (dp_lst h2 h3') ?_
        walk_at "ly"
        exact q _ (R.trans (by assumption) e)
    | into k l =>
      have hl : LinOk ns.length l := hp.2.2
      walk_at "lyI"
      refine x_lcT l.2 eT (fun t => .int (t.2 * at0 ns t.1)) (by walk_at "lyD") (fun _ _ => rfl) (Nat.le_trans hl.1 (by decide)) ?_ ?_
      · intro C a x H' ha e hx hC
        obtain ⟨t1, t2, t3, t4⟩ := hl.2 a ha
        refine x_gtup2 hx ?_
        intro u0 u1 g0 g1
        obtain rfl := Dp.int_inv g0
        obtain rfl := Dp.int_inv g1
        walk_at "ly"
        refine ⟨rfl, ?_⟩
        walk_at "ly"
        refine x_ixS (h1.ex (R.trans (by assumption) e)) (at_ints t1 t2) ?_
        walk_at "lyV"
        refine x_I (Or.inl ⟨by omega, by omega⟩) ?_
        exact hC _ _ (R.refl _) (.int _)
      · intro a acc H' e h1 h2 h3
        have h3' : DpAll K H' acc ((l.2.map fun t => t.2 * at0 ns t.1).map PyData.int) := by rw [List.map_map]; exact h3
        walk_at "ly"
        refine x_sumD (dp_lst h2 h3') ?_
        walk_at "ly"
        refine x_I hp.1 ?_
        walk_at "ly"
        have eb : decide (decide ((worth l ns) % k = 0) = true) = fh ns (.into k l) := by simp [fh]
        have q' := q _ (R.trans (by assumption) e)
        rw [← eb] at q'
        exact q'
    | off k l =>
      have hl : LinOk ns.length l := hp.2.2
      walk_at "lyI"
      refine x_lcT l.2 eT (fun t => .int (t.2 * at0 ns t.1)) (by walk_at "lyD") (fun _ _ => rfl) (Nat.le_trans hl.1 (by decide)) ?_ ?_
      · intro C a x H' ha e hx hC
        obtain ⟨t1, t2, t3, t4⟩ := hl.2 a ha
        refine x_gtup2 hx ?_
        intro u0 u1 g0 g1
        obtain rfl := Dp.int_inv g0
        obtain rfl := Dp.int_inv g1
        walk_at "ly"
        refine ⟨rfl, ?_⟩
        walk_at "ly"
        refine x_ixS (h1.ex (R.trans (by assumption) e)) (at_ints t1 t2) ?_
        walk_at "lyV"
        refine x_I (Or.inl ⟨by omega, by omega⟩) ?_
        exact hC _ _ (R.refl _) (.int _)
      · intro a acc H' e h1 h2 h3
        have h3' : DpAll K H' acc ((l.2.map fun t => t.2 * at0 ns t.1).map PyData.int) := by rw [List.map_map]; exact h3
        walk_at "ly"
        refine x_sumD (dp_lst h2 h3') ?_
        walk_at "ly"
        refine x_I hp.1 ?_
        walk_at "ly"
        have eb : decide (decide ((worth l ns) % k = 0) = false) = fh ns (.off k l) := by simp [fh]
        have q' := q _ (R.trans (by assumption) e)
        rw [← eb] at q'
        exact q'
    | yes =>
      walk_at "lyI"
      refine x_lcT (α := Fm) [] eF (fun f => .bool (fh ns f)) (by walk_at "lyD") (by simp) (by simp) (fun C a x H' ha => absurd ha (by simp)) ?_
      intro l acc H' e h1 h2 h3
      walk_at "ly"
      exact x_allD (ns := [].map (fh ns)) (dp_lst h2 h3) (q _ (R.trans (by assumption) e))
    | both f g =>
      walk_at "lyI"
      refine x_lcT (α := Fm) [f, g] eF (fun f => .bool (fh ns f)) (by walk_at "lyD") (fun _ _ => rfl) (by show 2 ≤ 100000; decide) ?_ ?_
      · intro C a x H' ha e hx hC
        walk_at "ly"
        refine ⟨rfl, ?_⟩
        walk_at "ly"
        have hdd : max f.deep g.deep + 1 ≤ n + 1 := hd
        have hl : FmOk ns.length a ∧ a.deep ≤ n := by
          have : a = f ∨ a = g := by simpa using ha
          rcases this with e | e
          · subst e
            exact ⟨hp.1, by omega⟩
          · subst e
            exact ⟨hp.2, by omega⟩
        exact ⟨a, ns, _, _, rfl, hx, h1.ex (R.trans (by assumption) e), hl.1, hl.2, fun H4 e4 => hC _ _ e4 (.bl _)⟩
      · intro l acc H' e h1 h2 h3
        walk_at "ly"
        refine x_allD (ns := [f, g].map (fh ns)) (dp_lst h2 h3) ?_
        have eb : ([f, g].map (fh ns)).all id = fh ns (.both f g) := by simp [fh]
        rw [eb]
        exact q _ (R.trans (by assumption) e)
    | one f g =>
      walk_at "lyI"
      refine x_lcT (α := Fm) [f, g] eF (fun f => .bool (fh ns f)) (by walk_at "lyD") (fun _ _ => rfl) (by show 2 ≤ 100000; decide) ?_ ?_
      · intro C a x H' ha e hx hC
        walk_at "ly"
        refine ⟨rfl, ?_⟩
        walk_at "ly"
        have hdd : max f.deep g.deep + 1 ≤ n + 1 := hd
        have hl : FmOk ns.length a ∧ a.deep ≤ n := by
          have : a = f ∨ a = g := by simpa using ha
          rcases this with e | e
          · subst e
            exact ⟨hp.1, by omega⟩
          · subst e
            exact ⟨hp.2, by omega⟩
        exact ⟨a, ns, _, _, rfl, hx, h1.ex (R.trans (by assumption) e), hl.1, hl.2, fun H4 e4 => hC _ _ e4 (.bl _)⟩
      · intro l acc H' e h1 h2 h3
        walk_at "ly"
        refine x_anyD (ns := [f, g].map (fh ns)) (dp_lst h2 h3) ?_
        have eb : ([f, g].map (fh ns)).any id = fh ns (.one f g) := by simp [fh]
        rw [eb]
        exact q _ (R.trans (by assumption) e)
end
end K85

/-! ### text T6 -/
namespace K85
open PySem PySem.Spec PyProof.Rows L2 Lay

section
variable {P : Program} {w : World} {K : PySem.W.Frag} {mg : Str → Option Value} {base : Heap}
theorem cdiv_small {i j : Int} (h : 0 < j) (h2 : j < 1000) : CDivP i j := by
  refine ⟨h, ?_⟩
  show (decide ((if j == 0 then 0 else j.natAbs.log2 / 30 + 1) > 300) && _) = false
  have e : (j == 0) = false := by simpa using (show j ≠ 0 by omega)
  rw [e]
  have l : j.natAbs.log2 < 10 := by
    have : j.natAbs < 2 ^ 10 := by omega
    exact (Nat.log2_lt (by omega)).mpr this
  have : ¬ ((if false = true then 0 else j.natAbs.log2 / 30 + 1) > 300) := by
    rw [if_neg (by simp)]
    omega
  rw [decide_eq_false this, Bool.false_and]
theorem pot_upd {p : Addr} {H H1 : Hp} {xs : List V} {a b : Int} (r : R [p] H H1) (h : H1 p = some (.lst xs)) (k : PotOk a b) : R [p] H (upd H1 p (.lst [.int a, .int b])) := by
  have ne : ∀ {c : Addr} {o : HO}, H1 c = some o → o ≠ .lst xs → upd H1 p (.lst [.int a, .int b]) c = some o := fun {c o} e n => by
    rw [upd_ne (fun z => n (by rw [z, h] at e; exact (Option.some.inj e).symm))]
    exact e
  refine ⟨fun c o n e => ?_, fun c ys e => ne (r.tups _ _ e) (fun z => by cases z), fun c o u e => ne (r.frzs _ _ _ e) (fun z => by cases z), fun q hq _ => ?_⟩
  · rw [upd_ne (by simpa using n)]
    exact r.keep c o n e
  · have : q = p := by simpa using hq
    rw [this]
    exact ⟨a, b, k, upd_same⟩
def sp_draw : Sp := fun vs H Q _ => ∃ (p : Addr) (m : Int), vs = [.ref p, .int m] ∧ PotAt H p ∧ 0 < m ∧ m < 1000 ∧ ∀ d H', 0 ≤ d → d < m → R [p] H H' → Q (.int d) H'
theorem cal__law_draw (T : Top K w mg) : Cal P w K mg base "_law_draw" ["pot", "many"] 1 sp_draw := by
  refine cal_of T.f__law_draw sc__law_draw ?len (fun _ _ _ _ _ _ us hl => match us, hl with | [_, _], _ => rfl) (fun f cdv A outer s H vs Q E hr h => ⟨_, (pss_cons (ps_if (pt_cmpR op_gt (pe_ix ix_listK (pv 0) pe_int (fun _ _ => rfl)) pe_int (nomark _)) (pss_cons (ps_asg (pe_callB call_divmodW rfl T.b_divmod (by decide +kernel) (pa_cons (pe_ix ix_listK (pv 0) pe_int (fun _ _ => rfl)) (pa_cons (pv 1) pa_nil))) (pg_tup rfl (pgs_cons (pg_sub (pv 0) pe_int set_list (fun _ => rfl)) (pgs_cons (pg_name (i := 2) sc__law_draw.nd rfl (by first | exact Or.inl rfl | exact Or.inr rfl)) pgs_nil))))
      (pss_one (ps_ret (pv 2)))) pss_nil)
      (pss_cons (ps_asg (pe_op op_mod (pe_callTy call_int1K rfl T.b_int (by decide +kernel) (pa_cons (pe_op op_add (pe_op op_mul (pe_ix ix_listK (pv 0) pe_int (fun _ _ => rfl)) pe_int) pe_int) pa_nil)) pe_int) (pg_sub (pv 0) pe_int set_list (fun _ => rfl)))
      (pss_one (ps_ret (pe_op op_mod (pe_callTy call_int1K rfl T.b_int (by decide +kernel) (pa_cons (pe_op op_fdiv (pe_op op_mod (pe_callTy call_int1K rfl T.b_int (by decide +kernel) (pa_cons (pe_op op_mul (pe_ix ix_listK (pv 0) pe_int (fun _ _ => rfl)) (pe_ix ix_listK (pv 0) pe_int (fun _ _ => rfl))) pa_nil)) pe_int) pe_int) pa_nil)) (pv 1)))))), ?_⟩)
  case len => intro vs H Q E h; obtain ⟨_, _, rfl, _⟩ := h; rfl
  obtain ⟨p, m, rfl, ⟨a, b, ⟨k1, k2, k3, k4⟩, hp⟩, m1, m2, q⟩ := h
  have hpd : Dp K H (.ref p) (.list [.int a, .int b]) := dp_lst hp (.cons (.int _) (.cons (.int _) .nil))
  walk_at "lyI"
  by_cases c : a > 0
  · refine x_ifdT c ?_
    walk_at "ly"
    refine ⟨_, _, rfl, cdiv_small m1 m2, fun t ht => ?_⟩
    refine ⟨t, _, rfl, SqT.of upd_same, rfl, ?_⟩
    have hp1 : upd H t (.tup [.int (a / m), .int (a % m)]) p = some (.lst [.int a, .int b]) := by rw [upd_ne (ne_of_none hp ht)]; exact hp
    have ha : PotOk (a / m) b := ⟨Int.ediv_nonneg k1 (by omega), by
      have : a / m ≤ a := Int.ediv_le_self _ k1
      have h0 : 0 ≤ a / m := Int.ediv_nonneg k1 (by omega)
      omega, k3, k4⟩
    walk_at "ly"
    refine x_setL hp1 rfl ?_
    walk_at "ly"
    exact q _ _ (Int.emod_nonneg _ (by omega)) (Int.emod_lt_of_pos _ m1) (pot_upd (R.new ht) hp1 ha)
  · refine x_ifdF c ?_
    walk_at "ly"
    refine x_I (Or.inr ⟨by decide, by decide⟩) ?_
    walk_at "ly"
    refine x_I (by decide) ?_
    walk_at "ly"
    refine x_setL hp rfl ?_
    have hn : PotOk a ((b * 42024 + 4657) % 2147483563) := ⟨k1, k2, Int.emod_nonneg _ (by decide), by
      have := Int.emod_lt_of_pos (b * 42024 + 4657) (show (0 : Int) < 2147483563 by decide)
      omega⟩
    have r := pot_upd (R.refl H) hp hn
    obtain ⟨_, _, n3, n4⟩ := hn
    show tNext _ _ _
    have hpd : Dp K (upd H p (.lst [.int a, .int ((b * 42024 + 4657) % 2147483563)])) (.ref p) (.list [.int a, .int ((b * 42024 + 4657) % 2147483563)]) := dp_lst upd_same (.cons (.int _) (.cons (.int _) .nil))
    walk_at "ly"
    refine x_I (Or.inl ⟨by omega, by omega⟩) ?_
    walk_at "ly"
    refine x_I (by decide) ?_
    walk_at "ly"
    refine x_I ⟨by decide, by decide⟩ ?_
    walk_at "ly"
    refine x_I m1 ?_
    exact q _ _ (Int.emod_nonneg _ (by omega)) (Int.emod_lt_of_pos _ m1) r
def sp_pick (K : PySem.W.Frag) : Sp := fun vs H Q _ => ∃ (p : Addr) (v : V) (ds : List PyData), vs = [.ref p, v] ∧ PotAt H p ∧ LsV K H p v ds ∧ ds ≠ [] ∧ ds.length < 1000 ∧ ∀ d u H', d ∈ ds → R [p] H H' → Dp K H' u d → Q u H'
theorem cal__law_pick (T : Top K w mg) : Cal P w K mg base "_law_pick" ["pot", "some"] 2 (sp_pick K) := by
  refine cal_of T.f__law_pick sc__law_pick ?len (fun _ _ _ _ _ _ us hl => match us, hl with | [_, _], _ => rfl) (fun f cdv A outer s H vs Q E hr h => ⟨_, (pss_one (ps_ret (pe_ix ix_listK (pv 1) (pe_def (cal__law_draw T) (hr.mono (by omega)) (pa_cons (pv 0) (pa_cons (pe_callB call_lenK rfl T.b_len PySem.boot_len (pa_cons (pv 1) pa_nil)) pa_nil))) (fun _ _ => rfl)))), ?_⟩)
  case len => intro vs H Q E h; obtain ⟨_, _, _, rfl, _⟩ := h; rfl
  obtain ⟨p, v, ds, rfl, hp, hv, h0, h1, q⟩ := h
  walk_at "lyI"
  have hv' := hv.1
  walk_at "ly"
  have hl : 0 < ds.length := List.length_pos_iff.mpr h0
  refine ⟨p, _, rfl, hp, by omega, by omega, fun d H' d0 d1 r => ?_⟩
  walk_at "ly"
  have hn : d.toNat < ds.length := by omega
  refine x_ixL (ds := ds) (d := ds[d.toNat]) (hv.r r).1 (atI_nn d0 (List.getElem?_eq_getElem hn)) ?_
  intro u hu
  exact q _ _ _ (List.getElem_mem hn) r hu
theorem ipow (n : Nat) : ((2 ^ n : Nat) : Int) = (2 : Int) ^ n := Int.natCast_pow 2 n
theorem cell_small {c : Int} (h : c < 1000000000) : c < 2 ^ 1048576 := by
  have e : (2 : Nat) ^ 30 ≤ 2 ^ 1048576 := Nat.pow_le_pow_right (by decide) (by decide)
  have e2 : ((2 ^ 30 : Nat) : Int) ≤ ((2 ^ 1048576 : Nat) : Int) := Int.ofNat_le.mpr e
  rw [ipow 1048576] at e2
  have e3 : ((2 ^ 30 : Nat) : Int) = 1073741824 := by decide
  rw [e3] at e2
  exact Int.lt_of_lt_of_le (Int.lt_of_lt_of_le h (by decide)) e2
theorem pot_ok {c m : Int} (hc : c < 2 ^ 1048576) : PotOk (if c - 1000000000000000000 > 0 then c - 1000000000000000000 else 0) (m % 2147483563 + 1) := by
  have h1 := Int.emod_nonneg m (show (2147483563 : Int) ≠ 0 by decide)
  have h2 := Int.emod_lt_of_pos m (show (0 : Int) < 2147483563 by decide)
  have e : (2 : Nat) ^ 1048576 < 2 ^ 1048577 := Nat.pow_lt_pow_right (by decide) (by decide)
  by_cases g : c - 1000000000000000000 > 0
  · rw [if_pos g]
    refine ⟨Int.le_of_lt g, ?_, by omega, by omega⟩
    refine Nat.lt_trans ?_ e
    have a1 : (((c - 1000000000000000000).natAbs : Nat) : Int) = c - 1000000000000000000 := Int.natAbs_of_nonneg (Int.le_of_lt g)
    have a2 : (((c - 1000000000000000000).natAbs : Nat) : Int) < ((2 ^ 1048576 : Nat) : Int) := by
      rw [a1, ipow]
      exact Int.lt_of_le_of_lt (Int.sub_le_self c (by decide)) hc
    exact Int.ofNat_lt.mp a2
  · rw [if_neg g]
    exact ⟨Int.le_refl _, Nat.two_pow_pos _, by omega, by omega⟩
theorem cell_ok {z : Int} (h : Builtin.Int.intBits z ≤ 1048576) : (if z < 0 then -z else z) < 2 ^ 1048576 := by
  have hn : z.natAbs < 2 ^ 1048576 := by
    unfold Builtin.Int.intBits at h
    by_cases c : z.natAbs = 0
    · rw [c]
      exact Nat.two_pow_pos _
    · have c' : z ≠ 0 := fun e => c (by rw [e]; rfl)
      rw [if_neg (by simpa using c')] at h
      exact (Nat.log2_lt c).mp (by omega)
  have e : ((z.natAbs : Nat) : Int) < ((2 ^ 1048576 : Nat) : Int) := Int.ofNat_lt.mpr hn
  have e2 : ((2 ^ 1048576 : Nat) : Int) = (2 : Int) ^ 1048576 := by exact Int.natCast_pow 2 1048576
  rw [e2] at e
  by_cases c : z < 0
  · rw [if_pos c]
    omega
  · rw [if_neg c]
    omega
def sp_pot (K : PySem.W.Frag) : Sp := fun vs H Q _ => ∃ (l : Addr) (ns : List Int) (k : Nat), vs = [.ref l, .int k] ∧ SqL K H l (ns.map V.int) ∧ (∀ z ∈ ns, Builtin.Int.intBits z ≤ 1048576) ∧ k < 100 ∧ ∀ p H', H p = none → Ex H H' → PotAt H' p → Q (.ref p) H'
theorem cal__law_pot (T : Top K w mg) : Cal P w K mg base "_law_pot" ["script", "k"] 1 (sp_pot K) := by
  refine cal_of T.f__law_pot sc__law_pot ?len (fun _ _ _ _ _ _ us hl => match us, hl with | [_, _], _ => rfl) (fun f cdv A outer s H vs Q E hr h => ⟨_, (pss_cons (ps_set (i := 2) sc__law_pot.nd rfl (by first | exact Or.inl rfl | exact Or.inr rfl) (pe_ifExp (pt_cmpR op_lt (pv 1) (pe_callB call_lenK rfl T.b_len PySem.boot_len (pa_cons (pv 0) pa_nil)) (nomark _)) (pe_callB call_absK rfl T.b_abs (by decide +kernel) (pa_cons (pe_ix ix_listK (pv 0) (pv 1) (fun _ _ => rfl)) pa_nil)) (pe_op op_add (pe_op op_mul pe_int (pv 1)) pe_int)))
      (pss_one (ps_ret (pe_lst (pa_cons (pe_callB (call_max2 rfl) rfl T.b_max (by decide +kernel) (pa_cons pe_int (pa_cons (pe_op op_sub (pv 2) (pe_op op_pow pe_int pe_int)) pa_nil))) (pa_cons (pe_op op_add (pe_op op_mod (pe_callTy call_int1K rfl T.b_int (by decide +kernel) (pa_cons (pe_op op_add (pe_op op_add (pe_op op_mul (pe_op op_mod (pe_callTy call_int1K rfl T.b_int (by decide +kernel) (pa_cons (pv 2) pa_nil)) pe_int) pe_int) (pe_op op_mul pe_int (pv 1))) pe_int) pa_nil)) pe_int) pe_int) pa_nil)))))), ?_⟩)
  case len => intro vs H Q E h; obtain ⟨_, _, _, rfl, _⟩ := h; rfl
  obtain ⟨l, ns, k, rfl, hs, hb, hk, q⟩ := h
  have hl : Dp K H (.ref l) (.list (ns.map PyData.int)) := .lst hs (ints_dps ns)
  walk_at "lyI"
  by_cases c : (k : Int) < ((ns.map PyData.int).length : Int)
  · refine x_ifdT c ?_
    walk_at "ly"
    have hk2 : k < ns.length := by rw [List.length_map] at c; omega
    refine x_ixL (ds := ns.map PyData.int) (d := .int ns[k]) (by walk_at "lyD") (atI_nat (by rw [List.getElem?_map, List.getElem?_eq_getElem hk2]; rfl)) ?_
    walk_at "lyV"
    walk_at "ly"
    refine x_I ⟨by decide, by decide, by decide⟩ ?_
    walk_at "ly"
    refine ⟨_, _, rfl, ?_⟩
    walk_at "ly"
    refine x_I (by decide) ?_
    walk_at "ly"
    refine x_I (Or.inr ⟨by decide, by decide⟩) ?_
    walk_at "ly"
    refine x_I (Or.inl ⟨by decide, by decide⟩) ?_
    walk_at "ly"
    refine x_I (by decide) ?_
    walk_at "ly"
    rename_i l2 H2 e2 n2 t2 h2
    refine q _ _ n2 e2 ⟨_, _, pot_ok (cell_ok (hb _ (List.getElem_mem hk2))), t2⟩
  · refine x_ifdF c ?_
    walk_at "ly"
    refine x_I (Or.inl ⟨by decide, by decide⟩) ?_
    walk_at "ly"
    refine x_I ⟨by decide, by decide, by decide⟩ ?_
    walk_at "ly"
    refine ⟨_, _, rfl, ?_⟩
    walk_at "ly"
    refine x_I (by decide) ?_
    walk_at "ly"
    refine x_I (Or.inr ⟨by decide, by decide⟩) ?_
    walk_at "ly"
    refine x_I (Or.inl ⟨by decide, by decide⟩) ?_
    walk_at "ly"
    refine x_I (by decide) ?_
    walk_at "ly"
    rename_i l2 H2 e2 n2 t2 h2
    refine q _ _ n2 e2 ⟨_, _, pot_ok (cell_small (by omega)), t2⟩
end
end K85

/-! ### text T15 -/
namespace K85
open PySem PySem.Spec PyProof.Rows L2 Lay

local macro_rules | `(tactic| walk_at "lyT") => `(tactic| first
  | with_reducible assumption | with_reducible exact R.refl _ | with_reducible exact R.of (by with_reducible assumption)
  | ((with_reducible refine R.trans (H1 := ?lym) ?lya ?lyb); (case lyb => first | with_reducible assumption | with_reducible exact R.of (by with_reducible assumption)); walk_at "lyT")
  | fail)

section
variable {P : Program} {w : World} {K : PySem.W.Frag} {mg : Str → Option Value} {base : Heap}
theorem filt_head {ns : List Int} : ∀ {p : Pl} {i : Nat} {y : Fm × Va}, pix ns p = some i → p[i]? = some y → (p.filter fun q => fh ns q.1)[0]? = some y
  | [], _, _, h, _ => by cases h
  | x :: p, i, y, h, e => by
    unfold pix at h
    by_cases c : fh ns x.1 = true
    · rw [if_pos c] at h
      cases h
      simp only [List.filter_cons, c, if_true]
      simpa using e
    · rw [if_neg c] at h
      cases h2 : pix ns p with
      | none => rw [h2] at h; cases h
      | some j =>
        rw [h2] at h
        have : i = j + 1 := (Option.some.inj h).symm
        subst this
        have ih := filt_head h2 (by simpa using e)
        simp only [List.filter_cons, c]
        simpa using ih
theorem emod_pred {a p : Int} (hp : 0 < p) (h : a % p ≠ 0) : (a - 1) % p = a % p - 1 := by
  have h1 := Int.emod_nonneg a (show p ≠ 0 by omega)
  have h2 := Int.emod_lt_of_pos a hp
  have e : a - 1 = (a % p - 1) + p * (a / p) := by
    have := Int.emod_add_mul_ediv a p
    omega
  rw [e, Int.add_mul_emod_self_left]
  exact Int.emod_eq_of_lt (by omega) (by omega)
theorem emod_flip {a b p : Int} : (a - b) % p = 0 ↔ (b - a) % p = 0 := by
  constructor
  · intro h
    have d := Int.dvd_of_emod_eq_zero h
    have : b - a = -(a - b) := by omega
    rw [this]
    exact Int.emod_eq_zero_of_dvd (Int.dvd_neg.mpr d)
  · intro h
    have d := Int.dvd_of_emod_eq_zero h
    have : a - b = -(b - a) := by omega
    rw [this]
    exact Int.emod_eq_zero_of_dvd (Int.dvd_neg.mpr d)
theorem cal__law_told (T : Top K w mg) : Cal P w K mg base "_law_told" ["plan", "numbers"] 4 (sp_told K) := by
  refine cal_of T.f__law_told sc__law_told ?len (fun _ _ _ _ _ _ us hl => match us, hl with | [_, _], _ => rfl) (fun f cdv A outer s H vs Q E hr h => ⟨_, (pss_cons (ps_set (i := 2) sc__law_told.nd rfl (by first | exact Or.inl rfl | exact Or.inr rfl) (pe_ix ix_listK (pe_lc (own := [("formula", 6), ("late", 7)]) (g := (gTup K 2 (gCons (gName 6) (gCons (gName 7) gNil)))) rfl sc__law_told.nd (pi_tup (pv 0)) (blkOk_by (by show blkC ["plan", "numbers", "value", "number", "sums", "step", "formula", "late", "one"] (defScope s__law_told) _ _ = true; decide +kernel)) (fun _ _ _ _ _ => (pg_tup rfl (pgs_cons (pg_name (i := 6) sc__law_told.nd rfl (by first | exact Or.inl rfl | exact Or.inr rfl)) (pgs_cons (pg_name (i := 7) sc__law_told.nd rfl (by first | exact Or.inl rfl | exact Or.inr rfl)) pgs_nil)))) (fun _ _ _ _ _ => (pts_one (pt_val (pe_def (cal__law_is_so T 2) (hr.mono (by omega)) (pa_cons (pv 6) (pa_cons (pv 1) pa_nil)))))) (fun _ _ _ _ _ => (pv 7))) pe_int (fun _ _ => rfl)))
      (pss_cons (ps_if (pt_cmpR op_eq (pe_ix ix_tupK (pv 2) pe_int (fun _ _ => rfl)) pe_str (nomark _)) (pss_one (ps_set (i := 3) sc__law_told.nd rfl (by first | exact Or.inl rfl | exact Or.inr rfl) (pe_def (cal__law_total T) (hr.mono (by omega)) (pa_cons (pe_ix ix_tupK (pv 2) pe_int (fun _ _ => rfl)) (pa_cons (pv 1) pa_nil))))) (pss_one (ps_if (pt_cmpR (op_eqDK hr.units) (pe_ix ix_tupK (pv 2) pe_int (fun _ _ => rfl)) (pe_tup pa_nil) (nomark _)) (pss_one (ps_set (i := 3) sc__law_told.nd rfl (by first | exact Or.inl rfl | exact Or.inr rfl) (pe_ix ix_tupK (pv 2) pe_int (fun _ _ => rfl)))) (pss_cons (ps_par (i := 4) (j := 5) rfl sc__law_told.nd rfl rfl  (by decide) rfl rfl  (pa_cons (pe_lc (own := [("one", 8)]) (g := (gName 8)) rfl sc__law_told.nd (pi_tup (pe_ix ix_tupK (pv 2) pe_int (fun _ _ => rfl))) (blkOk_by (by show blkC ["plan", "numbers", "value", "number", "sums", "step", "formula", "late", "one"] (defScope s__law_told) _ _ = true; decide +kernel)) (fun _ _ _ _ _ => (pg_name (i := 8) sc__law_told.nd rfl (by first | exact Or.inl rfl | exact Or.inr rfl))) (fun _ _ _ _ _ => pts_nil) (fun _ _ _ _ _ => (pe_def (cal__law_total T) (hr.mono (by omega)) (pa_cons (pv 8) (pa_cons (pv 1) pa_nil))))) (pa_cons (pe_ifExp (pt_cmpR op_eq (pe_ix ix_tupK (pv 2) pe_int (fun _ _ => rfl)) pe_str (nomark _)) (pe_un un_neg pe_int) pe_int) pa_nil)) rfl)
      (pss_cons (ps_set (i := 3) sc__law_told.nd rfl (by first | exact Or.inl rfl | exact Or.inr rfl) (pe_ifExp (pt_cmpR op_lt (pv 5) pe_int (nomark _)) (pe_op op_sub (pe_callB cr_minK rfl T.b_min (by decide +kernel) (pa_cons (pv 4) pa_nil)) pe_int) (pe_op op_add (pe_callB cr_maxK rfl T.b_max (by decide +kernel) (pa_cons (pv 4) pa_nil)) pe_int)))
      (pss_one (ps_while PassesOwn.never (pt_cmpR op_ne (pe_op op_mod (pe_callTy call_int1K rfl T.b_int (by decide +kernel) (pa_cons (pe_op op_sub (pv 3) (pe_ix ix_tupK (pv 2) pe_int (fun _ _ => rfl))) pa_nil)) (pe_ix ix_tupK (pv 2) pe_int (fun _ _ => rfl))) pe_int (nomark _)) (pss_one (ps_set (i := 3) sc__law_told.nd rfl (by first | exact Or.inl rfl | exact Or.inr rfl) (pe_op op_add (pv 3) (pv 5)))))))))))
      (pss_one (ps_ret (pe_ifExp (pt_cmpR op_eq (pe_op op_mod (pe_callTy call_int1K rfl T.b_int (by decide +kernel) (pa_cons (pv 3) pa_nil)) (pe_ix ix_tupK (pv 2) (pe_un un_neg pe_int) (fun _ _ => rfl))) pe_int (nomark _)) (pe_op op_fdiv (pv 3) (pe_ix ix_tupK (pv 2) (pe_un un_neg pe_int) (fun _ _ => rfl))) pe_non))))), ?_⟩)
  case len => exact spG_len fun _ => rfl
  obtain ⟨⟨p, ns⟩, h, hp, q⟩ := h
  obtain ⟨v0, v1, rfl, h0, h1⟩ := h.inv2
  dsimp only at h0 h1 hp q
  obtain ⟨x, r, ep, hy⟩ := hp.2.1
  obtain ⟨i, y, e1, e2⟩ := pix_some (ns := ns) ep hy
  obtain ⟨f1, f2, f3⟩ := hp.1 y (List.mem_of_getElem? e2)
  have et : tnum ns p = vnum ns y.2 := by simp [tnum, e1, e2]
  have fhd := filt_head e1 e2
  walk_at "lyI"
  obtain ⟨a0, xs0, rfl, q1, q2⟩ := Dp.tup_inv h0
  refine ⟨a0, rfl, ⟨xs0, q1⟩, ?_⟩
  have wk := dw_tup (M := []) q1 q2 (.inl rfl)
  rw [List.length_map] at wk
  refine x_lcG wk (fun p hp => absurd hp (by simp)) (fun i es => es = ((p.take i).filter fun q => fh ns q.1).map fun q => eV q.2) rfl ?_ ?_
  · intro D i x es H4 H5 hi S r hx
    have ei := List.getElem?_eq_getElem hi
    rw [getD_map ei] at hx
    have es_i : es = ((p.take i).filter fun q => fh ns q.1).map fun q => eV q.2 := S.inv
    obtain ⟨g1, g2, g3⟩ := hp.1 _ (List.getElem_mem hi)
    refine x_gtup2 hx ?_
    intro u0 u1 k0 k1
    have e5 : Ex H H5 := S.r.trans r
    walk_at "ly"
    refine ⟨rfl, ?_⟩
    walk_at "ly"
    refine ⟨p[i].1, ns, _, _, rfl, k0, .inr (by walk_at "lyD"), g1, g2, fun H6 e6 => ?_⟩
    walk_at "ly"
    have imv : ∀ l : Pl, ims (l.map fun q => eV q.2) = true := fun l => ims_of fun d hd => by
      obtain ⟨t, _, rfl⟩ := List.mem_map.mp hd
      exact im_V _
    cases c : fh ns p[i].1 with
    | true =>
      walk_at "ly"
      have ee : es ++ [eV p[i].2] = ((p.take (i + 1)).filter fun q => fh ns q.1).map fun q => eV q.2 := by
        rw [List.take_add_one, ei, List.filter_append, List.map_append, es_i]
        simp [c]
      exact lcY S (r.trans e6) (R.xp e6 _ _ k1) ee (by rw [ee]; exact imv _) (by have := hp.2.2; omega)
    | false =>
      walk_at "ly"
      exact lcN S (r.trans e6) (by rw [List.take_add_one, ei, List.filter_append, List.map_append, es_i]; simp [c]) (by rw [es_i]; exact imv _)
  · intro es a2 acc H4 hI r m1 m2 m3
    have hI' : es = ((p.take p.length).filter fun q => fh ns q.1).map fun q => eV q.2 := hI
    rw [List.take_length] at hI'
    subst hI'
    walk_at "ly"
    refine x_ixL (d := eV y.2) (dp_lst m2 m3) (atI_nat (j := 0) (by rw [List.getElem?_map, fhd]; rfl)) fun u hu => ?_
    have h14 : Dp K H4 v1 (eI ns) := R.xp r _ _ h1
    obtain ⟨yf, va⟩ := y
    dsimp only at hu f3 et
    cases va with
    | over l b =>
      obtain ⟨p1, p2, p3⟩ := f3
      have ev : vnum ns (.over l b) = div? (worth l ns) b := rfl
      walk_at "ly"
      refine x_spG (a := (l, ns)) (by walk_at "lyD") p1 ?_
      walk_at "lyX"
      walk_at "ly"
      refine x_I p2 ?_
      walk_at "ly"
      by_cases c : worth l ns % b = 0
      · refine x_ifdT c ?_
        walk_at "ly"
        refine x_I ⟨p2, by omega⟩ ?_
        exact q _ _ (by walk_at "lyT") (by rw [et, ev]; simp only [div?]; rw [if_pos c]; exact .int _)
      · refine x_ifdF c ?_
        walk_at "ly"
        exact q _ _ (by walk_at "lyT") (by rw [et, ev]; simp only [div?]; rw [if_neg c]; exact .non)
    | low ls rr pp b =>
      obtain ⟨p1, p2, p3, p4, p5, p6, p7⟩ := f3
      walk_at "ly"
      refine ⟨.tuple (ls.map eL), .tuple [], by walk_at "lyD", by walk_at "lyD", ((sh_Ls ls).mono (by decide)).ok, (sh_nil.mono (by decide)).ok, ?_⟩
      rw [eqv_nil]
      refine ⟨_, rfl, ?_⟩
      cases ls with
      | nil =>
        have ev : vnum ns (.low [] rr pp b) = div? rr b := rfl
        rw [show (List.map eL ([] : List Lin)).isEmpty = true from rfl]
        walk_at "ly"
        refine x_I p5 ?_
        walk_at "ly"
        by_cases c : rr % b = 0
        · refine x_ifdT c ?_
          walk_at "ly"
          refine x_I ⟨p5, by omega⟩ ?_
          exact q _ _ (by walk_at "lyT") (by rw [et, ev]; simp only [div?]; rw [if_pos c]; exact .int _)
        · refine x_ifdF c ?_
          walk_at "ly"
          exact q _ _ (by walk_at "lyT") (by rw [et, ev]; simp only [div?]; rw [if_neg c]; exact .non)
      | cons l ls =>
        have ev : vnum ns (.low (l :: ls) rr pp b) = div? ((minL ((l :: ls).map fun l => worth l ns) - 1) - ((minL ((l :: ls).map fun l => worth l ns) - 1) - rr) % pp) b := rfl
        have pp0 : 0 < pp := by omega
        rw [show (List.map eL (l :: ls)).isEmpty = false from rfl]
        walk_at "ly"
        refine x_lcT (α := Lin) (l :: ls) eL (fun l => .int (worth l ns)) (by walk_at "lyD") (fun _ _ => rfl) (by omega) ?_ ?_
        · intro C a x H' ha e hx hC
          walk_at "ly"
          refine ⟨rfl, ?_⟩
          walk_at "ly"
          refine x_spG (a := (a, ns)) (by walk_at "lyD") (p1 a ha) fun v H4 e4 hv => hC v H4 e4 hv
        · intro k acc H5 e5 h1 h2 h3
          have h3' : DpAll K H5 acc (((l :: ls).map fun l => worth l ns).map PyData.int) := by rw [List.map_map]; exact h3
          walk_at "ly"
          refine x_minD (dp_lst h2 h3') (by simp) fun m m1 m2 => ?_
          obtain rfl := minL_of m1 m2
          walk_at "ly"
          refine x_whE ?_
          have hu5 : Dp K H5 u (eV (.low (l :: ls) rr pp b)) := by walk_at "lyD"
          refine ⟨fun m σ' H' => ∃ x : Int, H' = H5 ∧ x - (x - rr) % pp = ((minL ((l :: ls).map fun l => worth l ns) - 1) - ((minL ((l :: ls).map fun l => worth l ns) - 1) - rr) % pp) ∧ (m : Int) = ((x - rr) % pp) ∧ σ' = [some (V.ref a0), some v1, some u, some (V.int x), some (V.ref k), some (V.int (-1)), none, none, none], ⟨(((minL ((l :: ls).map fun l => worth l ns) - 1) - rr) % pp).toNat, _, rfl, rfl, Int.toNat_of_nonneg (Int.emod_nonneg _ (by omega)), rfl⟩, ?_⟩
          rintro m σ' H' ⟨x, eH, w1, w2, rfl⟩
          have eH' := eH.symm
          subst eH'
          walk_at "ly"
          refine x_I pp0 ?_
          walk_at "ly"
          by_cases c0 : (x - rr) % pp = 0
          · refine x_ifnT c0 ?_
            have hx : x = ((minL ((l :: ls).map fun l => worth l ns) - 1) - ((minL ((l :: ls).map fun l => worth l ns) - 1) - rr) % pp) := by omega
            subst hx
            walk_at "ly"
            refine x_I p5 ?_
            walk_at "ly"
            by_cases c : ((minL ((l :: ls).map fun l => worth l ns) - 1) - ((minL ((l :: ls).map fun l => worth l ns) - 1) - rr) % pp) % b = 0
            · refine x_ifdT c ?_
              walk_at "ly"
              refine x_I ⟨p5, by omega⟩ ?_
              exact q _ _ (by walk_at "lyT") (by rw [et, ev]; simp only [div?]; rw [if_pos c]; exact .int _)
            · refine x_ifdF c ?_
              walk_at "ly"
              exact q _ _ (by walk_at "lyT") (by rw [et, ev]; simp only [div?]; rw [if_neg c]; exact .non)
          · refine x_ifnF c0 ?_
            refine ⟨fun σ' H' => ∃ m', m' < m ∧ ∃ x : Int, H' = H5 ∧ x - (x - rr) % pp = ((minL ((l :: ls).map fun l => worth l ns) - 1) - ((minL ((l :: ls).map fun l => worth l ns) - 1) - rr) % pp) ∧ (m' : Int) = ((x - rr) % pp) ∧ σ' = [some (V.ref a0), some v1, some u, some (V.int x), some (V.ref k), some (V.int (-1)), none, none, none], fun σ' H' h => h, ?_⟩
            walk_at "ly"
            have em := emod_pred pp0 c0
            have e3 : x + -1 - rr = x - rr - 1 := by omega
            have nn := Int.emod_nonneg (x - rr) (show pp ≠ 0 by omega)
            refine ⟨m - 1, by omega, x + -1, rfl, by rw [e3, em]; omega, by rw [e3, em]; omega, rfl⟩
    | high ls rr pp b =>
      obtain ⟨p1, p2, p3, p4, p5, p6, p7⟩ := f3
      walk_at "ly"
      refine ⟨.tuple (ls.map eL), .tuple [], by walk_at "lyD", by walk_at "lyD", ((sh_Ls ls).mono (by decide)).ok, (sh_nil.mono (by decide)).ok, ?_⟩
      rw [eqv_nil]
      refine ⟨_, rfl, ?_⟩
      cases ls with
      | nil =>
        have ev : vnum ns (.high [] rr pp b) = div? rr b := rfl
        rw [show (List.map eL ([] : List Lin)).isEmpty = true from rfl]
        walk_at "ly"
        refine x_I p5 ?_
        walk_at "ly"
        by_cases c : rr % b = 0
        · refine x_ifdT c ?_
          walk_at "ly"
          refine x_I ⟨p5, by omega⟩ ?_
          exact q _ _ (by walk_at "lyT") (by rw [et, ev]; simp only [div?]; rw [if_pos c]; exact .int _)
        · refine x_ifdF c ?_
          walk_at "ly"
          exact q _ _ (by walk_at "lyT") (by rw [et, ev]; simp only [div?]; rw [if_neg c]; exact .non)
      | cons l ls =>
        have ev : vnum ns (.high (l :: ls) rr pp b) = div? ((maxL ((l :: ls).map fun l => worth l ns) + 1) + (rr - (maxL ((l :: ls).map fun l => worth l ns) + 1)) % pp) b := rfl
        have pp0 : 0 < pp := by omega
        rw [show (List.map eL (l :: ls)).isEmpty = false from rfl]
        walk_at "ly"
        refine x_lcT (α := Lin) (l :: ls) eL (fun l => .int (worth l ns)) (by walk_at "lyD") (fun _ _ => rfl) (by omega) ?_ ?_
        · intro C a x H' ha e hx hC
          walk_at "ly"
          refine ⟨rfl, ?_⟩
          walk_at "ly"
          refine x_spG (a := (a, ns)) (by walk_at "lyD") (p1 a ha) fun v H4 e4 hv => hC v H4 e4 hv
        · intro k acc H5 e5 h1 h2 h3
          have h3' : DpAll K H5 acc (((l :: ls).map fun l => worth l ns).map PyData.int) := by rw [List.map_map]; exact h3
          walk_at "ly"
          refine x_maxD (dp_lst h2 h3') (by simp) fun m m1 m2 => ?_
          obtain rfl := maxL_of m1 m2
          walk_at "ly"
          refine x_whE ?_
          have hu5 : Dp K H5 u (eV (.high (l :: ls) rr pp b)) := by walk_at "lyD"
          refine ⟨fun m σ' H' => ∃ x : Int, H' = H5 ∧ x + (rr - x) % pp = ((maxL ((l :: ls).map fun l => worth l ns) + 1) + (rr - (maxL ((l :: ls).map fun l => worth l ns) + 1)) % pp) ∧ (m : Int) = ((rr - x) % pp) ∧ σ' = [some (V.ref a0), some v1, some u, some (V.int x), some (V.ref k), some (V.int 1), none, none, none], ⟨((rr - (maxL ((l :: ls).map fun l => worth l ns) + 1)) % pp).toNat, _, rfl, rfl, Int.toNat_of_nonneg (Int.emod_nonneg _ (by omega)), rfl⟩, ?_⟩
          rintro m σ' H' ⟨x, eH, w1, w2, rfl⟩
          have eH' := eH.symm
          subst eH'
          walk_at "ly"
          refine x_I pp0 ?_
          walk_at "ly"
          by_cases c0 : (x - rr) % pp = 0
          · refine x_ifnT c0 ?_
            have hx : x = ((maxL ((l :: ls).map fun l => worth l ns) + 1) + (rr - (maxL ((l :: ls).map fun l => worth l ns) + 1)) % pp) := by have := emod_flip.mp c0; omega
            subst hx
            walk_at "ly"
            refine x_I p5 ?_
            walk_at "ly"
            by_cases c : ((maxL ((l :: ls).map fun l => worth l ns) + 1) + (rr - (maxL ((l :: ls).map fun l => worth l ns) + 1)) % pp) % b = 0
            · refine x_ifdT c ?_
              walk_at "ly"
              refine x_I ⟨p5, by omega⟩ ?_
              exact q _ _ (by walk_at "lyT") (by rw [et, ev]; simp only [div?]; rw [if_pos c]; exact .int _)
            · refine x_ifdF c ?_
              walk_at "ly"
              exact q _ _ (by walk_at "lyT") (by rw [et, ev]; simp only [div?]; rw [if_neg c]; exact .non)
          · refine x_ifnF c0 ?_
            refine ⟨fun σ' H' => ∃ m', m' < m ∧ ∃ x : Int, H' = H5 ∧ x + (rr - x) % pp = ((maxL ((l :: ls).map fun l => worth l ns) + 1) + (rr - (maxL ((l :: ls).map fun l => worth l ns) + 1)) % pp) ∧ (m' : Int) = ((rr - x) % pp) ∧ σ' = [some (V.ref a0), some v1, some u, some (V.int x), some (V.ref k), some (V.int 1), none, none, none], fun σ' H' h => h, ?_⟩
            walk_at "ly"
            have c1 : ¬ (rr - x) % pp = 0 := fun z => c0 (emod_flip.mp z)
            have em := emod_pred pp0 c1
            have e3 : rr - (x + 1) = rr - x - 1 := by omega
            have nn := Int.emod_nonneg (rr - x) (show pp ≠ 0 by omega)
            refine ⟨m - 1, by omega, x + 1, rfl, by rw [e3, em]; omega, by rw [e3, em]; omega, rfl⟩
end
end K85

/-! ### text T7 -/
namespace K85
open PySem PySem.Spec PyProof.Rows L2 Lay
theorem x_draw {H : Hp} {Q : VK} {E : XK} {p : Addr} {m : Int} (hp : PotAt H p) (m1 : 0 < m) (m2 : m < 1000) (q : ∀ d H', 0 ≤ d → d < m → R [p] H H' → PotAt H' p → Q (.int d) H') : sp_draw [.ref p, .int m] H Q E :=
  ⟨p, m, rfl, hp, m1, m2, fun d H' d0 d1 r => q d H' d0 d1 r (r.pots p (by simp) hp)⟩
theorem fresh_ne {H : Hp} {l p : Addr} (h : H l = none) (hp : PotAt H p) : V.ref l ≠ V.ref p := fun z => by
  cases z
  obtain ⟨a, b, _, e⟩ := hp
  rw [e] at h
  cases h
theorem x_pickC {K : PySem.W.Frag} {H : Hp} {Q : VK} {E : XK} {p : Addr} {v : V} {ds : List PyData} (hp : PotAt H p) (hv : DpC H v (.list ds)) (hn : v ≠ .ref p) (hi : ims ds = true) (h0 : ds ≠ []) (hl : ds.length < 1000)
    (q : ∀ d u H', d ∈ ds → R [p] H H' → PotAt H' p → Dp K H' u d → Q u H') : sp_pick K [.ref p, v] H Q E :=
  ⟨p, v, ds, rfl, hp, ⟨hv.dp, hn, hi⟩, h0, hl, fun d u H' m r h => q d u H' m r (r.pots p (by simp) hp) h⟩
theorem _root_.Lay.PotAt.r {H H' : Hp} {p : Addr} (h : PotAt H p) (e : R [p] H H') : PotAt H' p := e.pots p (by simp) h
theorem _root_.Lay.PotAt.ex {H H' : Hp} {p : Addr} (h : PotAt H p) (e : Ex H H') : PotAt H' p := by
  obtain ⟨a, b, k, q⟩ := h
  exact ⟨a, b, k, e.keep p _ (by simp) q⟩

end K85
/-! ### macros MacD -/
local macro_rules | `(tactic| walk_at "lyP") => `(tactic| first
  | with_reducible assumption
  | ((with_reducible refine PotAt.ex (H := ?lym) ?lya ?lyb); (case lyb => with_reducible assumption); walk_at "lyP")
  | ((with_reducible refine PotAt.r (H := ?lym) ?lya ?lyb); (case lyb => with_reducible assumption); walk_at "lyP")
  | fail)
local macro_rules | `(tactic| walk_at "lyT") => `(tactic| first
  | with_reducible assumption | with_reducible exact R.refl _ | with_reducible exact R.of (by with_reducible assumption)
  | ((with_reducible refine R.trans (H1 := ?lym) ?lya ?lyb); (case lyb => first | with_reducible assumption | with_reducible exact R.of (by with_reducible assumption)); walk_at "lyT")
  | fail)
local macro_rules | `(tactic| walk_at "lyR1") => `(tactic| first
  | ((with_reducible refine x_draw ?lyh ?lym ?lyn ?lyq); (case lyh => walk_at "lyP"); (case lym => first | decide | omega); (case lyn => first | decide | omega); intro ly_d ly_H ly_d0 ly_d1 ly_r ly_p)
  | ((with_reducible refine x_pickC (ds := ?lya) ?lyh ?lyi ?lyj ?lyk ?lym ?lyl ?lyq); (case lyh => walk_at "lyP"); (case lyi => with_reducible assumption); (case lyj => (refine fresh_ne (by with_reducible assumption) ?_; walk_at "lyP")); (case lyk => rfl); (case lym => exact List.cons_ne_nil _ _); (case lyl => decide); intro ly_d ly_u ly_H ly_m ly_r ly_p ly_h)
  | walk_at "ly1")
local macro_rules | `(tactic| walk_at "lyR") => `(tactic| repeat walk_at "lyR1")
local macro_rules | `(tactic| walk_at "lyJ") => `(tactic| ((try dsimp only [cxOf, Cx.nox, Cx.wish]); walk_at "lyR"))
namespace K85
open PySem PySem.Spec PyProof.Rows L2 Lay RZ

section
variable {P : Program} {w : World} {K : PySem.W.Frag} {mg : Str → Option Value} {base : Heap}
/-- drawn sums -/
def LinD (n : Nat) (l : Lin) : Prop := (-3 ≤ l.1 ∧ l.1 ≤ 3) ∧ (∀ t ∈ l.2, 0 ≤ t.1 ∧ t.1 < n ∧ (t.2 = 1 ∨ t.2 = -1 ∨ t.2 = 2)) ∧ l.2.Pairwise (fun a b => a.1 < b.1) ∧ l.2.length ≤ n
theorem pot_ne {H : Hp} {p : Addr} (h : PotAt H p) : ∀ q ∈ [p], H q ≠ none := fun q hq z => by
  have : q = p := by simpa using hq
  obtain ⟨a, b, _, e⟩ := h
  rw [this, e] at z
  cases z
def sp_linear (K : PySem.W.Frag) : Sp := fun vs H Q _ => ∃ (p : Addr) (n : Nat), vs = [.ref p, .int n] ∧ PotAt H p ∧ n ≤ 3 ∧ ∀ l u H', LinD n l → R [p] H H' → PotAt H' p → Dp K H' u (eL l) → Q u H'
theorem cal__law_linear (T : Top K w mg) : Cal P w K mg base "_law_linear" ["pot", "many"] 3 (sp_linear K) := by
  refine cal_of T.f__law_linear sc__law_linear ?len (fun _ _ _ _ _ _ us hl => match us, hl with | [_, _], _ => rfl) (fun f cdv A outer s H vs Q E hr h => ⟨_, (pss_cons (ps_setLc (i := 2) (own := [("v", 3)]) (g := (gName 3)) rfl sc__law_linear.nd rfl rfl (sw_true rfl rfl rfl (by decide +kernel)) (pi_range1 rfl T.b_range (pa_cons (pv 1) pa_nil)) (blkOk_by (by show blkC ["pot", "many", "some", "v"] (defScope s__law_linear) _ _ = true; decide +kernel)) (fun _ _ _ _ _ => (pg_name (i := 3) sc__law_linear.nd rfl (by first | exact Or.inl rfl | exact Or.inr rfl))) (fun _ _ _ _ _ => (pts_one (pt_cmpR op_eq (pe_def (cal__law_draw T) (hr.mono (by omega)) (pa_cons (pv 0) (pa_cons pe_int pa_nil))) pe_int (nomark _)))) (fun _ _ _ _ _ => (pe_tup (pa_cons (pv 3) (pa_cons (pe_def (cal__law_pick T) (hr.mono (by omega)) (pa_cons (pv 0) (pa_cons (pe_lst (pa_cons pe_int (pa_cons pe_int (pa_cons (pe_un un_neg pe_int) (pa_cons pe_int pa_nil))))) pa_nil))) pa_nil)))))
      (pss_one (ps_ret (pe_tup (pa_cons (pe_op op_sub (pe_def (cal__law_draw T) (hr.mono (by omega)) (pa_cons (pv 0) (pa_cons pe_int pa_nil))) pe_int) (pa_cons (pe_callTy call_tupleK rfl T.b_tuple (by decide +kernel) (pa_cons (pv 2) pa_nil)) pa_nil)))))), ?_⟩)
  case len => intro vs H Q E h; obtain ⟨_, _, rfl, _⟩ := h; rfl
  obtain ⟨p, n, rfl, hp, hn, q⟩ := h
  walk_at "lyJ"
  refine ⟨_, rfl, by omega, by omega, ?_⟩
  rw [Int.toNat_natCast]
  refine x_lcG (K := K) (M := [p]) dw_range (pot_ne hp) (fun i es => ∃ ts : List (Int × Int), es = ts.map eT ∧ (∀ t ∈ ts, 0 ≤ t.1 ∧ t.1 < i ∧ (t.2 = 1 ∨ t.2 = -1 ∨ t.2 = 2)) ∧ ts.Pairwise (fun a b => a.1 < b.1) ∧ ts.length ≤ i) ⟨[], rfl, by simp, by simp, by simp⟩ ?_ ?_
  · intro D i x es H1 H2 hi S r hx
    obtain rfl := Dp.int_inv hx
    obtain ⟨ts, e1, e2, e3, e4⟩ := S.inv
    have hp2 : PotAt H2 p := r.pots p (by simp) (S.r.pots p (by simp) hp)
    walk_at "lyR"
    refine ⟨rfl, ?_⟩
    walk_at "lyR"
    rename_i d H3 d0 d1 r3 p3
    by_cases c : d = 0
    · refine x_ifdT c ?_
      walk_at "lyR"
      rename_i d5 u H5 hm r5 p5 hu z H6 e6 hz
      have hm' : ∃ k : Int, d5 = .int k ∧ (k = 1 ∨ k = -1 ∨ k = 2) := by
        have h' : d5 = .int 1 ∨ d5 = .int (-1) ∨ d5 = .int 2 := by simpa using hm
        rcases h' with h | h | h
        · exact ⟨_, h, .inl rfl⟩
        · exact ⟨_, h, .inr (.inl rfl)⟩
        · exact ⟨_, h, .inr (.inr rfl)⟩
      obtain ⟨k, rfl, hk⟩ := hm'
      have ee : es ++ [eT (0 + (i : Int), k)] = (ts ++ [(0 + (i : Int), k)]).map eT := by rw [e1, List.map_append]; rfl
      refine lcY (e := eT (0 + (i : Int), k)) S (by walk_at "lyT") hz ⟨ts ++ [(0 + (i : Int), k)], ee, fun t ht => ?_, ?_, by rw [List.length_append]; exact Nat.succ_le_succ e4⟩ (by rw [ee]; exact ims_T _) (by omega)
      · rcases List.mem_append.mp ht with h | h
        · obtain ⟨a1, a2, a3⟩ := e2 t h
          exact ⟨a1, by omega, a3⟩
        · have : t = (0 + (i : Int), k) := by simpa using h
          subst this
          exact ⟨by dsimp only; omega, by dsimp only; omega, hk⟩
      · refine List.pairwise_append.mpr ⟨e3, List.pairwise_singleton _ _, fun a ha b hb => ?_⟩
        have : b = (0 + (i : Int), k) := by simpa using hb
        subst this
        have := (e2 a ha).2.1
        dsimp only
        omega
    · refine x_ifdF c ?_
      refine lcN S (by walk_at "lyT") ⟨ts, e1, fun t ht => ?_, e3, by omega⟩ (by rw [e1]; exact ims_T ts)
      obtain ⟨a1, a2, a3⟩ := e2 t ht
      exact ⟨a1, by omega, a3⟩
  · intro es a acc H1 hI r n1 n2 n3
    walk_at "lyR"
    rename_i d H2 d0 d1 r2 p2
    obtain ⟨ts, rfl, b1, b2, b3⟩ := hI
    have hl : Dp K H1 (.ref a) (.list (ts.map eT)) := dp_lst n2 n3
    have hl2 : Dp K H2 (.ref a) (.list (ts.map eT)) := (LsV.r ⟨hl, fresh_ne n1 hp, ims_T ts⟩ r2).1
    refine x_tupleD (.inr hl2) ?_
    intro u H3 e3 hu
    walk_at "lyR"
    exact q (d - 3, ts) _ _ ⟨⟨by dsimp only; omega, by dsimp only; omega⟩, b1, b2, b3⟩ (by walk_at "lyT") (by walk_at "lyP") (by assumption)
theorem LinD.ok {n : Nat} {l : Lin} (h : LinD n l) (hn : n ≤ 3) : LinOk n l := ⟨by have := h.2.2.2; omega, fun t ht => by
  obtain ⟨a1, a2, a3⟩ := h.2.1 t ht
  exact ⟨a1, a2, by omega, by omega⟩⟩
theorem x_lin {H : Hp} {Q : VK} {E : XK} {p : Addr} {n : Nat} (hp : PotAt H p) (hn : n ≤ 3) (q : ∀ l u H', LinD n l → R [p] H H' → PotAt H' p → Dp K H' u (eL l) → Q u H') : sp_linear K [.ref p, .int n] H Q E := ⟨p, n, rfl, hp, hn, q⟩
/-- drawn guards -/
def FmD (n : Nat) : Fm → Prop
  | .le l => LinD n l
  | .into k l => (k = 2 ∨ k = 3) ∧ LinD n l
  | .off k l => (k = 2 ∨ k = 3) ∧ LinD n l
  | .yes => True
  | _ => False
def sp_guard (K : PySem.W.Frag) : Sp := fun vs H Q _ => ∃ (p : Addr) (n : Nat), vs = [.ref p, .int n] ∧ PotAt H p ∧ n ≤ 3 ∧ ∀ f u H', FmD n f → R [p] H H' → PotAt H' p → Dp K H' u (eF f) → Q u H'
theorem cal__law_guard (T : Top K w mg) : Cal P w K mg base "_law_guard" ["pot", "many"] 4 (sp_guard K) := by
  refine cal_of T.f__law_guard sc__law_guard ?len (fun _ _ _ _ _ _ us hl => match us, hl with | [_, _], _ => rfl) (fun f cdv A outer s H vs Q E hr h => ⟨_, (pss_cons (ps_set (i := 2) sc__law_guard.nd rfl (by first | exact Or.inl rfl | exact Or.inr rfl) (pe_def (cal__law_draw T) (hr.mono (by omega)) (pa_cons (pv 0) (pa_cons pe_int pa_nil))))
      (pss_cons (ps_if (pt_cmpR op_eq (pv 2) pe_int (nomark _)) (pss_one (ps_ret (pe_tup (pa_cons pe_str (pa_cons (pe_def (cal__law_linear T) (hr.mono (by omega)) (pa_cons (pv 0) (pa_cons (pv 1) pa_nil))) pa_nil))))) pss_nil)
      (pss_one (ps_ret (pe_tup (pa_cons (pe_ix ix_listK (pe_lst (pa_cons pe_str (pa_cons pe_str (pa_cons pe_str pa_nil)))) (pv 2) (fun _ _ => rfl)) (pa_cons (pe_op op_add pe_int (pe_def (cal__law_draw T) (hr.mono (by omega)) (pa_cons (pv 0) (pa_cons pe_int pa_nil)))) (pa_cons (pe_def (cal__law_linear T) (hr.mono (by omega)) (pa_cons (pv 0) (pa_cons (pv 1) pa_nil))) pa_nil)))))))), ?_⟩)
  case len => intro vs H Q E h; obtain ⟨_, _, rfl, _⟩ := h; rfl
  obtain ⟨p, n, rfl, hp, hn, q⟩ := h
  walk_at "lyJ"
  rename_i d H1 d0 d1 r1 p1
  by_cases c : d = 0
  · refine x_ifdT c ?_
    walk_at "lyR"
    refine x_lin p1 hn ?_
    intro l u H2 hl r2 p2 hu
    walk_at "lyR"
    exact q (.le l) _ _ hl (by walk_at "lyT") (by walk_at "lyP") (by assumption)
  · refine x_ifdF c ?_
    walk_at "lyR"
    have hd : d = 1 ∨ d = 2 := by omega
    rcases hd with e | e
    · subst e
      refine x_ixL (by walk_at "lyD") rfl ?_
      walk_at "lyV"
      walk_at "lyR"
      rename_i d2 H3 e0 e1 r3 p3
      refine x_lin (by walk_at "lyP") hn ?_
      intro l u H2 hl r2 p2 hu
      walk_at "lyR"
      exact q (.into (2 + d2) l) _ _ ⟨by omega, hl⟩ (by walk_at "lyT") (by walk_at "lyP") (by assumption)
    · subst e
      refine x_ixL (by walk_at "lyD") rfl ?_
      walk_at "lyV"
      walk_at "lyR"
      rename_i d2 H3 e0 e1 r3 p3
      refine x_lin (by walk_at "lyP") hn ?_
      intro l u H2 hl r2 p2 hu
      walk_at "lyR"
      exact q (.off (2 + d2) l) _ _ ⟨by omega, hl⟩ (by walk_at "lyT") (by walk_at "lyP") (by assumption)
end
end K85

/-! ### text T8 -/
namespace K85
open PySem PySem.Spec PyProof.Rows L2 Lay

section
variable {P : Program} {w : World} {K : PySem.W.Frag} {mg : Str → Option Value} {base : Heap}
/-- drawn VALUES -/
def VaD (n : Nat) : Va → Prop
  | .over l b => LinD n l ∧ (b = 1 ∨ b = 2)
  | .low ls r p b => (∀ l ∈ ls, LinD n l) ∧ ls.length ≤ 2 ∧ 0 ≤ r ∧ r < p ∧ p ≤ 3 ∧ (b = 1 ∨ b = 2)
  | .high ls r p b => (∀ l ∈ ls, LinD n l) ∧ ls.length ≤ 2 ∧ 0 ≤ r ∧ r < p ∧ p ≤ 3 ∧ (b = 1 ∨ b = 2)
def sp_val (K : PySem.W.Frag) : Sp := fun vs H Q _ => ∃ (p : Addr) (n : Nat), vs = [.ref p, .int n] ∧ PotAt H p ∧ n ≤ 3 ∧ ∀ f u H', VaD n f → R [p] H H' → PotAt H' p → Dp K H' u (eV f) → Q u H'
theorem cal__law_value (T : Top K w mg) : Cal P w K mg base "_law_value" ["pot", "many"] 4 (sp_val K) := by
  refine cal_of T.f__law_value sc__law_value ?len (fun _ _ _ _ _ _ us hl => match us, hl with | [_, _], _ => rfl) (fun f cdv A outer s H vs Q E hr h => ⟨_, (pss_cons (ps_set (i := 2) sc__law_value.nd rfl (by first | exact Or.inl rfl | exact Or.inr rfl) (pe_def (cal__law_draw T) (hr.mono (by omega)) (pa_cons (pv 0) (pa_cons pe_int pa_nil))))
      (pss_cons (ps_if (pt_cmpR op_lt (pv 2) pe_int (nomark _)) (pss_one (ps_ret (pe_tup (pa_cons pe_str (pa_cons (pe_def (cal__law_linear T) (hr.mono (by omega)) (pa_cons (pv 0) (pa_cons (pv 1) pa_nil))) (pa_cons (pe_ifExp (pt_cmpR op_gt (pe_def (cal__law_draw T) (hr.mono (by omega)) (pa_cons (pv 0) (pa_cons pe_int pa_nil))) pe_int (nomark _)) pe_int pe_int) pa_nil)))))) pss_nil)
      (pss_cons (ps_set (i := 3) sc__law_value.nd rfl (by first | exact Or.inl rfl | exact Or.inr rfl) (pe_op op_add pe_int (pe_def (cal__law_draw T) (hr.mono (by omega)) (pa_cons (pv 0) (pa_cons pe_int pa_nil)))))
      (pss_cons (ps_set (i := 4) sc__law_value.nd rfl (by first | exact Or.inl rfl | exact Or.inr rfl) (pe_callTy call_tupleK rfl T.b_tuple (by decide +kernel) (pa_cons (pe_lc (own := [("turn", 5)]) (g := (gName 5)) rfl sc__law_value.nd (pi_range1 rfl T.b_range (pa_cons (pe_def (cal__law_draw T) (hr.mono (by omega)) (pa_cons (pv 0) (pa_cons pe_int pa_nil))) pa_nil)) (blkOk_by (by show blkC ["pot", "many", "kind", "period", "sums", "turn"] (defScope s__law_value) _ _ = true; decide +kernel)) (fun _ _ _ _ _ => (pg_name (i := 5) sc__law_value.nd rfl (by first | exact Or.inl rfl | exact Or.inr rfl))) (fun _ _ _ _ _ => pts_nil) (fun _ _ _ _ _ => (pe_def (cal__law_linear T) (hr.mono (by omega)) (pa_cons (pv 0) (pa_cons (pv 1) pa_nil))))) pa_nil)))
      (pss_one (ps_ret (pe_tup (pa_cons (pe_ix ix_listK (pe_lst (pa_cons pe_str (pa_cons pe_str (pa_cons pe_str (pa_cons pe_str pa_nil))))) (pv 2) (fun _ _ => rfl)) (pa_cons (pv 4) (pa_cons (pe_def (cal__law_draw T) (hr.mono (by omega)) (pa_cons (pv 0) (pa_cons (pv 3) pa_nil))) (pa_cons (pv 3) (pa_cons (pe_ifExp (pt_cmpR op_gt (pe_def (cal__law_draw T) (hr.mono (by omega)) (pa_cons (pv 0) (pa_cons pe_int pa_nil))) pe_int (nomark _)) pe_int pe_int) pa_nil)))))))))))), ?_⟩)
  case len => intro vs H Q E h; obtain ⟨_, _, rfl, _⟩ := h; rfl
  obtain ⟨p, n, rfl, hp, hn, q⟩ := h
  walk_at "lyJ"
  rename_i d H1 d0 d1 r1 p1
  by_cases c : d < 2
  · refine x_ifdT c ?_
    walk_at "lyR"
    refine x_lin p1 hn ?_
    intro l u H2 hl r2 p2 hu
    walk_at "lyR"
    rename_i d2 H3 e0 e1 r3 p3
    by_cases c2 : d2 > 0
    · refine x_ifdT c2 ?_
      walk_at "lyR"
      exact q (.over l 1) _ _ ⟨hl, .inl rfl⟩ (by walk_at "lyT") (by walk_at "lyP") (by assumption)
    · refine x_ifdF c2 ?_
      walk_at "lyR"
      exact q (.over l 2) _ _ ⟨hl, .inr rfl⟩ (by walk_at "lyT") (by walk_at "lyP") (by assumption)
  · refine x_ifdF c ?_
    walk_at "lyR"
    rename_i d2 H2 e0 e1 r2 p2 d3 H3 f0 f1 r3 p3
    refine ⟨_, rfl, by omega, by omega, ?_⟩
    refine x_lcG (K := K) (M := [p]) dw_range (pot_ne (by walk_at "lyP")) (fun i es => ∃ ls : List Lin, es = ls.map eL ∧ (∀ l ∈ ls, LinD n l) ∧ ls.length ≤ i) ⟨[], rfl, by simp, by simp⟩ ?_ ?_
    · intro D i x es H4 H5 hi S r hx
      obtain rfl := Dp.int_inv hx
      obtain ⟨ls, g1, g2, g3⟩ := S.inv
      have hp5 : PotAt H5 p := r.pots p (by simp) (S.r.pots p (by simp) p3)
      walk_at "lyR"
      refine ⟨rfl, ?_⟩
      walk_at "lyR"
      refine x_lin hp5 hn ?_
      intro l u H6 hl r6 p6 hu
      have ee : es ++ [eL l] = (ls ++ [l]).map eL := by rw [g1, List.map_append]; rfl
      refine lcY S (by walk_at "lyT") hu ⟨ls ++ [l], ee, fun t ht => ?_, by rw [List.length_append]; exact Nat.succ_le_succ g3⟩ (by rw [ee]; exact ims_Ls _) (by omega)
      rcases List.mem_append.mp ht with h | h
      · exact g2 t h
      · have : t = l := by simpa using h
        subst this
        exact hl
    · intro es a acc H4 hI r n1 n2 n3
      obtain ⟨ls, rfl, g2, g3⟩ := hI
      walk_at "lyR"
      refine x_tupleD (.inr (dp_lst n2 n3)) ?_
      intro u H5 e5 hu
      have p5 : PotAt H5 p := by walk_at "lyP"
      walk_at "lyR"
      have hd : d = 2 ∨ d = 3 := by omega
      rcases hd with e | e
      · subst e
        refine x_ixL (by walk_at "lyD") rfl ?_
        walk_at "lyV"
        walk_at "lyR"
        rename_i d4 H6 k0 k1 r6 p6 d5 H7 m0 m1 r7 p7
        by_cases c2 : d5 > 0
        · refine x_ifdT c2 ?_
          walk_at "lyR"
          exact q (.low ls d4 (1 + d2) 1) _ _ ⟨g2, by omega, k0, k1, by omega, .inl rfl⟩ (by walk_at "lyT") (by walk_at "lyP") (by assumption)
        · refine x_ifdF c2 ?_
          walk_at "lyR"
          exact q (.low ls d4 (1 + d2) 2) _ _ ⟨g2, by omega, k0, k1, by omega, .inr rfl⟩ (by walk_at "lyT") (by walk_at "lyP") (by assumption)
      · subst e
        refine x_ixL (by walk_at "lyD") rfl ?_
        walk_at "lyV"
        walk_at "lyR"
        rename_i d4 H6 k0 k1 r6 p6 d5 H7 m0 m1 r7 p7
        by_cases c2 : d5 > 0
        · refine x_ifdT c2 ?_
          walk_at "lyR"
          exact q (.high ls d4 (1 + d2) 1) _ _ ⟨g2, by omega, k0, k1, by omega, .inl rfl⟩ (by walk_at "lyT") (by walk_at "lyP") (by assumption)
        · refine x_ifdF c2 ?_
          walk_at "lyR"
          exact q (.high ls d4 (1 + d2) 2) _ _ ⟨g2, by omega, k0, k1, by omega, .inr rfl⟩ (by walk_at "lyT") (by walk_at "lyP") (by assumption)
theorem x_grd {H : Hp} {Q : VK} {E : XK} {p : Addr} {n : Nat} (hp : PotAt H p) (hn : n ≤ 3) (q : ∀ f u H', FmD n f → R [p] H H' → PotAt H' p → Dp K H' u (eF f) → Q u H') : sp_guard K [.ref p, .int n] H Q E := ⟨p, n, rfl, hp, hn, q⟩
theorem x_val {H : Hp} {Q : VK} {E : XK} {p : Addr} {n : Nat} (hp : PotAt H p) (hn : n ≤ 3) (q : ∀ f u H', VaD n f → R [p] H H' → PotAt H' p → Dp K H' u (eV f) → Q u H') : sp_val K [.ref p, .int n] H Q E := ⟨p, n, rfl, hp, hn, q⟩
/-- drawn plans -/
def PlD (n : Nat) (p : Pl) : Prop := (∀ q ∈ p, FmD n q.1 ∧ VaD n q.2) ∧ (∃ q r, p = r ++ [q] ∧ q.1 = .yes) ∧ p.length ≤ 3
def sp_plan (K : PySem.W.Frag) : Sp := fun vs H Q _ => ∃ (p : Addr) (n : Nat), vs = [.ref p, .int n] ∧ PotAt H p ∧ n ≤ 3 ∧ ∀ f u H', PlD n f → R [p] H H' → PotAt H' p → Dp K H' u (eP f) → Q u H'
theorem cal__law_plan (T : Top K w mg) : Cal P w K mg base "_law_plan" ["pot", "many"] 5 (sp_plan K) := by
  refine cal_of T.f__law_plan sc__law_plan ?len (fun _ _ _ _ _ _ us hl => match us, hl with | [_, _], _ => rfl) (fun f cdv A outer s H vs Q E hr h => ⟨_, (pss_cons (ps_setLc (i := 2) (own := [("turn", 3)]) (g := (gName 3)) rfl sc__law_plan.nd rfl rfl (sw_true rfl rfl rfl (by decide +kernel)) (pi_range1 rfl T.b_range (pa_cons (pe_def (cal__law_draw T) (hr.mono (by omega)) (pa_cons (pv 0) (pa_cons pe_int pa_nil))) pa_nil)) (blkOk_by (by show blkC ["pot", "many", "pieces", "turn"] (defScope s__law_plan) _ _ = true; decide +kernel)) (fun _ _ _ _ _ => (pg_name (i := 3) sc__law_plan.nd rfl (by first | exact Or.inl rfl | exact Or.inr rfl))) (fun _ _ _ _ _ => pts_nil) (fun _ _ _ _ _ => (pe_tup (pa_cons (pe_def (cal__law_guard T) (hr.mono (by omega)) (pa_cons (pv 0) (pa_cons (pv 1) pa_nil))) (pa_cons (pe_def (cal__law_value T) (hr.mono (by omega)) (pa_cons (pv 0) (pa_cons (pv 1) pa_nil))) pa_nil)))))
      (pss_one (ps_ret (pe_callTy call_tupleK rfl T.b_tuple (by decide +kernel) (pa_cons (pe_op op_cat (pv 2) (pe_lst (pa_cons (pe_tup (pa_cons (pe_tup (pa_cons pe_str (pa_cons (pe_tup pa_nil) pa_nil))) (pa_cons (pe_def (cal__law_value T) (hr.mono (by omega)) (pa_cons (pv 0) (pa_cons (pv 1) pa_nil))) pa_nil))) pa_nil))) pa_nil))))), ?_⟩)
  case len => intro vs H Q E h; obtain ⟨_, _, rfl, _⟩ := h; rfl
  obtain ⟨p, n, rfl, hp, hn, q⟩ := h
  walk_at "lyJ"
  rename_i d1 H1 f0 f1 r1 p1
  refine ⟨_, rfl, by omega, by omega, ?_⟩
  refine x_lcG (K := K) (M := [p]) dw_range (pot_ne (by walk_at "lyP")) (fun i es => ∃ ls : Pl, es = ls.map eP1 ∧ (∀ q ∈ ls, FmD n q.1 ∧ VaD n q.2) ∧ ls.length ≤ i) ⟨[], rfl, by simp, by simp⟩ ?_ ?_
  · intro D i x es H4 H5 hi S r hx
    obtain rfl := Dp.int_inv hx
    obtain ⟨ls, g1, g2, g3⟩ := S.inv
    have hp5 : PotAt H5 p := r.pots p (by simp) (S.r.pots p (by simp) p1)
    walk_at "lyR"
    refine ⟨rfl, ?_⟩
    walk_at "lyR"
    refine x_grd hp5 hn ?_
    intro f u H6 hf r6 p6 hu
    walk_at "lyR"
    refine x_val p6 hn ?_
    intro va u2 H7 hv r7 p7 hu2
    walk_at "lyR"
    rename_i z H8 e8 hz
    have ee : es ++ [eP1 (f, va)] = (ls ++ [(f, va)]).map eP1 := by rw [g1, List.map_append]; rfl
    refine lcY (e := eP1 (f, va)) S (by walk_at "lyT") hz ⟨ls ++ [(f, va)], ee, fun t ht => ?_, by rw [List.length_append]; exact Nat.succ_le_succ g3⟩ (by rw [ee]; exact ims_P _) (by omega)
    rcases List.mem_append.mp ht with h | h
    · exact g2 t h
    · have : t = (f, va) := by simpa using h
      subst this
      exact ⟨hf, hv⟩
  · intro es a acc H4 hI r n1 n2 n3
    obtain ⟨ls, rfl, g2, g3⟩ := hI
    have hl : Dp K H4 (.ref a) (.list (ls.map eP1)) := dp_lst n2 n3
    have na : V.ref a ≠ V.ref p := fresh_ne n1 p1
    walk_at "lyR"
    refine x_val (by walk_at "lyP") hn ?_
    intro va u2 H7 hv r7 p7 hu2
    walk_at "lyR"
    rename_i w2 H8 e8 h8 l2 H9 e9 n9 t9 h9
    have r9 : R [p] H4 H9 := by walk_at "lyT"
    have a9 : H9 a = some (.lst acc) := r9.keep a _ (by simpa using fun z => na (by rw [z])) n2
    have d9 : DpAll K H9 acc (ls.map eP1) := R.dps r9 _ _ (ims_P ls) n3
    have w9 : Dp K H9 w2 (eP1 (.yes, va)) := R.xp e9 _ _ h8
    have dd : DpAll K H9 (acc ++ [w2]) ((ls ++ [(Fm.yes, va)]).map eP1) := by
      rw [List.map_append]
      exact d9.app (.cons w9 .nil)
    refine ⟨a, l2, acc, _, rfl, rfl, a9, t9, ?_, fun p' hp' => ?_⟩
    · have := n3.len
      rw [List.length_map] at this
      rw [this]
      exact Nat.le_trans (Nat.add_le_add_right g3 1) (Nat.le_trans (show d1.toNat + 1 ≤ 10 by omega) (by decide))
    · have hl : Dp K (upd H9 p' (.lst (acc ++ [w2]))) (.ref p') (.list ((ls ++ [(Fm.yes, va)]).map eP1)) := dp_lst upd_same (R.xps (R.new hp') _ _ dd)
      have r' : R [p] H9 (upd H9 p' (.lst (acc ++ [w2]))) := R.new hp'
      walk_at "lyR"
      refine x_tupleD (.inr hl) ?_
      intro u H10 e10 hu
      refine q (ls ++ [(Fm.yes, va)]) _ _ ⟨fun t ht => ?_, ⟨_, _, rfl, rfl⟩, ?_⟩ (by walk_at "lyT") (by walk_at "lyP") hu
      · rcases List.mem_append.mp ht with h | h
        · exact g2 t h
        · have : t = (.yes, va) := by simpa using h
          subst this
          exact ⟨trivial, hv⟩
      · rw [List.length_append]
        show ls.length + 1 ≤ 3
        omega
theorem x_plan {H : Hp} {Q : VK} {E : XK} {p : Addr} {n : Nat} (hp : PotAt H p) (hn : n ≤ 3) (q : ∀ f u H', PlD n f → R [p] H H' → PotAt H' p → Dp K H' u (eP f) → Q u H') : sp_plan K [.ref p, .int n] H Q E := ⟨p, n, rfl, hp, hn, q⟩
/-- defences: side (true: yes), plans -/
abbrev Df : Type := Bool × List Pl
def eD (d : Df) : PyData := .tuple [.str "defence", .str (sS d.1), .tuple (d.2.map eP)]
def ownB (f : Pre) (b : Bool) : List Int := ownF 0 b f.1
/-- the plans of a side of a sentence: one each variable, over those ahead -/
def DfD (f : Pre) (d : Df) : Prop := d.2.length = (ownB f d.1).length ∧ ∀ (i : Nat) (p : Pl) (v : Int), d.2[i]? = some p → (ownB f d.1)[i]? = some v → PlD v.toNat p
theorem ownF_range (b : Bool) : ∀ (ks : List Bool) (o v : Int), v ∈ ownF o b ks → o ≤ v ∧ v < o + ks.length
  | [], o, v, h => by cases h
  | k :: r, o, v, h => by
    have ih := ownF_range b r (o + 1) v
    unfold ownF at h
    by_cases c : k = b
    · rw [if_pos c] at h
      rcases List.mem_cons.mp h with e | e
      · subst e
        simp only [List.length_cons]
        omega
      · have := ih e
        simp only [List.length_cons]
        omega
    · rw [if_neg c] at h
      have := ih h
      simp only [List.length_cons]
      omega
theorem ownF_len (b : Bool) : ∀ (ks : List Bool) (o : Int), (ownF o b ks).length ≤ ks.length
  | [], _ => Nat.le_refl _
  | k :: r, o => by
    have ih := ownF_len b r (o + 1)
    unfold ownF
    by_cases c : k = b
    · rw [if_pos c]
      exact Nat.succ_le_succ ih
    · rw [if_neg c]
      exact Nat.le_succ_of_le ih
theorem ims_Ps (ps : List Pl) : ims (ps.map eP) = true := ims_of fun d hd => by
  obtain ⟨t, _, rfl⟩ := List.mem_map.mp hd
  exact im_P t
theorem im_D (d : Df) : im (eD d) = true := by simp [eD, im, ims, ims_Ps]
def sp_defence (K : PySem.W.Frag) : Sp := fun vs H Q _ => ∃ (p : Addr) (f : Pre) (b : Bool) (v : V), vs = [.ref p, v, .str (sS b)] ∧ PotAt H p ∧ Dp K H v (eX f) ∧ f.1.length ≤ 3 ∧ ∀ d u H', d.1 = b → DfD f d → R [p] H H' → PotAt H' p → Dp K H' u (eD d) → Q u H'
theorem cal__law_defence (T : Top K w mg) : Cal P w K mg base "_law_defence" ["pot", "form", "side"] 6 (sp_defence K) := by
  refine cal_of T.f__law_defence sc__law_defence ?len (fun _ _ _ _ _ _ us hl => match us, hl with | [_, _, _], _ => rfl) (fun f cdv A outer s H vs Q E hr h => ⟨_, (pss_one (ps_ret (pe_tup (pa_cons pe_str (pa_cons (pv 2) (pa_cons (pe_callTy call_tupleK rfl T.b_tuple (by decide +kernel) (pa_cons (pe_lc (own := [("v", 3)]) (g := (gName 3)) rfl sc__law_defence.nd (pi_list (pe_def (cal__law_own T) (hr.mono (by omega)) (pa_cons (pv 1) (pa_cons (pv 2) pa_nil)))) (blkOk_by (by show blkC ["pot", "form", "side", "v"] (defScope s__law_defence) _ _ = true; decide +kernel)) (fun _ _ _ _ _ => (pg_name (i := 3) sc__law_defence.nd rfl (by first | exact Or.inl rfl | exact Or.inr rfl))) (fun _ _ _ _ _ => pts_nil) (fun _ _ _ _ _ => (pe_def (cal__law_plan T) (hr.mono (by omega)) (pa_cons (pv 0) (pa_cons (pv 3) pa_nil))))) pa_nil)) pa_nil)))))), ?_⟩)
  case len => intro vs H Q E h; obtain ⟨_, _, _, _, rfl, _⟩ := h; rfl
  obtain ⟨p, g, b, v, rfl, hp, hv, hn, q⟩ := h
  walk_at "lyJ"
  refine ⟨g, b, _, _, rfl, hv, rfl, by omega, fun a acc H1 r1 n1 n2 n3 => ?_⟩
  walk_at "lyR"
  refine ⟨a, rfl, ⟨acc, SqL.of n2⟩, ?_⟩
  have na : V.ref a ≠ V.ref p := fresh_ne n1 hp
  have wk := dw_list (M := [p]) (SqL.of n2) (by simpa using fun z => na (by rw [z])) n3 (.inr (ims_ints _))
  rw [List.length_map] at wk
  have hp1 : PotAt H1 p := by walk_at "lyP"
  refine x_lcG wk (pot_ne hp1) (fun i es => ∃ ps : List Pl, es = ps.map eP ∧ ps.length = i ∧ ∀ (j : Nat) (p : Pl) (v : Int), ps[j]? = some p → (ownB g b)[j]? = some v → PlD v.toNat p) ⟨[], rfl, rfl, by simp⟩ ?_ ?_
  · intro D i x es H4 H5 hi S r hx
    obtain ⟨ps, g1, g2, g3⟩ := S.inv
    have ei := List.getElem?_eq_getElem hi
    rw [getD_map ei] at hx
    obtain rfl := Dp.int_inv hx
    have hr5 := ownF_range b g.1 0 _ (List.getElem_mem hi)
    have hp5 : PotAt H5 p := r.pots p (by simp) (S.r.pots p (by simp) hp1)
    walk_at "lyR"
    refine ⟨rfl, ?_⟩
    walk_at "lyR"
    have ev : ((ownF 0 b g.1)[i].toNat : Int) = (ownF 0 b g.1)[i] := by omega
    rw [← ev]
    refine x_plan hp5 (by omega) ?_
    intro pl u H6 hpl r6 p6 hu
    have ee : es ++ [eP pl] = (ps ++ [pl]).map eP := by rw [g1, List.map_append]; rfl
    refine lcY S (by walk_at "lyT") hu ⟨ps ++ [pl], ee, by rw [List.length_append]; exact congrArg (· + 1) g2, fun j p' v' h1 h2 => ?_⟩ (by rw [ee]; exact ims_Ps _) (by
      have : (ownF 0 b g.1).length ≤ g.1.length := ownF_len b g.1 0
      omega)
    by_cases hj : j < ps.length
    · rw [List.getElem?_append_left hj] at h1
      exact g3 j p' v' h1 h2
    · have hj' : j < (ps ++ [pl]).length := (List.getElem?_eq_some_iff.mp h1).1
      rw [List.length_append] at hj'
      have hj2 : j = ps.length := by
        have : j < ps.length + 1 := hj'
        omega
      subst hj2
      rw [List.getElem?_append_right (Nat.le_refl _)] at h1
      have e1 : pl = p' := by simpa using h1
      have e2 : (ownF 0 b g.1)[i] = v' := by
        rw [g2] at h2
        exact Option.some.inj (ei.symm.trans h2)
      subst e1 e2
      exact hpl
  · intro es a2 acc2 H4 hI r m1 m2 m3
    obtain ⟨ps, rfl, g2, g3⟩ := hI
    walk_at "lyR"
    refine x_tupleD (.inr (dp_lst m2 m3)) ?_
    intro u H5 e5 hu
    walk_at "lyR"
    exact q (b, ps) _ _ rfl ⟨g2, g3⟩ (by walk_at "lyT") (by walk_at "lyP") (by assumption)
end
end K85

/-! ### text C1 -/
namespace K85
open PySem PySem.Spec PyProof.Rows L2 Lay
/-! dicts of numbers -/
abbrev Cs : Type := List (Int × Int)
def kC (c : Int × Int) : Key × V := (Sum.inl c.1, V.int c.2)
def getC (cs : Cs) (v : Int) : Option Int := (cs.find? fun c => decide (c.1 = v)).map (·.2)
def putC (cs : Cs) (v x : Int) : Cs := if (cs.any fun c => decide (c.1 = v)) = true then cs.map (fun c => if c.1 = v then (c.1, x) else c) else cs ++ [(v, x)]
def absum (cs : Cs) : Nat := (cs.map fun c => c.2.natAbs).sum
theorem inl_eq (a b : Int) : decide ((Sum.inl a : Key) = Sum.inl b) = decide (a = b) := decide_eq_decide.mpr ⟨fun h => by cases h; rfl, fun h => by rw [h]⟩
theorem valV_kC (v : Int) : ∀ cs : Cs, valV (cs.map kC) (Sum.inl v) = (getC cs v).map V.int
  | [] => rfl
  | c :: cs => by
    have ih := valV_kC v cs
    by_cases h : c.1 = v
    · rw [List.map_cons, valV_pos (p := kC c) (by show Sum.inl c.1 = _; rw [h])]
      simp [getC, h, kC]
    · rw [List.map_cons, valV_neg (p := kC c) (fun z => h (by cases z; rfl)), ih]
      simp [getC, h]
theorem any_kC (v : Int) : ∀ cs : Cs, ((cs.map kC).any fun kv => decide (kv.1 = (Sum.inl v : Key))) = cs.any fun c => decide (c.1 = v)
  | [] => rfl
  | c :: cs => by
    rw [List.map_cons, List.any_cons, List.any_cons, any_kC v cs]
    show (decide ((Sum.inl c.1 : Key) = Sum.inl v) || _) = _
    rw [inl_eq]
theorem putK_kC (v x : Int) (cs : Cs) : putK (cs.map kC) (Sum.inl v) (V.int x) = (putC cs v x).map kC := by
  unfold putK putC
  rw [any_kC]
  split
  · rw [List.map_map, List.map_map]
    refine List.map_congr_left fun c _ => ?_
    show (if (Sum.inl c.1 : Key) = Sum.inl v then (Sum.inl c.1, V.int x) else kC c) = kC (if c.1 = v then (c.1, x) else c)
    by_cases h : c.1 = v
    · rw [if_pos (by rw [h]), if_pos h]
      rfl
    · rw [if_neg (fun z => h (by cases z; rfl)), if_neg h]
  · rw [List.map_append]
    rfl
theorem getC_none {v : Int} : ∀ {cs : Cs}, (cs.any fun c => decide (c.1 = v)) = false → getC cs v = none
  | [], _ => rfl
  | c :: cs, h => by
    rw [List.any_cons, Bool.or_eq_false_iff] at h
    have ih := getC_none (cs := cs) h.2
    have h1 : ¬ c.1 = v := of_decide_eq_false h.1
    simp [getC, h1] at ih ⊢
    exact ih
theorem put_abs {v x : Int} : ∀ {cs : Cs}, (cs.map (·.1)).Nodup → (cs.any fun c => decide (c.1 = v)) = true → absum (cs.map fun c => if c.1 = v then (c.1, x) else c) + ((getC cs v).getD 0).natAbs = absum cs + x.natAbs
  | [], _, h => by cases h
  | c :: cs, nd, h => by
    have nd' := List.nodup_cons.mp nd
    by_cases e : c.1 = v
    · have hid : cs.map (fun c => if c.1 = v then (c.1, x) else c) = cs := by
        refine (List.map_congr_left fun d hd => ?_).trans (List.map_id _)
        have : ¬ d.1 = v := fun z => nd'.1 (List.mem_map.mpr ⟨d, hd, z.trans e.symm⟩)
        rw [if_neg this]
        rfl
      have hg : getC (c :: cs) v = some c.2 := by simp [getC, e]
      rw [List.map_cons, hid, hg, if_pos e]
      simp only [absum, List.map_cons, List.sum_cons, Option.getD_some]
      omega
    · have h' : (cs.any fun c => decide (c.1 = v)) = true := by
        rw [List.any_cons, decide_eq_false e, Bool.false_or] at h
        exact h
      have ih := put_abs (x := x) nd'.2 h'
      have hg : getC (c :: cs) v = getC cs v := by simp [getC, e]
      rw [List.map_cons, if_neg e, hg]
      simp only [absum, List.map_cons, List.sum_cons] at ih ⊢
      omega
theorem putC_abs {cs : Cs} {v d : Int} (nd : (cs.map (·.1)).Nodup) : absum (putC cs v ((getC cs v).getD 0 + d)) ≤ absum cs + d.natAbs := by
  unfold putC
  cases h : cs.any fun c => decide (c.1 = v) with
  | true =>
    rw [if_pos rfl]
    have := put_abs (x := (getC cs v).getD 0 + d) nd h
    omega
  | false =>
    rw [if_neg (by simp), getC_none h]
    simp [absum]
theorem putC_nodup {cs : Cs} {v x : Int} (nd : (cs.map (·.1)).Nodup) : ((putC cs v x).map (·.1)).Nodup := by
  unfold putC
  cases h : cs.any fun c => decide (c.1 = v) with
  | true =>
    rw [if_pos rfl, List.map_map]
    have : ((fun c : Int × Int => c.1) ∘ fun c => if c.1 = v then (c.1, x) else c) = fun c => c.1 := by
      funext c
      show (if c.1 = v then (c.1, x) else c).1 = c.1
      split <;> rfl
    rw [this]
    exact nd
  | false =>
    rw [if_neg (by simp), List.map_append]
    refine List.nodup_append.mpr ⟨nd, by simp, fun a ha b hb e => ?_⟩
    have hb' : b = v := by simpa using hb
    obtain ⟨c, hc, e2⟩ := List.mem_map.mp ha
    have := List.any_eq_false.mp h c hc
    exact this (decide_eq_true (by rw [e2, e, hb']))
theorem putC_mem {cs : Cs} {v x : Int} {c : Int × Int} (h : c ∈ putC cs v x) : c.1 = v ∨ ∃ d ∈ cs, c.1 = d.1 := by
  unfold putC at h
  split at h
  · obtain ⟨d, hd, e⟩ := List.mem_map.mp h
    refine .inr ⟨d, hd, ?_⟩
    rw [← e]
    split <;> rfl
  · rcases List.mem_append.mp h with h | h
    · exact .inr ⟨c, h, rfl⟩
    · have : c = (v, x) := by simpa using h
      exact .inl (by rw [this])
theorem putC_len (cs : Cs) (v x : Int) : (putC cs v x).length ≤ cs.length + 1 := by
  unfold putC
  split
  · rw [List.length_map]
    omega
  · rw [List.length_append]
    exact Nat.le_refl _
theorem getC_mem {cs : Cs} {c : Int × Int} (nd : (cs.map (·.1)).Nodup) (h : c ∈ cs) : getC cs c.1 = some c.2 := by
  induction cs with
  | nil => cases h
  | cons d cs ih =>
    have nd' := List.nodup_cons.mp nd
    rcases List.mem_cons.mp h with e | h
    · subst e
      simp [getC]
    · have : ¬ d.1 = c.1 := fun z => nd'.1 (List.mem_map.mpr ⟨c, h, z.symm⟩)
      have ih := ih nd'.2 h
      simp [getC, this] at ih ⊢
      exact ih
theorem absum_keys {cs : Cs} (nd : (cs.map (·.1)).Nodup) : ((cs.map (·.1)).map fun v => ((getC cs v).getD 0).natAbs).sum = absum cs := by
  unfold absum
  rw [List.map_map]
  congr 1
  refine List.map_congr_left fun c hc => ?_
  show ((getC cs c.1).getD 0).natAbs = _
  rw [getC_mem nd hc]
  rfl
theorem len_absum : ∀ {ts : Cs}, (∀ t ∈ ts, t.2 ≠ 0) → ts.length ≤ absum ts
  | [], _ => Nat.le_refl _
  | t :: ts, h => by
    have ih := len_absum (ts := ts) fun x hx => h x (List.mem_cons_of_mem _ hx)
    have := h t List.mem_cons_self
    simp only [absum, List.map_cons, List.sum_cons, List.length_cons] at ih ⊢
    omega
theorem mem_absum {ts : Cs} {t : Int × Int} (h : t ∈ ts) : t.2.natAbs ≤ absum ts := by
  induction ts with
  | nil => cases h
  | cons x ts ih =>
    simp only [absum, List.map_cons, List.sum_cons] at ih ⊢
    rcases List.mem_cons.mp h with e | h
    · subst e
      omega
    · have := ih h
      omega
/-- a sum over the variables below n, its multipliers together at most c -/
def LB (n c : Nat) (l : Lin) : Prop := (∀ t ∈ l.2, 0 ≤ t.1 ∧ t.1 < n ∧ t.2 ≠ 0) ∧ absum l.2 ≤ c
theorem LB.ok {n c : Nat} {l : Lin} (h : LB n c l) (hc : c ≤ 100) : LinOk n l := by
  refine ⟨Nat.le_trans (len_absum fun t ht => (h.1 t ht).2.2) (Nat.le_trans h.2 hc), fun t ht => ?_⟩
  obtain ⟨a1, a2, _⟩ := h.1 t ht
  have := Nat.le_trans (mem_absum ht) h.2
  exact ⟨a1, a2, by omega, by omega⟩
theorem LB.mono {n c d : Nat} {l : Lin} (h : LB n c l) (hc : c ≤ d) : LB n d l := ⟨h.1, Nat.le_trans h.2 hc⟩
end K85

/-! ### text T9 -/
namespace K85
open PySem PySem.Spec PyProof.Rows L2 Lay

section
variable {P : Program} {w : World} {K : PySem.W.Frag} {mg : Str → Option Value} {base : Heap}
def eQ (q : Lin × Int) : PyData := .tuple [eL q.1, .int q.2]
def mtot (ps : List (Lin × Int)) : Int := (ps.map fun q => q.1.1 * q.2).sum
def mabs (ps : List (Lin × Int)) : Nat := (ps.map fun q => absum q.1.2 * q.2.natAbs).sum
theorem rd_upd {sd : Addr} {H H1 : Hp} {k0 k1 k2 : List (Key × V)} (r : R [sd] H H1) (h0 : H sd = some (.dK k0)) (h : H1 sd = some (.dK k1)) : R [sd] H (upd H1 sd (.dK k2)) := by
  have ne : ∀ {c : Addr} {o : HO}, H1 c = some o → o ≠ .dK k1 → upd H1 sd (.dK k2) c = some o := fun {c o} e n => by
    rw [upd_ne (fun z => n (by rw [z, h] at e; exact (Option.some.inj e).symm))]
    exact e
  refine ⟨fun c o n e => ?_, fun c ys e => ne (r.tups _ _ e) (fun z => by cases z), fun c o u e => ne (r.frzs _ _ _ e) (fun z => by cases z), fun q hq hp => ?_⟩
  · rw [upd_ne (by simpa using n)]
    exact r.keep c o n e
  · have : q = sd := by simpa using hq
    subst this
    obtain ⟨a, b, _, e⟩ := hp
    rw [h0] at e
    cases e
theorem ex_of {sd : Addr} {H H0 H1 : Hp} (hn : H sd = none) (e : Ex H H0) (r : R [sd] H0 H1) : Ex H H1 :=
  ⟨fun a o _ h => r.keep a o (by simpa using ne_of_none h hn) (e.keep a o (by simp) h), fun a xs h => r.tups _ _ (e.tups _ _ h), fun a o u h => r.frzs _ _ _ (e.frzs _ _ _ h), fun _ h => absurd h (by simp)⟩
theorem x_dnew {H : Hp} {σ : L2.St} {Q : VK} (q : ∀ p, H p = none → Q (.ref p) (upd H p (.dK []))) : tDNewK σ H Q := q
theorem x_dget {td ty : TE} {H : Hp} {σ : L2.St} {Q : VK} (q : td σ H fun x H1 => ty σ H1 fun y H2 => ∃ a v, x = .ref a ∧ DGet H2 a y (some v) ∧ Q v H2) : tDGet td ty σ H Q := q
theorem x_dget2 {td ty tx : TE} {H : Hp} {σ : L2.St} {Q : VK} (q : td σ H fun x H1 => ∃ a, x = .ref a ∧ IsD H1 a ∧ ty σ H1 fun y H2 => tx σ H2 fun z H3 => ∃ o, DGet H3 a y o ∧ Q (o.getD z) H3) : tDGet2 td ty tx σ H Q := q
theorem x_dput {td ty tv : TE} {D : Ends} {H : Hp} {σ : L2.St} (q : tv σ H fun v H1 => td σ H1 fun x H2 => ty σ H2 fun y H3 => ∃ a H4, x = .ref a ∧ DPut H3 a y v H4 ∧ D.nx σ H4) : sDPut td ty tv D σ H := q
theorem x_forL {M : List Addr} {H : Hp} {σ : L2.St} {a : Addr} {xs : List V} {ds : List PyData} {g : TG} {tb : TS} {D : Ends} (hq : SqL K H a xs) (ha : a ∉ M) (hd : DpAll K H xs ds) (hm : ims ds = true) (W : Nat → L2.St → Hp → Prop) (h0 : W 0 σ H) (hW : ∀ i σ' H', W i σ' H' → R M H H')
    (hs : ∀ i x σ' H', i < ds.length → W i σ' H' → Dp K H' x (ds.getD i .none) → g x σ' H' fun σ2 H2 => tb { D with nx := W (i + 1), ct := W (i + 1), bk := D.nx } σ2 H2) (he : ∀ σ' H', W ds.length σ' H' → D.nx σ' H') :
    ∃ W : Nat → Nat → L2.St → Hp → Prop, (∃ m, W 0 m σ H) ∧ ∀ i m σ H, W i m σ H →
      ((Itl K a).stop i H ∧ D.nx σ H) ∨ ((Itl K a).go i H ∧ ∃ N : L2.St → Hp → Prop, (∀ σ' H', N σ' H' → ∃ m', m' < m ∧ W (i + 1) m' σ' H') ∧ ∀ x H', (Itl K a).yld i H x H' → g x σ H' fun σ2 H2 => tb { D with nx := N, ct := N, bk := D.nx } σ2 H2) := by
  have el := hd.len
  refine for_it (n := xs.length) walk_list W h0 (fun i σ' H' _ p => (hW i σ' H' p).sql ha hq) (fun i x σ' H' H2 hi p y => ?_) (fun σ' H' p => he σ' H' (by rw [← el]; exact p))
  obtain ⟨e1, e2⟩ := y
  subst e1
  exact hs i x σ' H2 (by omega) p (at_of (R.dps (hW i σ' H2 p) _ _ hm hd) (by omega) e2)
theorem x_forTu {M : List Addr} {H : Hp} {σ : L2.St} {a : Addr} {xs : List V} {ds : List PyData} {g : TG} {tb : TS} {D : Ends} (hq : SqT K H a xs) (hd : DpAll K H xs ds) (hm : ims ds = true) (W : Nat → L2.St → Hp → Prop) (h0 : W 0 σ H) (hW : ∀ i σ' H', W i σ' H' → R M H H')
    (hs : ∀ i x σ' H', i < ds.length → W i σ' H' → Dp K H' x (ds.getD i .none) → g x σ' H' fun σ2 H2 => tb { D with nx := W (i + 1), ct := W (i + 1), bk := D.nx } σ2 H2) (he : ∀ σ' H', W ds.length σ' H' → D.nx σ' H') :
    ∃ W : Nat → Nat → L2.St → Hp → Prop, (∃ m, W 0 m σ H) ∧ ∀ i m σ H, W i m σ H →
      ((Itt K a).stop i H ∧ D.nx σ H) ∨ ((Itt K a).go i H ∧ ∃ N : L2.St → Hp → Prop, (∀ σ' H', N σ' H' → ∃ m', m' < m ∧ W (i + 1) m' σ' H') ∧ ∀ x H', (Itt K a).yld i H x H' → g x σ H' fun σ2 H2 => tb { D with nx := N, ct := N, bk := D.nx } σ2 H2) := by
  have el := hd.len
  refine for_it (n := xs.length) walk_tup W h0 (fun i σ' H' _ p => (hW i σ' H' p).sqt hq) (fun i x σ' H' H2 hi p y => ?_) (fun σ' H' p => he σ' H' (by rw [← el]; exact p))
  obtain ⟨e1, e2⟩ := y
  subst e1
  exact hs i x σ' H2 (by omega) p (at_of (R.dps (hW i σ' H2 p) _ _ hm hd) (by omega) e2)
def CsOk (n : Nat) (cs : Cs) : Prop := (∀ c ∈ cs, 0 ≤ c.1 ∧ c.1 < n) ∧ (cs.map (·.1)).Nodup
theorem CsOk.put {n : Nat} {cs : Cs} (h : CsOk n cs) {v x : Int} (h0 : 0 ≤ v) (h1 : v < n) : CsOk n (putC cs v x) := by
  refine ⟨fun c hc => ?_, putC_nodup h.2⟩
  rcases putC_mem hc with e | ⟨d, hd, e⟩
  · exact ⟨by rw [e]; exact h0, by rw [e]; exact h1⟩
  · exact ⟨by rw [e]; exact (h.1 d hd).1, by rw [e]; exact (h.1 d hd).2⟩
theorem take_sum {α : Type} (f : α → Nat) {xs : List α} {i : Nat} {a : α} (e : xs[i]? = some a) : ((xs.take (i + 1)).map f).sum = ((xs.take i).map f).sum + f a := by
  rw [List.take_add_one, e, List.map_append, List.sum_append]
  simp
theorem take_sumI {α : Type} (f : α → Int) {xs : List α} {i : Nat} {a : α} (e : xs[i]? = some a) : ((xs.take (i + 1)).map f).sum = ((xs.take i).map f).sum + f a := by
  rw [List.take_add_one, e, List.map_append, List.sum_append]
  simp
def sp_made (K : PySem.W.Frag) : Sp := fun vs H Q _ => ∃ (ps : List (Lin × Int)) (a : Addr) (xs : List V) (n c : Nat), vs = [.ref a] ∧ H a = some (.lst xs) ∧ DpAll K H xs (ps.map eQ) ∧ ps.length ≤ 2 ∧ (∀ q ∈ ps, LB n 100 q.1 ∧ q.2.natAbs ≤ 3) ∧ mabs ps ≤ c ∧ c ≤ 100 ∧ ∀ l u H', LB n c l → Ex H H' → Dp K H' u (eL l) → Q u H'
theorem ims_Q (ps : List (Lin × Int)) : ims (ps.map eQ) = true := ims_of fun d hd => by
  obtain ⟨t, _, rfl⟩ := List.mem_map.mp hd
  simp [eQ, im, ims, im_L]
theorem cal__law_made (T : Top K w mg) : Cal P w K mg base "_law_made" ["parts"] 1 (sp_made K) := by
  refine cal_of T.f__law_made sc__law_made ?len (fun _ _ _ _ _ _ us hl => match us, hl with | [_], _ => rfl) (fun f cdv A outer s H vs Q E hr h => ⟨_, (pss_cons (ps_asg (pe_tup (pa_cons pe_int (pa_cons pe_dnewK pa_nil))) (pg_tup rfl (pgs_cons (pg_name (i := 1) sc__law_made.nd rfl (by first | exact Or.inl rfl | exact Or.inr rfl)) (pgs_cons (pg_name (i := 2) sc__law_made.nd rfl (by first | exact Or.inl rfl | exact Or.inr rfl)) pgs_nil))))
      (pss_cons (ps_for PassesOwn.never rfl (pi_list (pv 0)) (pg_tup rfl (pgs_cons (pg_name (i := 3) sc__law_made.nd rfl (by first | exact Or.inl rfl | exact Or.inr rfl)) (pgs_cons (pg_name (i := 4) sc__law_made.nd rfl (by first | exact Or.inl rfl | exact Or.inr rfl)) pgs_nil))) (pss_cons (ps_set (i := 1) sc__law_made.nd rfl (by first | exact Or.inl rfl | exact Or.inr rfl) (pe_op op_add (pv 1) (pe_op op_mul (pe_ix ix_tupK (pv 3) pe_int (fun _ _ => rfl)) (pv 4))))
      (pss_one (ps_for PassesOwn.never rfl (pi_tup (pe_ix ix_tupK (pv 3) pe_int (fun _ _ => rfl))) (pg_tup rfl (pgs_cons (pg_name (i := 5) sc__law_made.nd rfl (by first | exact Or.inl rfl | exact Or.inr rfl)) (pgs_cons (pg_name (i := 6) sc__law_made.nd rfl (by first | exact Or.inl rfl | exact Or.inr rfl)) pgs_nil))) (pss_one (ps_dput (hu_of hr) (pv 2) (pv 5) (pe_op op_add (pe_dget2 (hu_of hr) (pv 2) (pv 5) pe_int ⟨rfl, rfl, rfl, rfl⟩) (pe_op op_mul (pv 6) (pv 4))) rfl))))))
      (pss_one (ps_ret (pe_tup (pa_cons (pv 1) (pa_cons (pe_callTy call_tupleK rfl T.b_tuple (by decide +kernel) (pa_cons (pe_lc (own := [("v", 5)]) (g := (gName 5)) rfl sc__law_made.nd (pi_list (pe_callB cr_sortedK rfl T.b_sorted (by decide +kernel) (pa_cons (pe_callTy (call_listD rfl) rfl T.b_list (by decide +kernel) (pa_cons (pv 2) pa_nil)) pa_nil))) (blkOk_by (by show blkC ["parts", "total", "sums", "linear", "times", "v", "many"] (defScope s__law_made) _ _ = true; decide +kernel)) (fun _ _ _ _ _ => (pg_name (i := 5) sc__law_made.nd rfl (by first | exact Or.inl rfl | exact Or.inr rfl))) (fun _ _ _ _ _ => (pts_one (pt_cmpR op_ne (pe_dget (hu_of hr) (pv 2) (pv 5) (fun _ _ => rfl)) pe_int (nomark _)))) (fun _ _ _ _ _ => (pe_tup (pa_cons (pv 5) (pa_cons (pe_dget (hu_of hr) (pv 2) (pv 5) (fun _ _ => rfl)) pa_nil))))) pa_nil)) pa_nil))))))), ?_⟩)
  case len => intro vs H Q E h; obtain ⟨_, _, _, _, _, rfl, _⟩ := h; rfl
  obtain ⟨ps, a, xs, n, c, rfl, ha, hx, hl, hps, hm, hc, q⟩ := h
  walk_at "lyJ"
  refine x_dnew fun sd hsd => ?_
  walk_at "lyR"
  refine ⟨Nat.le_trans (show 2 ≤ 100000 by decide) (by decide), fun t ht => ?_⟩
  refine ⟨t, _, rfl, SqT.of upd_same, rfl, ?_⟩
  walk_at "lyR"
  have hts : t ≠ sd := fun z => by rw [z, upd_same] at ht; cases ht
  have e0 : Ex H (upd (upd H sd (.dK [])) t (.tup [.int 0, .ref sd])) := (R.new hsd).trans (R.new ht)
  have hs0 : (upd (upd H sd (.dK [])) t (.tup [.int 0, .ref sd])) sd = some (.dK []) := by rw [upd_ne (Ne.symm hts), upd_same]
  generalize upd (upd H sd (.dK [])) t (.tup [.int 0, .ref sd]) = H0 at e0 hs0 ⊢
  have nas : a ≠ sd := ne_of_none ha hsd
  have ha0 : H0 a = some (.lst xs) := e0.keep a _ (by simp) ha
  refine ⟨a, rfl, ⟨xs, SqL.of ha0⟩, ?_⟩
  refine x_forL (M := [sd]) (SqL.of ha0) (by simpa using nas) (R.xps e0 _ _ hx) (ims_Q ps) (fun i σ' H' => R [sd] H0 H' ∧ ∃ cs x3 x4 x5 x6, H' sd = some (.dK (cs.map kC)) ∧ CsOk n cs ∧ absum cs ≤ mabs (ps.take i) ∧ cs.length ≤ 100 * i ∧ σ' = [some (.ref a), some (.int (mtot (ps.take i))), some (.ref sd), x3, x4, x5, x6])
    ⟨R.refl _, [], none, none, none, none, hs0, ⟨by simp, by simp⟩, by simp [absum], by simp, rfl⟩ (fun i σ' H' h => h.1) ?_ ?_
  · intro i x σ' H2 hi hW hx
    rw [List.length_map] at hi
    obtain ⟨r1, cs, x3, x4, x5, x6, g1, g2, g3, g4, rfl⟩ := hW
    have ei := List.getElem?_eq_getElem hi
    rw [getD_map ei] at hx
    obtain ⟨p1, p2⟩ := hps _ (List.getElem_mem hi)
    refine x_gtup2 hx ?_
    intro u0 u1 h0 h1
    obtain rfl := Dp.int_inv h1
    walk_at "lyR"
    refine x_I (Or.inr ⟨by omega, by omega⟩) ?_
    walk_at "lyR"
    rename_i u2 h2
    obtain ⟨b, ys, rfl, hq, hd⟩ := Dp.tup_inv h2
    refine ⟨b, rfl, ⟨ys, hq⟩, ?_⟩
    refine x_forTu (M := [sd]) hq hd (ims_T _) (fun j σ' H' => R [sd] H2 H' ∧ ∃ cs2 x5 x6, H' sd = some (.dK (cs2.map kC)) ∧ CsOk n cs2 ∧ absum cs2 ≤ absum cs + absum (ps[i].1.2.take j) * ps[i].2.natAbs ∧ cs2.length ≤ cs.length + j ∧ σ' = [some (.ref a), some (.int (mtot (ps.take i) + ps[i].1.1 * ps[i].2)), some (.ref sd), some u0, some (.int ps[i].2), x5, x6])
      ⟨R.refl _, cs, x5, x6, g1, g2, by simp [absum], by simp, rfl⟩ (fun i σ' H' h => h.1) ?_ ?_
    · intro j y σ' H3 hj hW hy
      rw [List.length_map] at hj
      obtain ⟨r2, cs2, y5, y6, k1, k2, k3, k4, rfl⟩ := hW
      have ej := List.getElem?_eq_getElem hj
      rw [getD_map ej] at hy
      have tm := List.getElem_mem hj
      obtain ⟨t1, t2, t3⟩ := p1.1 _ tm
      have t4 := Nat.le_trans (mem_absum tm) p1.2
      refine x_gtup2 hy ?_
      intro w0 w1 m0 m1
      obtain rfl := Dp.int_inv m0
      obtain rfl := Dp.int_inv m1
      walk_at "lyR"
      refine x_dput ?_
      walk_at "lyR"
      refine x_dget2 ?_
      walk_at "lyR"
      refine ⟨sd, rfl, .inl ⟨_, .inl k1⟩, ?_⟩
      walk_at "lyR"
      refine ⟨_, DGet.k (k := Sum.inl (ps[i].1.2[j]).1) k1, ?_⟩
      rw [valV_kC]
      have eo : ((getC cs2 (ps[i].1.2[j]).1).map V.int).getD (V.int 0) = V.int ((getC cs2 (ps[i].1.2[j]).1).getD 0) := by cases getC cs2 (ps[i].1.2[j]).1 <;> rfl
      rw [eo]
      walk_at "lyR"
      refine x_I (Or.inr ⟨by omega, by omega⟩) ?_
      walk_at "lyR"
      have lb := len_absum (ts := ps[i].1.2) fun t ht => (p1.1 t ht).2.2
      have lb2 := p1.2
      have li : i < 2 := by omega
      refine ⟨sd, _, rfl, DPut.k (k := Sum.inl (ps[i].1.2[j]).1) k1 (by rw [List.length_map]; exact Nat.lt_of_lt_of_le (show cs2.length < 1000 by omega) (by decide)), ?_⟩
      rw [putK_kC]
      refine ⟨rd_upd r2 g1 k1, _, _, _, upd_same, k2.put t1 t2, ?_, Nat.le_trans (putC_len _ _ _) (by omega), rfl⟩
      have pa := putC_abs (d := (ps[i].1.2[j]).2 * ps[i].2) (v := (ps[i].1.2[j]).1) k2.2
      have ta := take_sum (fun c : Int × Int => c.2.natAbs) ej
      have na : ((ps[i].1.2[j]).2 * ps[i].2).natAbs = (ps[i].1.2[j]).2.natAbs * ps[i].2.natAbs := Int.natAbs_mul _ _
      have : absum (ps[i].1.2.take (j + 1)) * ps[i].2.natAbs = absum (ps[i].1.2.take j) * ps[i].2.natAbs + (ps[i].1.2[j]).2.natAbs * ps[i].2.natAbs := by
        show ((ps[i].1.2.take (j + 1)).map fun c : Int × Int => c.2.natAbs).sum * _ = _
        rw [ta, Nat.add_mul]
        rfl
      omega
    · intro σ' H3 hW
      rw [List.length_map] at hW
      obtain ⟨r2, cs2, y5, y6, k1, k2, k3, k4, rfl⟩ := hW
      rw [List.take_length] at k3
      have lb := len_absum (ts := ps[i].1.2) fun t ht => (p1.1 t ht).2.2
      have lb2 := p1.2
      refine ⟨r1.trans r2, cs2, some u0, some (.int ps[i].2), y5, y6, k1, k2, ?_, by omega, ?_⟩
      · have := take_sum (fun q : Lin × Int => absum q.1.2 * q.2.natAbs) ei
        have e : mabs (ps.take (i + 1)) = mabs (ps.take i) + absum ps[i].1.2 * ps[i].2.natAbs := this
        omega
      · have := take_sumI (fun q : Lin × Int => q.1.1 * q.2) ei
        have e : mtot (ps.take (i + 1)) = mtot (ps.take i) + ps[i].1.1 * ps[i].2 := this
        rw [e]
  · intro σ' H' hW
    rw [List.length_map] at hW
    obtain ⟨r1, cs, x3, x4, x5, x6, g1, g2, g3, g4, rfl⟩ := hW
    rw [List.take_length] at g3
    walk_at "lyR"
    refine ⟨sd, _, rfl, .inl g1, fun l1 hl1 => ?_⟩
    have ek : (cs.map kC).map (fun kv => kV kv.1) = (cs.map (·.1)).map V.int := by rw [List.map_map, List.map_map]; rfl
    rw [ek]
    have e1 : Ex H' (upd H' l1 (.lst ((cs.map (·.1)).map V.int))) := R.new hl1
    walk_at "lyR"
    refine ⟨l1, cs.map (·.1), rfl, SqL.of upd_same, fun ns l2 hp1 hp2 hl2 => ?_⟩
    have e3 : Ex H' (upd (upd H' l1 (.lst ((cs.map (·.1)).map V.int))) l2 (.lst (ns.map V.int))) := e1.trans (R.new hl2)
    have hq3 : (upd (upd H' l1 (.lst ((cs.map (·.1)).map V.int))) l2 (.lst (ns.map V.int))) l2 = some (.lst (ns.map V.int)) := upd_same
    generalize upd (upd H' l1 (.lst ((cs.map (·.1)).map V.int))) l2 (.lst (ns.map V.int)) = H3 at e3 hq3 ⊢
    refine ⟨l2, rfl, ⟨_, SqL.of hq3⟩, ?_⟩
    have wk := dw_list (M := []) (SqL.of hq3) (by simp) (ints_dps (K := K) (H := H3) ns) (.inl rfl)
    rw [List.length_map] at wk
    refine x_lcG wk (fun p hp => absurd hp (by simp)) (fun i es => ∃ ts : Cs, es = ts.map eT ∧ (∀ t ∈ ts, 0 ≤ t.1 ∧ t.1 < n ∧ t.2 ≠ 0) ∧ absum ts ≤ ((ns.take i).map fun v => ((getC cs v).getD 0).natAbs).sum) ⟨[], rfl, by simp, by simp [absum]⟩ ?_ ?_
    · intro D i x es H4 H5 hi S r hx
      obtain ⟨ts, f1, f2, f3⟩ := S.inv
      have ei := List.getElem?_eq_getElem hi
      rw [getD_map ei] at hx
      obtain rfl := Dp.int_inv hx
      obtain ⟨cc, hcc, ec⟩ := List.mem_map.mp (hp1.mem_iff.mp (List.getElem_mem hi))
      have hz : getC cs ns[i] = some cc.2 := by rw [← ec]; exact getC_mem g2.2 hcc
      obtain ⟨z1, z2⟩ := g2.1 cc hcc
      have gd : H5 sd = some (.dK (cs.map kC)) := ((e3.trans S.r).trans r).keep sd _ (by simp) g1
      have dg : DGet H5 sd (V.int ns[i]) (some (.int cc.2)) := by
        have := DGet.k (k := Sum.inl ns[i]) gd
        rw [valV_kC, hz] at this
        exact this
      have ta := take_sum (fun v => ((getC cs v).getD 0).natAbs) ei
      try dsimp only at ta
      rw [hz] at ta
      walk_at "lyR"
      refine ⟨rfl, ?_⟩
      walk_at "lyR"
      refine x_dget ?_
      walk_at "lyR"
      refine ⟨sd, _, rfl, dg, ?_⟩
      walk_at "lyR"
      by_cases c0 : cc.2 = 0
      · refine x_ifnT c0 ?_
        exact lcN S (by walk_at "lyT") ⟨ts, f1, f2, by rw [ta]; omega⟩ (by rw [f1]; exact ims_T ts)
      · refine x_ifnF c0 ?_
        walk_at "lyR"
        refine x_dget ?_
        walk_at "lyR"
        refine ⟨sd, _, rfl, dg, ?_⟩
        walk_at "lyR"
        rename_i z H6 e6 hz6
        have ee : es ++ [eT (ns[i], cc.2)] = (ts ++ [(ns[i], cc.2)]).map eT := by rw [f1, List.map_append]; rfl
        refine lcY (e := eT (ns[i], cc.2)) S (by walk_at "lyT") hz6.dp ⟨_, ee, fun t ht => ?_, ?_⟩ (by rw [ee]; exact ims_T _) ?_
        · rcases List.mem_append.mp ht with h | h
          · exact f2 t h
          · have : t = (ns[i], cc.2) := by simpa using h
            subst this
            exact ⟨by rw [← ec]; exact z1, by rw [← ec]; exact z2, c0⟩
        · rw [ta]
          have : absum (ts ++ [(ns[i], cc.2)]) = absum ts + cc.2.natAbs := by simp [absum]
          rw [this]
          exact Nat.add_le_add_right f3 _
        · have h1 := hp1.length_eq
          rw [List.length_map] at h1
          omega
    · intro es b acc H4 hI r m1 m2 m3
      obtain ⟨ts, rfl, f2, f3⟩ := hI
      rw [List.take_length] at f3
      walk_at "lyR"
      refine x_tupleD (.inr (dp_lst m2 m3)) ?_
      intro u H5 e5 hu
      walk_at "lyR"
      rename_i z H6 e6 hz6
      refine q (_, ts) _ _ ⟨f2, ?_⟩ (ex_of hsd e0 (r1.trans ((R.of e3).trans ((R.of r).trans ((R.of e5).trans (R.of e6)))))) hz6
      have hs := (hp1.map fun v => ((getC cs v).getD 0).natAbs).sum_nat
      rw [absum_keys g2.2] at hs
      show absum ts ≤ c
      omega
end
end K85

/-! ### text T10 -/
namespace K85
open PySem PySem.Spec PyProof.Rows L2 Lay
/-! drawn terms -/
inductive Tm
  | num (n : Int)
  | nam (s : Str)
  | plus (a b : Tm)
  | less (a b : Tm)
  | tim (k : Int) (a : Tm)
def eTm : Tm → PyData
  | .num n => .tuple [.str "number", .int n]
  | .nam s => .tuple [.str "name", .str s]
  | .plus a b => .tuple [.str "plus", eTm a, eTm b]
  | .less a b => .tuple [.str "less", eTm a, eTm b]
  | .tim k a => .tuple [.str "times", .int k, eTm a]
def TmOk (ss : List Str) : Tm → Prop
  | .num _ => True
  | .nam s => s ∈ ss
  | .plus a b => TmOk ss a ∧ TmOk ss b
  | .less a b => TmOk ss a ∧ TmOk ss b
  | .tim k a => (1 ≤ k.natAbs ∧ k.natAbs ≤ 3) ∧ TmOk ss a
def tmD : Tm → Nat
  | .num _ => 0
  | .nam _ => 0
  | .plus a b => max (tmD a) (tmD b) + 1
  | .less a b => max (tmD a) (tmD b) + 1
  | .tim _ a => tmD a + 1
def tmC : Tm → Nat
  | .num _ => 0
  | .nam _ => 1
  | .plus a b => tmC a + tmC b
  | .less a b => tmC a + tmC b
  | .tim k a => tmC a * k.natAbs
theorem im_Tm : ∀ t : Tm, im (eTm t) = true
  | .num _ => by simp [eTm, im, ims]
  | .nam _ => by simp [eTm, im, ims]
  | .plus a b => by simp [eTm, im, ims, im_Tm a, im_Tm b]
  | .less a b => by simp [eTm, im, ims, im_Tm a, im_Tm b]
  | .tim _ a => by simp [eTm, im, ims, im_Tm a]
/-- names known by numbers below n -/
def Kn (H : Hp) (a : Addr) (ss : List Str) (n : Nat) : Prop := ∃ kvs, H a = some (.dK kvs) ∧ ∀ s ∈ ss, ∃ v : Int, 0 ≤ v ∧ v < n ∧ valV kvs (.inr s) = some (.int v)
theorem Kn.ex {H H' : Hp} {a : Addr} {ss : List Str} {n : Nat} (h : Kn H a ss n) (e : Ex H H') : Kn H' a ss n := let ⟨kvs, h1, h2⟩ := h; ⟨kvs, e.keep a _ (by simp) h1, h2⟩

local macro_rules | `(tactic| walk_at "lyK") => `(tactic| first
  | with_reducible assumption
  | ((with_reducible refine Kn.ex (H := ?lym) ?lya ?lyb); (case lyb => with_reducible assumption); walk_at "lyK")
  | fail)
section
variable {P : Program} {w : World} {K : PySem.W.Frag} {mg : Str → Option Value} {base : Heap}
def sp_sum (d : Nat) (K : PySem.W.Frag) : Sp := fun vs H Q _ => ∃ (t : Tm) (v : V) (a : Addr) (ss : List Str) (n : Nat), vs = [v, .ref a] ∧ Dp K H v (eTm t) ∧ Kn H a ss n ∧ TmOk ss t ∧ tmD t ≤ d ∧ tmC t ≤ 100 ∧ ∀ l u H', LB n (tmC t) l → Ex H H' → Dp K H' u (eL l) → Q u H'
theorem x_made {H : Hp} {Q : VK} {E : XK} (ps : List (Lin × Int)) (n c : Nat) {a : Addr} {xs : List V} (ha : H a = some (.lst xs)) (hx : DpAll K H xs (ps.map eQ)) (hl : ps.length ≤ 2) (hp : ∀ q ∈ ps, LB n 100 q.1 ∧ q.2.natAbs ≤ 3) (hm : mabs ps ≤ c) (hc : c ≤ 100)
    (q : ∀ l u H', LB n c l → Ex H H' → Dp K H' u (eL l) → Q u H') : sp_made K [.ref a] H Q E := ⟨ps, a, xs, n, c, rfl, ha, hx, hl, hp, hm, hc, q⟩
theorem sum_step (T : Top K w mg) (d : Nat) (ih : Cal P w K mg base "_law_sum" ["t", "known"] (d + 2) (fun vs H Q E => ∃ (t : Tm) (v : V) (a : Addr) (ss : List Str) (n : Nat), vs = [v, .ref a] ∧ Dp K H v (eTm t) ∧ Kn H a ss n ∧ TmOk ss t ∧ tmD t < d ∧ tmC t ≤ 100 ∧ ∀ l u H', LB n (tmC t) l → Ex H H' → Dp K H' u (eL l) → Q u H')) : Cal P w K mg base "_law_sum" ["t", "known"] (d + 3) (sp_sum d K) := by
  refine cal_of T.f__law_sum sc__law_sum ?len (fun _ _ _ _ _ _ us hl => match us, hl with | [_, _], _ => rfl) (fun f cdv A outer s H vs Q E hr h => ⟨_, (pss_cons (ps_if (pt_cmpR op_eq (pe_ix ix_tupK (pv 0) pe_int (fun _ _ => rfl)) pe_str (nomark _)) (pss_one (ps_ret (pe_tup (pa_cons (pe_ix ix_tupK (pv 0) pe_int (fun _ _ => rfl)) (pa_cons (pe_tup pa_nil) pa_nil))))) pss_nil)
      (pss_cons (ps_if (pt_cmpR op_eq (pe_ix ix_tupK (pv 0) pe_int (fun _ _ => rfl)) pe_str (nomark _)) (pss_one (ps_ret (pe_tup (pa_cons pe_int (pa_cons (pe_tup (pa_cons (pe_tup (pa_cons (pe_dget (hu_of hr) (pv 1) (pe_ix ix_tupK (pv 0) pe_int (fun _ _ => rfl)) (fun _ _ => rfl)) (pa_cons pe_int pa_nil))) pa_nil)) pa_nil))))) pss_nil)
      (pss_cons (ps_if (pt_cmpR op_eq (pe_ix ix_tupK (pv 0) pe_int (fun _ _ => rfl)) pe_str (nomark _)) (pss_one (ps_ret (pe_def (cal__law_made T) (hr.mono (by omega)) (pa_cons (pe_lst (pa_cons (pe_tup (pa_cons (pe_def ih (hr.mono (by omega)) (pa_cons (pe_ix ix_tupK (pv 0) pe_int (fun _ _ => rfl)) (pa_cons (pv 1) pa_nil))) (pa_cons (pe_ix ix_tupK (pv 0) pe_int (fun _ _ => rfl)) pa_nil))) pa_nil)) pa_nil)))) pss_nil)
      (pss_one (ps_ret (pe_def (cal__law_made T) (hr.mono (by omega)) (pa_cons (pe_lst (pa_cons (pe_tup (pa_cons (pe_def ih (hr.mono (by omega)) (pa_cons (pe_ix ix_tupK (pv 0) pe_int (fun _ _ => rfl)) (pa_cons (pv 1) pa_nil))) (pa_cons pe_int pa_nil))) (pa_cons (pe_tup (pa_cons (pe_def ih (hr.mono (by omega)) (pa_cons (pe_ix ix_tupK (pv 0) pe_int (fun _ _ => rfl)) (pa_cons (pv 1) pa_nil))) (pa_cons (pe_ifExp (pt_cmpR op_eq (pe_ix ix_tupK (pv 0) pe_int (fun _ _ => rfl)) pe_str (nomark _)) pe_int (pe_un un_neg pe_int)) pa_nil))) pa_nil))) pa_nil))))))), ?_⟩)
  case len => intro vs H Q E h; obtain ⟨_, _, _, _, _, rfl, _⟩ := h; rfl
  obtain ⟨t, v, a, ss, n, rfl, hv, hk, ht, hd, hc, q⟩ := h
  cases t with
  | num m =>
    walk_at "lyJ"
    exact q (m, []) _ _ ⟨by simp, Nat.zero_le _⟩ (by walk_at "lyT") (by walk_at "lyD")
  | nam s =>
    obtain ⟨kvs, k1, k2⟩ := hk
    obtain ⟨x, x0, x1, x2⟩ := k2 s ht
    walk_at "lyJ"
    refine x_dget ?_
    walk_at "lyR"
    refine ⟨a, _, rfl, x2 ▸ DGet.k (k := Sum.inr s) k1, ?_⟩
    walk_at "lyR"
    refine q (0, [(x, 1)]) _ _ ⟨fun t ht => ?_, Nat.le_refl _⟩ (by walk_at "lyT") (by walk_at "lyD")
    have : t = (x, 1) := by simpa using ht
    subst this
    exact ⟨x0, x1, by show (1 : Int) ≠ 0; decide⟩
  | tim k b =>
    obtain ⟨hk3, hb⟩ := ht
    have hd' : tmD b + 1 ≤ d := hd
    have hc' : tmC b * k.natAbs ≤ 100 := hc
    walk_at "lyJ"
    refine ⟨b, _, a, ss, n, rfl, by walk_at "lyD", hk, hb, by omega, ?_, fun l u H1 hl e1 hu => ?_⟩
    · exact Nat.le_trans (Nat.le_mul_of_pos_right _ hk3.1) hc'
    have hcb : tmC b ≤ 100 := Nat.le_trans (Nat.le_mul_of_pos_right _ hk3.1) hc'
    walk_at "lyR"
    rename_i r6 H6 e6 n6 t6 d6
    refine x_made [(l, k)] n (tmC b * k.natAbs) t6 (show DpAll K H6 _ [eQ (l, k)] from by walk_at "lyD") (by show 1 ≤ 2; decide) (fun q hq => ?_) ?_ hc' fun l3 u3 H7 hl3 e7 hu3 => q _ _ _ hl3 (by walk_at "lyT") hu3
    · have : q = (l, k) := by simpa using hq
      subst this
      exact ⟨hl.mono hcb, hk3.2⟩
    · have h1 := Nat.mul_le_mul_right k.natAbs hl.2
      show absum l.2 * k.natAbs + 0 ≤ _
      omega
  | plus b e =>
    obtain ⟨hb, he⟩ := ht
    have hd' : max (tmD b) (tmD e) + 1 ≤ d := hd
    have hc' : tmC b + tmC e ≤ 100 := hc
    walk_at "lyJ"
    refine ⟨b, _, a, ss, n, rfl, by walk_at "lyD", hk, hb, by omega, by omega, fun l u H1 hl e1 hu => ?_⟩
    walk_at "lyR"
    rename_i z1 H2 e2 hz1
    refine ⟨e, _, a, ss, n, rfl, by walk_at "lyD", by walk_at "lyK", he, by omega, by omega, fun l2 u2 H3 hl2 e3 hu2 => ?_⟩
    walk_at "lyR"
    rename_i r6 H6 e6 n6 t6 d6
    refine x_made [(l, 1), (l2, 1)] n (tmC b + tmC e) t6 (show DpAll K H6 _ [eQ (l, 1), eQ (l2, 1)] from by walk_at "lyD") (by show 2 ≤ 2; decide) (fun q hq => ?_) ?_ hc' fun l3 u3 H7 hl3 e7 hu3 => q _ _ _ hl3 (by walk_at "lyT") hu3
    · have : q = (l, 1) ∨ q = (l2, 1) := by simpa using hq
      rcases this with h | h
      · subst h
        exact ⟨hl.mono (by omega), by show Int.natAbs 1 ≤ 3; decide⟩
      · subst h
        exact ⟨hl2.mono (by omega), by show Int.natAbs (1) ≤ 3; decide⟩
    · have h1 := hl.2
      have h2 := hl2.2
      show absum l.2 * 1 + (absum l2.2 * 1 + 0) ≤ _
      omega
  | less b e =>
    obtain ⟨hb, he⟩ := ht
    have hd' : max (tmD b) (tmD e) + 1 ≤ d := hd
    have hc' : tmC b + tmC e ≤ 100 := hc
    walk_at "lyJ"
    refine ⟨b, _, a, ss, n, rfl, by walk_at "lyD", hk, hb, by omega, by omega, fun l u H1 hl e1 hu => ?_⟩
    walk_at "lyR"
    rename_i z1 H2 e2 hz1
    refine ⟨e, _, a, ss, n, rfl, by walk_at "lyD", by walk_at "lyK", he, by omega, by omega, fun l2 u2 H3 hl2 e3 hu2 => ?_⟩
    walk_at "lyR"
    rename_i r6 H6 e6 n6 t6 d6
    refine x_made [(l, 1), (l2, -1)] n (tmC b + tmC e) t6 (show DpAll K H6 _ [eQ (l, 1), eQ (l2, -1)] from by walk_at "lyD") (by show 2 ≤ 2; decide) (fun q hq => ?_) ?_ hc' fun l3 u3 H7 hl3 e7 hu3 => q _ _ _ hl3 (by walk_at "lyT") hu3
    · have : q = (l, 1) ∨ q = (l2, -1) := by simpa using hq
      rcases this with h | h
      · subst h
        exact ⟨hl.mono (by omega), by show Int.natAbs 1 ≤ 3; decide⟩
      · subst h
        exact ⟨hl2.mono (by omega), by show Int.natAbs (-1) ≤ 3; decide⟩
    · have h1 := hl.2
      have h2 := hl2.2
      show absum l.2 * 1 + (absum l2.2 * 1 + 0) ≤ _
      omega
theorem cal__law_sum (T : Top K w mg) : ∀ d, Cal P w K mg base "_law_sum" ["t", "known"] (d + 3) (sp_sum d K)
  | 0 => by
    refine sum_step T 0 ?_
    obtain ⟨f, fd, hm, F⟩ := T.f__law_sum
    refine ⟨f, fd, hm, F.kp, F.binds (fun _ _ _ _ _ _ us hl => match us, hl with | [_, _], _ => rfl), fun vs H Q E h => ?_, fun A outer s H args us vs Q E hr he hb hv h => ?_⟩
    · obtain ⟨_, _, _, _, _, _, _, _, _, h, _⟩ := h
      exact absurd h (Nat.not_lt_zero _)
    · obtain ⟨_, _, _, _, _, _, _, _, _, h, _⟩ := h
      exact absurd h (Nat.not_lt_zero _)
  | d + 1 => sum_step T (d + 1) ((cal__law_sum T d).imp fun vs H Q E ⟨t, v, a, ss, n, h1, h2, h3, h4, h5, h6⟩ => ⟨t, v, a, ss, n, h1, h2, h3, h4, Nat.le_of_lt_succ h5, h6⟩)
end
end K85

/-! ### text T11 -/
namespace K85
open PySem PySem.Spec PyProof.Rows L2 Lay
/-! drawn trees -/
inductive Tr
  | is (w : Str) (a b : Tm)
  | into (k : Int) (a : Tm)
  | not (f : Tr)
  | both (f g : Tr)
  | one (f g : Tr)
def eTr : Tr → PyData
  | .is w a b => .tuple [.str "is", .str w, eTm a, eTm b]
  | .into k a => .tuple [.str "into", .int k, eTm a]
  | .not f => .tuple [.str "not", eTr f]
  | .both f g => .tuple [.str "and", eTr f, eTr g]
  | .one f g => .tuple [.str "or", eTr f, eTr g]
def Six (w : Str) : Prop := w = "<" ∨ w = "<=" ∨ w = "=" ∨ w = "!=" ∨ w = ">" ∨ w = ">="
def TrOk (ss : List Str) : Tr → Prop
  | .is w a b => Six w ∧ TmOk ss a ∧ TmOk ss b ∧ tmD a ≤ 5 ∧ tmD b ≤ 5 ∧ tmC a + tmC b ≤ 100
  | .into k a => 0 < k ∧ k < 100 ∧ TmOk ss a ∧ tmD a ≤ 5 ∧ tmC a ≤ 100
  | .not f => TrOk ss f
  | .both f g => TrOk ss f ∧ TrOk ss g
  | .one f g => TrOk ss f ∧ TrOk ss g
def trD : Tr → Nat
  | .is _ _ _ => 0
  | .into _ _ => 0
  | .not f => trD f + 1
  | .both f g => max (trD f) (trD g) + 1
  | .one f g => max (trD f) (trD g) + 1
theorem im_Tr : ∀ t : Tr, im (eTr t) = true
  | .is _ a b => by simp [eTr, im, ims, im_Tm]
  | .into _ a => by simp [eTr, im, ims, im_Tm]
  | .not f => by simp [eTr, im, ims, im_Tr f]
  | .both f g => by simp [eTr, im, ims, im_Tr f, im_Tr g]
  | .one f g => by simp [eTr, im, ims, im_Tr f, im_Tr g]

local macro_rules | `(tactic| walk_at "lyK") => `(tactic| first
  | with_reducible assumption
  | ((with_reducible refine Kn.ex (H := ?lym) ?lya ?lyb); (case lyb => with_reducible assumption); walk_at "lyK")
  | fail)
section
variable {P : Program} {w : World} {K : PySem.W.Frag} {mg : Str → Option Value} {base : Heap}
def sp_le (K : PySem.W.Frag) : Sp := fun vs H Q _ => ∃ (la lb : Lin) (va vb : V) (add : Int) (n ca cb : Nat), vs = [va, vb, .int add] ∧ Dp K H va (eL la) ∧ Dp K H vb (eL lb) ∧ LB n ca la ∧ LB n cb lb ∧ ca + cb ≤ 100 ∧ ∀ l u H', LB n (ca + cb) l → Ex H H' → Dp K H' u (eF (.le l)) → Q u H'
theorem cal__law_le (T : Top K w mg) : Cal P w K mg base "_law_le" ["near", "far", "add"] 2 (sp_le K) := by
  refine cal_of T.f__law_le sc__law_le ?len (fun _ _ _ _ _ _ us hl => match us, hl with | [_, _, _], _ => rfl) (fun f cdv A outer s H vs Q E hr h => ⟨_, (pss_cons (ps_set (i := 3) sc__law_le.nd rfl (by first | exact Or.inl rfl | exact Or.inr rfl) (pe_def (cal__law_made T) (hr.mono (by omega)) (pa_cons (pe_lst (pa_cons (pe_tup (pa_cons (pv 0) (pa_cons pe_int pa_nil))) (pa_cons (pe_tup (pa_cons (pv 1) (pa_cons (pe_un un_neg pe_int) pa_nil))) pa_nil))) pa_nil)))
      (pss_one (ps_ret (pe_tup (pa_cons pe_str (pa_cons (pe_tup (pa_cons (pe_op op_add (pe_ix ix_tupK (pv 3) pe_int (fun _ _ => rfl)) (pv 2)) (pa_cons (pe_ix ix_tupK (pv 3) pe_int (fun _ _ => rfl)) pa_nil))) pa_nil)))))), ?_⟩)
  case len => intro vs H Q E h; obtain ⟨_, _, _, _, _, _, _, _, rfl, _⟩ := h; rfl
  obtain ⟨la, lb, va, vb, add, n, ca, cb, rfl, ha, hb, hla, hlb, hc, q⟩ := h
  walk_at "lyJ"
  rename_i r6 H6 e6 n6 t6 d6
  refine x_made [(la, 1), (lb, -1)] n (ca + cb) t6 (show DpAll K H6 _ [eQ (la, 1), eQ (lb, -1)] from by walk_at "lyD") (by show 2 ≤ 2; decide) (fun q hq => ?_) ?_ hc fun l3 u3 H7 hl3 e7 hu3 => ?_
  · have : q = (la, 1) ∨ q = (lb, -1) := by simpa using hq
    rcases this with h | h
    · subst h
      exact ⟨hla.mono (by omega), by show Int.natAbs 1 ≤ 3; decide⟩
    · subst h
      exact ⟨hlb.mono (by omega), by show Int.natAbs (-1) ≤ 3; decide⟩
  · have h1 := hla.2
    have h2 := hlb.2
    show absum la.2 * 1 + (absum lb.2 * 1 + 0) ≤ _
    omega
  · walk_at "lyR"
    exact q (l3.1 + add, l3.2) _ _ hl3 (by walk_at "lyT") (by walk_at "lyD")
theorem x_le {H : Hp} {Q : VK} {E : XK} (la lb : Lin) (n ca cb : Nat) {va vb : V} {add : Int} (ha : Dp K H va (eL la)) (hb : Dp K H vb (eL lb)) (hla : LB n ca la) (hlb : LB n cb lb) (hc : ca + cb ≤ 100)
    (q : ∀ l u H', LB n (ca + cb) l → Ex H H' → Dp K H' u (eF (.le l)) → Q u H') : sp_le K [va, vb, .int add] H Q E := ⟨la, lb, va, vb, add, n, ca, cb, rfl, ha, hb, hla, hlb, hc, q⟩
def dS (l : List (Str × Str)) : List (Key × V) := l.map fun q => (.inr q.1, .str q.2)
theorem x_dgd {trs : List (TE × TE)} {ty : TE} {σ : L2.St} {H : Hp} {Q : VK} (w d : Str) (l : List (Str × Str)) (h : ∀ H' (C : List (V × V) → Hp → Prop), C ((dS l).map fun kv => (kV kv.1, kv.2)) H' → tPairs trs σ H' C) (hl : (dS l).length ≤ 15) (hv : valV (mergeK [] (dS l)) (.inr w) = some (.str d))
    (ht : ∀ H' (C : VK), Ex H H' → C (.str w) H' → ty σ H' C) (q2 : ∀ H', Ex H H' → Q (.str d) H') : tDGet (tDisp trs) ty σ H Q := by
  intro p hp
  refine h _ _ ⟨upd_same, dS l, rfl, hl, ?_⟩
  have e1 : Ex H (upd H p (.dK [])) := R.new hp
  have e2 : Ex H (upd (upd H p (.dK [])) p (.dK (mergeK [] (dS l)))) := R.mut e1 hp
  refine ht _ _ e2 ⟨p, .str d, rfl, ?_, q2 _ e2⟩
  have := DGet.k (H := upd (upd H p (.dK [])) p (.dK (mergeK [] (dS l)))) (a := p) (k := .inr w) upd_same
  rw [hv] at this
  exact this
theorem x_par3E {i j l : Nat} {ta : TA} {D : Ends} {σ : L2.St} {H : Hp} (q : ta σ H fun vs H1 => ∃ u v w, vs = [u, v, w] ∧ D.nx (((σ.set i (some u)).set j (some v)).set l (some w)) H1) : tPar3 i j l ta D σ H := q
def sp_formula (d : Nat) (K : PySem.W.Frag) : Sp := fun vs H Q _ => ∃ (t : Tr) (v : V) (a : Addr) (den : Bool) (nx : Int) (ss : List Str) (n : Nat), vs = [v, .ref a, .bl den, .int nx] ∧ Dp K H v (eTr t) ∧ Kn H a ss n ∧ TrOk ss t ∧ trD t ≤ d ∧
  ∀ f u k H', FmOk n f → f.deep ≤ trD t + 1 → Ex H H' → Dp K H' u (.tuple [eF f, .int k]) → Q u H'
theorem formula_step (T : Top K w mg) (d : Nat) (ih : Cal P w K mg base "_law_formula" ["f", "known", "is_denied", "next_one"] (d + 9) (fun vs H Q E => ∃ (t : Tr) (v : V) (a : Addr) (den : Bool) (nx : Int) (ss : List Str) (n : Nat), vs = [v, .ref a, .bl den, .int nx] ∧ Dp K H v (eTr t) ∧ Kn H a ss n ∧ TrOk ss t ∧ trD t < d ∧
  ∀ f u k H', FmOk n f → f.deep ≤ trD t + 1 → Ex H H' → Dp K H' u (.tuple [eF f, .int k]) → Q u H')) : Cal P w K mg base "_law_formula" ["f", "known", "is_denied", "next_one"] (d + 10) (sp_formula d K) := by
  refine cal_of T.f__law_formula sc__law_formula ?len (fun _ _ _ _ _ _ us hl => match us, hl with | [_, _, _, _], _ => rfl) (fun f cdv A outer s H vs Q E hr h => ⟨_, (pss_cons (ps_if (pt_cmpR op_eq (pe_ix ix_tupK (pv 0) pe_int (fun _ _ => rfl)) pe_str (nomark _)) (pss_cons (ps_par3 (i := 7) (j := 8) (l := 9) rfl sc__law_formula.nd rfl rfl rfl  (by decide) (by decide) (by decide) rfl rfl rfl  (pa_cons (pe_def (cal__law_sum T 5) (hr.mono (by omega)) (pa_cons (pe_ix ix_tupK (pv 0) pe_int (fun _ _ => rfl)) (pa_cons (pv 1) pa_nil))) (pa_cons (pe_def (cal__law_sum T 5) (hr.mono (by omega)) (pa_cons (pe_ix ix_tupK (pv 0) pe_int (fun _ _ => rfl)) (pa_cons (pv 1) pa_nil))) (pa_cons (pe_ix ix_tupK (pv 0) pe_int (fun _ _ => rfl)) pa_nil))) rfl)
      (pss_cons (ps_if (pt_val (pv 2)) (pss_one (ps_set (i := 9) sc__law_formula.nd rfl (by first | exact Or.inl rfl | exact Or.inr rfl) (pe_dget (hu_of hr) (pe_disp (pps_cons pe_str pe_str (pps_cons pe_str pe_str (pps_cons pe_str pe_str (pps_cons pe_str pe_str (pps_cons pe_str pe_str (pps_cons pe_str pe_str pps_nil)))))) rfl rfl (by simp) (by decide)) (pv 9) (fun _ _ => rfl)))) pss_nil)
      (pss_cons (ps_if (pt_cmpR op_inK (pv 9) (pe_tup (pa_cons pe_str (pa_cons pe_str pa_nil))) rfl) (pss_cons (ps_set (i := 10) sc__law_formula.nd rfl (by first | exact Or.inl rfl | exact Or.inr rfl) (pe_ifExp (pt_cmpR op_eq (pv 9) pe_str (nomark _)) pe_int pe_int))
      (pss_one (ps_ret (pe_tup (pa_cons (pe_tup (pa_cons (pe_ifExp (pt_cmpR op_eq (pv 9) pe_str (nomark _)) pe_str pe_str) (pa_cons (pe_tup (pa_cons (pe_def (cal__law_le T) (hr.mono (by omega)) (pa_cons (pv 7) (pa_cons (pv 8) (pa_cons (pv 10) pa_nil)))) (pa_cons (pe_def (cal__law_le T) (hr.mono (by omega)) (pa_cons (pv 8) (pa_cons (pv 7) (pa_cons (pv 10) pa_nil)))) pa_nil))) pa_nil))) (pa_cons (pv 3) pa_nil)))))) pss_nil)
      (pss_cons (ps_if (pt_cmpR op_inK (pv 9) (pe_tup (pa_cons pe_str (pa_cons pe_str pa_nil))) rfl) (pss_one (ps_par (i := 7) (j := 8) rfl sc__law_formula.nd rfl rfl  (by decide) rfl rfl  (pa_cons (pv 8) (pa_cons (pv 7) pa_nil)) rfl)) pss_nil)
      (pss_one (ps_ret (pe_tup (pa_cons (pe_def (cal__law_le T) (hr.mono (by omega)) (pa_cons (pv 7) (pa_cons (pv 8) (pa_cons (pe_ifExp (pt_cmpR op_inK (pv 9) (pe_tup (pa_cons pe_str (pa_cons pe_str pa_nil))) rfl) pe_int pe_int) pa_nil)))) (pa_cons (pv 3) pa_nil))))))))) pss_nil)
      (pss_cons (ps_if (pt_cmpR op_eq (pe_ix ix_tupK (pv 0) pe_int (fun _ _ => rfl)) pe_str (nomark _)) (pss_one (ps_ret (pe_tup (pa_cons (pe_tup (pa_cons (pe_ifExp (pt_val (pv 2)) pe_str pe_str) (pa_cons (pe_ix ix_tupK (pv 0) pe_int (fun _ _ => rfl)) (pa_cons (pe_def (cal__law_sum T 5) (hr.mono (by omega)) (pa_cons (pe_ix ix_tupK (pv 0) pe_int (fun _ _ => rfl)) (pa_cons (pv 1) pa_nil))) pa_nil)))) (pa_cons (pv 3) pa_nil))))) pss_nil)
      (pss_cons (ps_if (pt_cmpR op_eq (pe_ix ix_tupK (pv 0) pe_int (fun _ _ => rfl)) pe_str (nomark _)) (pss_one (ps_ret (pe_def ih (hr.mono (by omega)) (pa_cons (pe_ix ix_tupK (pv 0) pe_int (fun _ _ => rfl)) (pa_cons (pv 1) (pa_cons (pe_not (pv 2)) (pa_cons (pv 3) pa_nil))))))) pss_nil)
      (pss_cons (ps_if (pt_cmpR op_inK (pe_ix ix_tupK (pv 0) pe_int (fun _ _ => rfl)) (pe_tup (pa_cons pe_str (pa_cons pe_str pa_nil))) rfl) (pss_cons (ps_asg (pe_def ih (hr.mono (by omega)) (pa_cons (pe_ix ix_tupK (pv 0) pe_int (fun _ _ => rfl)) (pa_cons (pv 1) (pa_cons (pv 2) (pa_cons (pv 3) pa_nil))))) (pg_tup rfl (pgs_cons (pg_name (i := 7) sc__law_formula.nd rfl (by first | exact Or.inl rfl | exact Or.inr rfl)) (pgs_cons (pg_name (i := 6) sc__law_formula.nd rfl (by first | exact Or.inl rfl | exact Or.inr rfl)) pgs_nil))))
      (pss_cons (ps_asg (pe_def ih (hr.mono (by omega)) (pa_cons (pe_ix ix_tupK (pv 0) pe_int (fun _ _ => rfl)) (pa_cons (pv 1) (pa_cons (pv 2) (pa_cons (pv 6) pa_nil))))) (pg_tup rfl (pgs_cons (pg_name (i := 8) sc__law_formula.nd rfl (by first | exact Or.inl rfl | exact Or.inr rfl)) (pgs_cons (pg_name (i := 6) sc__law_formula.nd rfl (by first | exact Or.inl rfl | exact Or.inr rfl)) pgs_nil))))
      (pss_one (ps_ret (pe_tup (pa_cons (pe_tup (pa_cons (pe_ifExp (pt_val (pv 2)) (pe_dget (hu_of hr) (pe_disp (pps_cons pe_str pe_str (pps_cons pe_str pe_str pps_nil)) rfl rfl (by simp) (by decide)) (pe_ix ix_tupK (pv 0) pe_int (fun _ _ => rfl)) (fun _ _ => rfl)) (pe_ix ix_tupK (pv 0) pe_int (fun _ _ => rfl))) (pa_cons (pe_tup (pa_cons (pv 7) (pa_cons (pv 8) pa_nil))) pa_nil))) (pa_cons (pv 6) pa_nil))))))) pss_nil)
      (pss_cons (ps_set (i := 4) sc__law_formula.nd rfl (by first | exact Or.inl rfl | exact Or.inr rfl) (pe_callTy call_dictD rfl T.b_dict (by decide +kernel) (pa_cons (pv 1) pa_nil)))
      (pss_cons (ps_dput (hu_of hr) (pv 4) (pe_ix ix_tupK (pv 0) pe_int (fun _ _ => rfl)) (pv 3) rfl)
      (pss_cons (ps_asg (pe_def ih (hr.mono (by omega)) (pa_cons (pe_ix ix_tupK (pv 0) pe_int (fun _ _ => rfl)) (pa_cons (pv 4) (pa_cons (pv 2) (pa_cons (pe_op op_add (pv 3) pe_int) pa_nil))))) (pg_tup rfl (pgs_cons (pg_name (i := 5) sc__law_formula.nd rfl (by first | exact Or.inl rfl | exact Or.inr rfl)) (pgs_cons (pg_name (i := 6) sc__law_formula.nd rfl (by first | exact Or.inl rfl | exact Or.inr rfl)) pgs_nil))))
      (pss_one (ps_ret (pe_tup (pa_cons (pe_tup (pa_cons (pe_ifExp (pt_val (pv 2)) (pe_dget (hu_of hr) (pe_disp (pps_cons pe_str pe_str (pps_cons pe_str pe_str pps_nil)) rfl rfl (by simp) (by decide)) (pe_ix ix_tupK (pv 0) pe_int (fun _ _ => rfl)) (fun _ _ => rfl)) (pe_ix ix_tupK (pv 0) pe_int (fun _ _ => rfl))) (pa_cons (pv 3) (pa_cons (pv 5) pa_nil)))) (pa_cons (pv 6) pa_nil)))))))))))), ?_⟩)
  case len => intro vs H Q E h; obtain ⟨_, _, _, _, _, _, _, rfl, _⟩ := h; rfl
  obtain ⟨t, v, a, den, nx, ss, n, rfl, hv, hk, ht, hd, q⟩ := h
  cases t with
  | is wd ta tb =>
    obtain ⟨hw, h1, h2, h3, h4, h5⟩ := ht
    rcases hw with rfl | rfl | rfl | rfl | rfl | rfl
    · cases den
      · walk_at "lyJ"
        refine x_par3E ?_
        walk_at "lyR"
        refine ⟨ta, _, a, ss, n, rfl, by walk_at "lyD", hk, h1, h3, by omega, fun la ua H1 hla e1 hua => ?_⟩
        walk_at "lyR"
        refine ⟨tb, _, a, ss, n, rfl, by walk_at "lyD", by walk_at "lyK", h2, h4, by omega, fun lb ub H2 hlb e2 hub => ?_⟩
        walk_at "lyR"
        refine ⟨_, _, _, rfl, ?_⟩
        walk_at "lyR"
        walk_at "lyR"
        refine x_le la lb n (tmC ta) (tmC tb) (by walk_at "lyD") (by walk_at "lyD") hla hlb (by omega) fun l1 u1 H4 hl1 e4 hu1 => ?_
        walk_at "lyR"
        rename_i z H9 e9 hz9
        exact q (.le l1) _ _ _ (hl1.ok (by omega)) (Nat.zero_le _) (by walk_at "lyT") hz9
      · walk_at "lyJ"
        refine x_par3E ?_
        walk_at "lyR"
        refine ⟨ta, _, a, ss, n, rfl, by walk_at "lyD", hk, h1, h3, by omega, fun la ua H1 hla e1 hua => ?_⟩
        walk_at "lyR"
        refine ⟨tb, _, a, ss, n, rfl, by walk_at "lyD", by walk_at "lyK", h2, h4, by omega, fun lb ub H2 hlb e2 hub => ?_⟩
        walk_at "lyR"
        refine ⟨_, _, _, rfl, ?_⟩
        walk_at "lyR"
        refine x_dgd "<" ">=" [("<", ">="), ("<=", ">"), ("=", "!="), ("!=", "="), (">", "<="), (">=", "<")] (fun _ _ z => z) (by decide) (by decide +kernel) (fun H' C e z => x_var rfl z) fun H3 e3 => ?_
        walk_at "lyR"
        walk_at "lyR"
        refine x_le lb la n (tmC tb) (tmC ta) (by walk_at "lyD") (by walk_at "lyD") hlb hla (by omega) fun l1 u1 H4 hl1 e4 hu1 => ?_
        walk_at "lyR"
        rename_i z H9 e9 hz9
        exact q (.le l1) _ _ _ (hl1.ok (by omega)) (Nat.zero_le _) (by walk_at "lyT") hz9
    · cases den
      · walk_at "lyJ"
        refine x_par3E ?_
        walk_at "lyR"
        refine ⟨ta, _, a, ss, n, rfl, by walk_at "lyD", hk, h1, h3, by omega, fun la ua H1 hla e1 hua => ?_⟩
        walk_at "lyR"
        refine ⟨tb, _, a, ss, n, rfl, by walk_at "lyD", by walk_at "lyK", h2, h4, by omega, fun lb ub H2 hlb e2 hub => ?_⟩
        walk_at "lyR"
        refine ⟨_, _, _, rfl, ?_⟩
        walk_at "lyR"
        walk_at "lyR"
        refine x_le la lb n (tmC ta) (tmC tb) (by walk_at "lyD") (by walk_at "lyD") hla hlb (by omega) fun l1 u1 H4 hl1 e4 hu1 => ?_
        walk_at "lyR"
        rename_i z H9 e9 hz9
        exact q (.le l1) _ _ _ (hl1.ok (by omega)) (Nat.zero_le _) (by walk_at "lyT") hz9
      · walk_at "lyJ"
        refine x_par3E ?_
        walk_at "lyR"
        refine ⟨ta, _, a, ss, n, rfl, by walk_at "lyD", hk, h1, h3, by omega, fun la ua H1 hla e1 hua => ?_⟩
        walk_at "lyR"
        refine ⟨tb, _, a, ss, n, rfl, by walk_at "lyD", by walk_at "lyK", h2, h4, by omega, fun lb ub H2 hlb e2 hub => ?_⟩
        walk_at "lyR"
        refine ⟨_, _, _, rfl, ?_⟩
        walk_at "lyR"
        refine x_dgd "<=" ">" [("<", ">="), ("<=", ">"), ("=", "!="), ("!=", "="), (">", "<="), (">=", "<")] (fun _ _ z => z) (by decide) (by decide +kernel) (fun H' C e z => x_var rfl z) fun H3 e3 => ?_
        walk_at "lyR"
        walk_at "lyR"
        refine x_le lb la n (tmC tb) (tmC ta) (by walk_at "lyD") (by walk_at "lyD") hlb hla (by omega) fun l1 u1 H4 hl1 e4 hu1 => ?_
        walk_at "lyR"
        rename_i z H9 e9 hz9
        exact q (.le l1) _ _ _ (hl1.ok (by omega)) (Nat.zero_le _) (by walk_at "lyT") hz9
    · cases den
      · walk_at "lyJ"
        refine x_par3E ?_
        walk_at "lyR"
        refine ⟨ta, _, a, ss, n, rfl, by walk_at "lyD", hk, h1, h3, by omega, fun la ua H1 hla e1 hua => ?_⟩
        walk_at "lyR"
        refine ⟨tb, _, a, ss, n, rfl, by walk_at "lyD", by walk_at "lyK", h2, h4, by omega, fun lb ub H2 hlb e2 hub => ?_⟩
        walk_at "lyR"
        refine ⟨_, _, _, rfl, ?_⟩
        walk_at "lyR"
        refine x_le la lb n (tmC ta) (tmC tb) (by walk_at "lyD") (by walk_at "lyD") hla hlb h5 fun l1 u1 H4 hl1 e4 hu1 => ?_
        walk_at "lyR"
        refine x_le lb la n (tmC tb) (tmC ta) (by walk_at "lyD") (by walk_at "lyD") hlb hla (by omega) fun l2 u2 H5 hl2 e5 hu2 => ?_
        walk_at "lyR"
        rename_i z H9 e9 hz9
        exact q (.both (.le l1) (.le l2)) _ _ _ ⟨hl1.ok h5, hl2.ok (by omega)⟩ (Nat.le_refl _) (by walk_at "lyT") hz9
      · walk_at "lyJ"
        refine x_par3E ?_
        walk_at "lyR"
        refine ⟨ta, _, a, ss, n, rfl, by walk_at "lyD", hk, h1, h3, by omega, fun la ua H1 hla e1 hua => ?_⟩
        walk_at "lyR"
        refine ⟨tb, _, a, ss, n, rfl, by walk_at "lyD", by walk_at "lyK", h2, h4, by omega, fun lb ub H2 hlb e2 hub => ?_⟩
        walk_at "lyR"
        refine ⟨_, _, _, rfl, ?_⟩
        walk_at "lyR"
        refine x_dgd "=" "!=" [("<", ">="), ("<=", ">"), ("=", "!="), ("!=", "="), (">", "<="), (">=", "<")] (fun _ _ z => z) (by decide) (by decide +kernel) (fun H' C e z => x_var rfl z) fun H3 e3 => ?_
        walk_at "lyR"
        refine x_le la lb n (tmC ta) (tmC tb) (by walk_at "lyD") (by walk_at "lyD") hla hlb h5 fun l1 u1 H4 hl1 e4 hu1 => ?_
        walk_at "lyR"
        refine x_le lb la n (tmC tb) (tmC ta) (by walk_at "lyD") (by walk_at "lyD") hlb hla (by omega) fun l2 u2 H5 hl2 e5 hu2 => ?_
        walk_at "lyR"
        rename_i z H9 e9 hz9
        exact q (.one (.le l1) (.le l2)) _ _ _ ⟨hl1.ok h5, hl2.ok (by omega)⟩ (Nat.le_refl _) (by walk_at "lyT") hz9
    · cases den
      · walk_at "lyJ"
        refine x_par3E ?_
        walk_at "lyR"
        refine ⟨ta, _, a, ss, n, rfl, by walk_at "lyD", hk, h1, h3, by omega, fun la ua H1 hla e1 hua => ?_⟩
        walk_at "lyR"
        refine ⟨tb, _, a, ss, n, rfl, by walk_at "lyD", by walk_at "lyK", h2, h4, by omega, fun lb ub H2 hlb e2 hub => ?_⟩
        walk_at "lyR"
        refine ⟨_, _, _, rfl, ?_⟩
        walk_at "lyR"
        refine x_le la lb n (tmC ta) (tmC tb) (by walk_at "lyD") (by walk_at "lyD") hla hlb h5 fun l1 u1 H4 hl1 e4 hu1 => ?_
        walk_at "lyR"
        refine x_le lb la n (tmC tb) (tmC ta) (by walk_at "lyD") (by walk_at "lyD") hlb hla (by omega) fun l2 u2 H5 hl2 e5 hu2 => ?_
        walk_at "lyR"
        rename_i z H9 e9 hz9
        exact q (.one (.le l1) (.le l2)) _ _ _ ⟨hl1.ok h5, hl2.ok (by omega)⟩ (Nat.le_refl _) (by walk_at "lyT") hz9
      · walk_at "lyJ"
        refine x_par3E ?_
        walk_at "lyR"
        refine ⟨ta, _, a, ss, n, rfl, by walk_at "lyD", hk, h1, h3, by omega, fun la ua H1 hla e1 hua => ?_⟩
        walk_at "lyR"
        refine ⟨tb, _, a, ss, n, rfl, by walk_at "lyD", by walk_at "lyK", h2, h4, by omega, fun lb ub H2 hlb e2 hub => ?_⟩
        walk_at "lyR"
        refine ⟨_, _, _, rfl, ?_⟩
        walk_at "lyR"
        refine x_dgd "!=" "=" [("<", ">="), ("<=", ">"), ("=", "!="), ("!=", "="), (">", "<="), (">=", "<")] (fun _ _ z => z) (by decide) (by decide +kernel) (fun H' C e z => x_var rfl z) fun H3 e3 => ?_
        walk_at "lyR"
        refine x_le la lb n (tmC ta) (tmC tb) (by walk_at "lyD") (by walk_at "lyD") hla hlb h5 fun l1 u1 H4 hl1 e4 hu1 => ?_
        walk_at "lyR"
        refine x_le lb la n (tmC tb) (tmC ta) (by walk_at "lyD") (by walk_at "lyD") hlb hla (by omega) fun l2 u2 H5 hl2 e5 hu2 => ?_
        walk_at "lyR"
        rename_i z H9 e9 hz9
        exact q (.both (.le l1) (.le l2)) _ _ _ ⟨hl1.ok h5, hl2.ok (by omega)⟩ (Nat.le_refl _) (by walk_at "lyT") hz9
    · cases den
      · walk_at "lyJ"
        refine x_par3E ?_
        walk_at "lyR"
        refine ⟨ta, _, a, ss, n, rfl, by walk_at "lyD", hk, h1, h3, by omega, fun la ua H1 hla e1 hua => ?_⟩
        walk_at "lyR"
        refine ⟨tb, _, a, ss, n, rfl, by walk_at "lyD", by walk_at "lyK", h2, h4, by omega, fun lb ub H2 hlb e2 hub => ?_⟩
        walk_at "lyR"
        refine ⟨_, _, _, rfl, ?_⟩
        walk_at "lyR"
        walk_at "lyR"
        refine x_le lb la n (tmC tb) (tmC ta) (by walk_at "lyD") (by walk_at "lyD") hlb hla (by omega) fun l1 u1 H4 hl1 e4 hu1 => ?_
        walk_at "lyR"
        rename_i z H9 e9 hz9
        exact q (.le l1) _ _ _ (hl1.ok (by omega)) (Nat.zero_le _) (by walk_at "lyT") hz9
      · walk_at "lyJ"
        refine x_par3E ?_
        walk_at "lyR"
        refine ⟨ta, _, a, ss, n, rfl, by walk_at "lyD", hk, h1, h3, by omega, fun la ua H1 hla e1 hua => ?_⟩
        walk_at "lyR"
        refine ⟨tb, _, a, ss, n, rfl, by walk_at "lyD", by walk_at "lyK", h2, h4, by omega, fun lb ub H2 hlb e2 hub => ?_⟩
        walk_at "lyR"
        refine ⟨_, _, _, rfl, ?_⟩
        walk_at "lyR"
        refine x_dgd ">" "<=" [("<", ">="), ("<=", ">"), ("=", "!="), ("!=", "="), (">", "<="), (">=", "<")] (fun _ _ z => z) (by decide) (by decide +kernel) (fun H' C e z => x_var rfl z) fun H3 e3 => ?_
        walk_at "lyR"
        walk_at "lyR"
        refine x_le la lb n (tmC ta) (tmC tb) (by walk_at "lyD") (by walk_at "lyD") hla hlb (by omega) fun l1 u1 H4 hl1 e4 hu1 => ?_
        walk_at "lyR"
        rename_i z H9 e9 hz9
        exact q (.le l1) _ _ _ (hl1.ok (by omega)) (Nat.zero_le _) (by walk_at "lyT") hz9
    · cases den
      · walk_at "lyJ"
        refine x_par3E ?_
        walk_at "lyR"
        refine ⟨ta, _, a, ss, n, rfl, by walk_at "lyD", hk, h1, h3, by omega, fun la ua H1 hla e1 hua => ?_⟩
        walk_at "lyR"
        refine ⟨tb, _, a, ss, n, rfl, by walk_at "lyD", by walk_at "lyK", h2, h4, by omega, fun lb ub H2 hlb e2 hub => ?_⟩
        walk_at "lyR"
        refine ⟨_, _, _, rfl, ?_⟩
        walk_at "lyR"
        walk_at "lyR"
        refine x_le lb la n (tmC tb) (tmC ta) (by walk_at "lyD") (by walk_at "lyD") hlb hla (by omega) fun l1 u1 H4 hl1 e4 hu1 => ?_
        walk_at "lyR"
        rename_i z H9 e9 hz9
        exact q (.le l1) _ _ _ (hl1.ok (by omega)) (Nat.zero_le _) (by walk_at "lyT") hz9
      · walk_at "lyJ"
        refine x_par3E ?_
        walk_at "lyR"
        refine ⟨ta, _, a, ss, n, rfl, by walk_at "lyD", hk, h1, h3, by omega, fun la ua H1 hla e1 hua => ?_⟩
        walk_at "lyR"
        refine ⟨tb, _, a, ss, n, rfl, by walk_at "lyD", by walk_at "lyK", h2, h4, by omega, fun lb ub H2 hlb e2 hub => ?_⟩
        walk_at "lyR"
        refine ⟨_, _, _, rfl, ?_⟩
        walk_at "lyR"
        refine x_dgd ">=" "<" [("<", ">="), ("<=", ">"), ("=", "!="), ("!=", "="), (">", "<="), (">=", "<")] (fun _ _ z => z) (by decide) (by decide +kernel) (fun H' C e z => x_var rfl z) fun H3 e3 => ?_
        walk_at "lyR"
        walk_at "lyR"
        refine x_le la lb n (tmC ta) (tmC tb) (by walk_at "lyD") (by walk_at "lyD") hla hlb (by omega) fun l1 u1 H4 hl1 e4 hu1 => ?_
        walk_at "lyR"
        rename_i z H9 e9 hz9
        exact q (.le l1) _ _ _ (hl1.ok (by omega)) (Nat.zero_le _) (by walk_at "lyT") hz9
  | into k ta =>
    obtain ⟨k0, k1, h2, h3, h4⟩ := ht
    cases den
    · walk_at "lyJ"
      refine ⟨ta, _, a, ss, n, rfl, by walk_at "lyD", by walk_at "lyK", h2, h3, by omega, fun la ua H1 hla e1 hua => ?_⟩
      walk_at "lyR"
      rename_i z H9 e9 hz9
      exact q (.into k la) _ _ _ ⟨k0, k1, hla.ok h4⟩ (Nat.zero_le _) (by walk_at "lyT") hz9
    · walk_at "lyJ"
      refine ⟨ta, _, a, ss, n, rfl, by walk_at "lyD", by walk_at "lyK", h2, h3, by omega, fun la ua H1 hla e1 hua => ?_⟩
      walk_at "lyR"
      rename_i z H9 e9 hz9
      exact q (.off k la) _ _ _ ⟨k0, k1, hla.ok h4⟩ (Nat.zero_le _) (by walk_at "lyT") hz9
  | not f =>
    have hd' : trD f + 1 ≤ d := hd
    walk_at "lyJ"
    refine ⟨f, _, a, _, nx, ss, n, rfl, by walk_at "lyD", hk, ht, hd', fun g u k H1 hg1 hg2 e1 hu => ?_⟩
    exact q g _ _ _ hg1 (Nat.le_succ_of_le hg2) e1 hu
  | both f g =>
    obtain ⟨h1, h2⟩ := ht
    have hd' : max (trD f) (trD g) + 1 ≤ d := hd
    cases den
    · walk_at "lyJ"
      refine ⟨f, _, a, _, nx, ss, n, rfl, by walk_at "lyD", by walk_at "lyK", h1, by omega, fun g1 u1 k1 H1 a1 a2 e1 hu1 => ?_⟩
      walk_at "lyR"
      refine x_gtup2 hu1 fun v1 v2 m1 m2 => ?_
      obtain rfl := Dp.int_inv m2
      walk_at "lyR"
      refine ⟨g, _, a, _, k1, ss, n, rfl, by walk_at "lyD", by walk_at "lyK", h2, by omega, fun g2 u2 k2 H2 b1 b2 e2 hu2 => ?_⟩
      walk_at "lyR"
      refine x_gtup2 hu2 fun v3 v4 m3 m4 => ?_
      obtain rfl := Dp.int_inv m4
      walk_at "lyR"
      rename_i z H9 e9 hz9
      refine q (.both g1 g2) _ _ _ ⟨a1, b1⟩ ?_ (by walk_at "lyT") hz9
      show max g1.deep g2.deep + 1 ≤ max (trD f) (trD g) + 1 + 1
      omega
    · walk_at "lyJ"
      refine ⟨f, _, a, _, nx, ss, n, rfl, by walk_at "lyD", by walk_at "lyK", h1, by omega, fun g1 u1 k1 H1 a1 a2 e1 hu1 => ?_⟩
      walk_at "lyR"
      refine x_gtup2 hu1 fun v1 v2 m1 m2 => ?_
      obtain rfl := Dp.int_inv m2
      walk_at "lyR"
      refine ⟨g, _, a, _, k1, ss, n, rfl, by walk_at "lyD", by walk_at "lyK", h2, by omega, fun g2 u2 k2 H2 b1 b2 e2 hu2 => ?_⟩
      walk_at "lyR"
      refine x_gtup2 hu2 fun v3 v4 m3 m4 => ?_
      obtain rfl := Dp.int_inv m4
      walk_at "lyR"
      refine x_dgd "and" "or" [("and", "or"), ("or", "and")] (fun _ _ z => z) (by decide) (by decide +kernel) (fun H' C e z => ?_) fun H3 e3 => ?_
      · walk_at "lyR"
        exact z
      walk_at "lyR"
      rename_i z H9 e9 hz9
      refine q (.one g1 g2) _ _ _ ⟨a1, b1⟩ ?_ (by walk_at "lyT") hz9
      show max g1.deep g2.deep + 1 ≤ max (trD f) (trD g) + 1 + 1
      omega
  | one f g =>
    obtain ⟨h1, h2⟩ := ht
    have hd' : max (trD f) (trD g) + 1 ≤ d := hd
    cases den
    · walk_at "lyJ"
      refine ⟨f, _, a, _, nx, ss, n, rfl, by walk_at "lyD", by walk_at "lyK", h1, by omega, fun g1 u1 k1 H1 a1 a2 e1 hu1 => ?_⟩
      walk_at "lyR"
      refine x_gtup2 hu1 fun v1 v2 m1 m2 => ?_
      obtain rfl := Dp.int_inv m2
      walk_at "lyR"
      refine ⟨g, _, a, _, k1, ss, n, rfl, by walk_at "lyD", by walk_at "lyK", h2, by omega, fun g2 u2 k2 H2 b1 b2 e2 hu2 => ?_⟩
      walk_at "lyR"
      refine x_gtup2 hu2 fun v3 v4 m3 m4 => ?_
      obtain rfl := Dp.int_inv m4
      walk_at "lyR"
      rename_i z H9 e9 hz9
      refine q (.one g1 g2) _ _ _ ⟨a1, b1⟩ ?_ (by walk_at "lyT") hz9
      show max g1.deep g2.deep + 1 ≤ max (trD f) (trD g) + 1 + 1
      omega
    · walk_at "lyJ"
      refine ⟨f, _, a, _, nx, ss, n, rfl, by walk_at "lyD", by walk_at "lyK", h1, by omega, fun g1 u1 k1 H1 a1 a2 e1 hu1 => ?_⟩
      walk_at "lyR"
      refine x_gtup2 hu1 fun v1 v2 m1 m2 => ?_
      obtain rfl := Dp.int_inv m2
      walk_at "lyR"
      refine ⟨g, _, a, _, k1, ss, n, rfl, by walk_at "lyD", by walk_at "lyK", h2, by omega, fun g2 u2 k2 H2 b1 b2 e2 hu2 => ?_⟩
      walk_at "lyR"
      refine x_gtup2 hu2 fun v3 v4 m3 m4 => ?_
      obtain rfl := Dp.int_inv m4
      walk_at "lyR"
      refine x_dgd "or" "and" [("and", "or"), ("or", "and")] (fun _ _ z => z) (by decide) (by decide +kernel) (fun H' C e z => ?_) fun H3 e3 => ?_
      · walk_at "lyR"
        exact z
      walk_at "lyR"
      rename_i z H9 e9 hz9
      refine q (.both g1 g2) _ _ _ ⟨a1, b1⟩ ?_ (by walk_at "lyT") hz9
      show max g1.deep g2.deep + 1 ≤ max (trD f) (trD g) + 1 + 1
      omega
theorem cal__law_formula (T : Top K w mg) : ∀ d, Cal P w K mg base "_law_formula" ["f", "known", "is_denied", "next_one"] (d + 10) (sp_formula d K)
  | 0 => by
    refine formula_step T 0 ?_
    obtain ⟨f, fd, hm, F⟩ := T.f__law_formula
    refine ⟨f, fd, hm, F.kp, F.binds (fun _ _ _ _ _ _ us hl => match us, hl with | [_, _, _, _], _ => rfl), fun vs H Q E h => ?_, fun A outer s H args us vs Q E hr he hb hv h => ?_⟩
    · obtain ⟨_, _, _, _, _, _, _, _, _, _, _, h, _⟩ := h
      exact absurd h (Nat.not_lt_zero _)
    · obtain ⟨_, _, _, _, _, _, _, _, _, _, _, h, _⟩ := h
      exact absurd h (Nat.not_lt_zero _)
  | d + 1 => formula_step T (d + 1) ((cal__law_formula T d).imp fun vs H Q E ⟨t, v, a, den, nx, ss, n, h1, h2, h3, h4, h5, h6⟩ => ⟨t, v, a, den, nx, ss, n, h1, h2, h3, h4, Nat.le_of_lt_succ h5, h6⟩)
end
end K85

/-! ### text T12 -/
namespace K85
open PySem PySem.Spec PyProof.Rows L2 Lay

end K85
/-! ### macros MacE -/
local macro_rules | `(tactic| walk_at "lyIm") => `(tactic| simp only [im, ims, im_T, im_L, im_F, im_V, im_P, im_P1, ims_T, ims_Ls, ims_P, im_X, ims_ints, ims_kinds, im_Tm, im_Tr, im_D, ims_Ps, Bool.and_self, Bool.and_true])
namespace K85
open PySem PySem.Spec PyProof.Rows L2 Lay RZ

section
variable {P : Program} {w : World} {K : PySem.W.Frag} {mg : Str → Option Value} {base : Heap}
theorem x_sl {te : TE} {tl th : TO} {r : V → Option Int → Option Int → Hp → VK → Prop} {σ : L2.St} {H : Hp} {Q : VK} (q : te σ H fun x H1 => tl σ H1 fun l H2 => th σ H2 fun u H3 => r x l u H3 Q) : tSl r te tl th σ H Q := q
theorem x_noPart {σ : L2.St} {H : Hp} {Q : Option Int → Hp → Prop} (q : Q none H) : tNoPart σ H Q := q
theorem x_part {te : TE} {σ : L2.St} {H : Hp} {Q : Option Int → Hp → Prop} (q : te σ H fun x H1 => ∃ i, x = .int i ∧ Q (some i) H1) : tPart te σ H Q := q
def sp_n (K : PySem.W.Frag) : Sp := fun vs H Q _ => ∃ m : Int, vs = [.int m] ∧ ∀ u H', Ex H H' → Dp K H' u (eTm (.num m)) → Q u H'
theorem cal__law_n (T : Top K w mg) : Cal P w K mg base "_law_n" ["number"] 1 (sp_n K) := by
  refine cal_of T.f__law_n sc__law_n ?len (fun _ _ _ _ _ _ us hl => match us, hl with | [_], _ => rfl) (fun f cdv A outer s H vs Q E hr h => ⟨_, (pss_one (ps_ret (pe_tup (pa_cons pe_str (pa_cons (pv 0) pa_nil))))), ?_⟩)
  case len => intro vs H Q E h; obtain ⟨_, rfl, _⟩ := h; rfl
  obtain ⟨m, rfl, q⟩ := h
  walk_at "lyJ"
  exact q _ _ (by walk_at "lyT") (by walk_at "lyD")
def sp_v (K : PySem.W.Frag) : Sp := fun vs H Q _ => ∃ s : Str, vs = [.str s] ∧ ∀ u H', Ex H H' → Dp K H' u (eTm (.nam s)) → Q u H'
theorem cal__law_v (T : Top K w mg) : Cal P w K mg base "_law_v" ["name"] 1 (sp_v K) := by
  refine cal_of T.f__law_v sc__law_v ?len (fun _ _ _ _ _ _ us hl => match us, hl with | [_], _ => rfl) (fun f cdv A outer s H vs Q E hr h => ⟨_, (pss_one (ps_ret (pe_tup (pa_cons pe_str (pa_cons (pv 0) pa_nil))))), ?_⟩)
  case len => intro vs H Q E h; obtain ⟨_, rfl, _⟩ := h; rfl
  obtain ⟨m, rfl, q⟩ := h
  walk_at "lyJ"
  exact q _ _ (by walk_at "lyT") (by walk_at "lyD")
def eNs (ss : List Str) : List PyData := ss.map PyData.str
def sp_term (K : PySem.W.Frag) : Sp := fun vs H Q _ => ∃ (p : Addr) (nv : V) (most : Int) (ss : List Str), vs = [.ref p, nv, .int most] ∧ PotAt H p ∧ LsV K H p nv (eNs ss) ∧ ss.length ≤ 3 ∧ 1 ≤ most ∧ most ≤ 2 ∧
  ∀ t u H', TmOk ss t → tmD t ≤ 4 → tmC t ≤ 9 → R [p] H H' → PotAt H' p → Dp K H' u (eTm t) → Q u H'
theorem cal__law_term (T : Top K w mg) : Cal P w K mg base "_law_term" ["pot", "names", "most"] 2 (sp_term K) := by
  refine cal_of T.f__law_term sc__law_term ?len (fun _ _ _ _ _ _ us hl => match us, hl with | [_, _, _], _ => rfl) (fun f cdv A outer s H vs Q E hr h => ⟨_, (pss_cons (ps_set (i := 3) sc__law_term.nd rfl (by first | exact Or.inl rfl | exact Or.inr rfl) (pe_def (cal__law_n T) (hr.mono (by omega)) (pa_cons (pe_op op_sub (pe_def (cal__law_draw T) (hr.mono (by omega)) (pa_cons (pv 0) (pa_cons pe_int pa_nil))) pe_int) pa_nil)))
      (pss_cons (ps_for PassesOwn.never rfl (pi_list (pv 1)) (pg_name (i := 4) sc__law_term.nd rfl (by first | exact Or.inl rfl | exact Or.inr rfl)) (pss_cons (ps_set (i := 5) sc__law_term.nd rfl (by first | exact Or.inl rfl | exact Or.inr rfl) (pe_op op_sub (pe_def (cal__law_draw T) (hr.mono (by omega)) (pa_cons (pv 0) (pa_cons (pe_op op_add (pe_op op_mul pe_int (pv 2)) pe_int) pa_nil))) (pv 2)))
      (pss_one (ps_if (pt_cmpR op_eq (pv 5) pe_int (nomark _)) (pss_one (ps_set (i := 3) sc__law_term.nd rfl (by first | exact Or.inl rfl | exact Or.inr rfl) (pe_tup (pa_cons pe_str (pa_cons (pv 3) (pa_cons (pe_def (cal__law_v T) (hr.mono (by omega)) (pa_cons (pv 4) pa_nil)) pa_nil)))))) (pss_one (ps_if (pt_cmpR op_eq (pv 5) (pe_un un_neg pe_int) (nomark _)) (pss_one (ps_set (i := 3) sc__law_term.nd rfl (by first | exact Or.inl rfl | exact Or.inr rfl) (pe_tup (pa_cons pe_str (pa_cons (pv 3) (pa_cons (pe_def (cal__law_v T) (hr.mono (by omega)) (pa_cons (pv 4) pa_nil)) pa_nil)))))) (pss_one (ps_if (pt_cmpR op_ne (pv 5) pe_int (nomark _)) (pss_one (ps_set (i := 3) sc__law_term.nd rfl (by first | exact Or.inl rfl | exact Or.inr rfl) (pe_tup (pa_cons pe_str (pa_cons (pv 3) (pa_cons (pe_tup (pa_cons pe_str (pa_cons (pv 5) (pa_cons (pe_def (cal__law_v T) (hr.mono (by omega)) (pa_cons (pv 4) pa_nil)) pa_nil)))) pa_nil)))))) pss_nil))))))))
      (pss_one (ps_ret (pv 3))))), ?_⟩)
  case len => intro vs H Q E h; obtain ⟨_, _, _, _, rfl, _⟩ := h; rfl
  obtain ⟨p, nv, most, ss, rfl, hp, hn, hl, m1, m2, q⟩ := h
  walk_at "lyJ"
  rename_i d1 H1 d0 d9 r1 p1
  refine ⟨_, rfl, fun u H2 e2 hu => ?_⟩
  walk_at "lyR"
  have r2 : R [p] H H2 := by walk_at "lyT"
  have hn2 := hn.r r2
  obtain ⟨a, xs, rfl, q1, q2⟩ := Dp.lst_inv hn2.1
  have na : a ≠ p := fun z => hn2.2.1 (by rw [z])
  refine ⟨a, rfl, ⟨xs, q1⟩, ?_⟩
  refine x_forL (M := [p]) q1 (by simpa using na) q2 hn.2.2 (fun i σ' H' => R [p] H2 H' ∧ PotAt H' p ∧ ∃ t u x4 x5, Dp K H' u (eTm t) ∧ TmOk ss t ∧ tmD t ≤ i + 1 ∧ tmC t ≤ 3 * i ∧ σ' = [some (.ref p), some (.ref a), some (.int most), some u, x4, x5])
    ⟨R.refl _, by walk_at "lyP", _, u, none, none, hu, trivial, Nat.zero_le _, Nat.le_refl _, rfl⟩ (fun i σ' H' h => h.1) ?_ ?_
  · intro i x σ' H3 hi hW hx
    obtain ⟨r3, p3, t, u, x4, x5, g1, g2, g3, g4, rfl⟩ := hW
    have hi' : i < ss.length := by simpa [eNs] using hi
    have ei := List.getElem?_eq_getElem hi'
    have hx' : Dp K H3 x (.str ss[i]) := by
      have := hx
      rw [show (eNs ss).getD i .none = .str ss[i] from getD_map (enc := PyData.str) ei] at this
      exact this
    obtain rfl := Dp.str_inv hx'
    have hs : ss[i] ∈ ss := List.getElem_mem hi'
    walk_at "lyR"
    refine x_I (Or.inl ⟨by decide, by decide⟩) ?_
    walk_at "lyR"
    rename_i d H4 e0 e1 r4 p4
    by_cases c1 : d - most = 1
    · refine x_ifdT c1 ?_
      walk_at "lyR"
      refine ⟨_, rfl, fun u5 H5 e5 hu5 => ?_⟩
      walk_at "lyR"
      rename_i z H9 e9 hz9
      exact ⟨by walk_at "lyT", by walk_at "lyP", .plus t (.nam ss[i]), z, _, _, hz9, ⟨g2, hs⟩, by show max (tmD t) 0 + 1 ≤ _; omega, by show tmC t + 1 ≤ _; omega, rfl⟩
    · refine x_ifdF c1 ?_
      walk_at "lyR"
      by_cases c2 : d - most = -1
      · refine x_ifdT c2 ?_
        walk_at "lyR"
        refine ⟨_, rfl, fun u5 H5 e5 hu5 => ?_⟩
        walk_at "lyR"
        rename_i z H9 e9 hz9
        exact ⟨by walk_at "lyT", by walk_at "lyP", .less t (.nam ss[i]), z, _, _, hz9, ⟨g2, hs⟩, by show max (tmD t) 0 + 1 ≤ _; omega, by show tmC t + 1 ≤ _; omega, rfl⟩
      · refine x_ifdF c2 ?_
        walk_at "lyR"
        by_cases c3 : d - most = 0
        · refine x_ifnT c3 ?_
          walk_at "lyR"
          exact ⟨by walk_at "lyT", by walk_at "lyP", t, u, _, _, by walk_at "lyD", g2, by omega, by omega, rfl⟩
        · refine x_ifnF c3 ?_
          walk_at "lyR"
          refine ⟨_, rfl, fun u5 H5 e5 hu5 => ?_⟩
          walk_at "lyR"
          rename_i z H9 e9 hz9
          refine ⟨by walk_at "lyT", by walk_at "lyP", .plus t (.tim (d - most) (.nam ss[i])), z, _, _, hz9, ⟨g2, ⟨by omega, by omega⟩, hs⟩, ?_, ?_, rfl⟩
          · show max (tmD t) (0 + 1) + 1 ≤ _
            omega
          · show tmC t + 1 * (d - most).natAbs ≤ _
            omega
  · intro σ' H3 hW
    obtain ⟨r3, p3, t, u, x4, x5, g1, g2, g3, g4, rfl⟩ := hW
    have hl2 : (eNs ss).length = ss.length := List.length_map ..
    rw [hl2] at g3 g4
    walk_at "lyR"
    exact q t _ _ g2 (by omega) (by omega) (by walk_at "lyT") p3 g1
end
end K85

/-! ### text T13 -/
namespace K85
open PySem PySem.Spec PyProof.Rows L2 Lay

section
variable {P : Program} {w : World} {K : PySem.W.Frag} {mg : Str → Option Value} {base : Heap}
theorem x_term {H : Hp} {Q : VK} {E : XK} {p : Addr} {nv : V} {most : Int} (ss : List Str) (hp : PotAt H p) (hn : LsV K H p nv (eNs ss)) (hl : ss.length ≤ 3) (m1 : 1 ≤ most) (m2 : most ≤ 2)
    (q : ∀ t u H', TmOk ss t → tmD t ≤ 4 → tmC t ≤ 9 → R [p] H H' → PotAt H' p → Dp K H' u (eTm t) → Q u H') : sp_term K [.ref p, nv, .int most] H Q E := ⟨p, nv, most, ss, rfl, hp, hn, hl, m1, m2, q⟩
theorem TmOk.mono {ss tt : List Str} (h : ∀ s ∈ ss, s ∈ tt) : ∀ {t : Tm}, TmOk ss t → TmOk tt t
  | .num _, _ => trivial
  | .nam _, x => h _ x
  | .plus _ _, x => ⟨TmOk.mono h x.1, TmOk.mono h x.2⟩
  | .less _ _, x => ⟨TmOk.mono h x.1, TmOk.mono h x.2⟩
  | .tim _ _, x => ⟨x.1, TmOk.mono h x.2⟩
def nx : Str := "x"
def ny : Str := "y"
def nz : Str := "z"
def Ss (ss : List Str) : Prop := ss = [nx] ∨ ss = [nx, ny] ∨ ss = [nx, ny, nz]
theorem Ss.len {ss : List Str} (h : Ss ss) : ss.length ≤ 3 := by rcases h with h | h | h <;> (subst h; decide)
theorem cut1 {ss : List Str} (h : Ss ss) : cutV (ss.map V.str) none (some 1) = [V.str nx] := by rcases h with h | h | h <;> (subst h; decide +kernel)
theorem x_in1 {ss : List Str} (h : Ss ss) : ∀ s ∈ [nx], s ∈ ss := by rcases h with h | h | h <;> (subst h; simp)
def sp_atomL (K : PySem.W.Frag) : Sp := fun vs H Q _ => ∃ (p : Addr) (nv : V) (ss : List Str), vs = [.ref p, nv, .int 2] ∧ PotAt H p ∧ LsV K H p nv (eNs ss) ∧ Ss ss ∧
  ∀ t u H', TrOk ss t → trD t = 0 → R [p] H H' → PotAt H' p → Dp K H' u (eTr t) → Q u H'
theorem cal__law_atom (T : Top K w mg) : Cal P w K mg base "_law_atom" ["pot", "names", "most"] 3 (sp_atomL K) := by
  refine cal_of T.f__law_atom sc__law_atom ?len (fun _ _ _ _ _ _ us hl => match us, hl with | [_, _, _], _ => rfl) (fun f cdv A outer s H vs Q E hr h => ⟨_, (pss_cons (ps_if (pt_cmpR op_eq (pe_def (cal__law_draw T) (hr.mono (by omega)) (pa_cons (pv 0) (pa_cons pe_int pa_nil))) pe_int (nomark _)) (pss_one (ps_ret (pe_tup (pa_cons pe_str (pa_cons (pe_op op_add pe_int (pe_def (cal__law_draw T) (hr.mono (by omega)) (pa_cons (pv 0) (pa_cons pe_int pa_nil)))) (pa_cons (pe_def (cal__law_term T) (hr.mono (by omega)) (pa_cons (pv 0) (pa_cons (pv 1) (pa_cons (pv 2) pa_nil)))) pa_nil)))))) pss_nil)
      (pss_one (ps_ret (pe_tup (pa_cons pe_str (pa_cons (pe_def (cal__law_pick T) (hr.mono (by omega)) (pa_cons (pv 0) (pa_cons (pe_lst (pa_cons pe_str (pa_cons pe_str (pa_cons pe_str (pa_cons pe_str (pa_cons pe_str (pa_cons pe_str pa_nil))))))) pa_nil))) (pa_cons (pe_def (cal__law_term T) (hr.mono (by omega)) (pa_cons (pv 0) (pa_cons (pv 1) (pa_cons (pv 2) pa_nil)))) (pa_cons (pe_def (cal__law_term T) (hr.mono (by omega)) (pa_cons (pv 0) (pa_cons (pe_slice sl_list (pv 1) po_none (po_some pe_int)) (pa_cons pe_int pa_nil)))) pa_nil)))))))), ?_⟩)
  case len => intro vs H Q E h; obtain ⟨_, _, _, rfl, _⟩ := h; rfl
  obtain ⟨p, nv, ss, rfl, hp, hn, hs, q⟩ := h
  walk_at "lyJ"
  rename_i d1 H1 d0 d9 r1 p1
  by_cases c1 : d1 = 0
  · refine x_ifdT c1 ?_
    walk_at "lyR"
    rename_i d2 H2 e0 e1 r2 p2
    refine x_term ss (by walk_at "lyP") ((hn.r r1).r r2) hs.len (by decide) (by decide) fun t u H3 h1 h2 h3 r3 p3 hu => ?_
    walk_at "lyR"
    rename_i z H9 e9 hz9
    exact q (.into (2 + d2) t) _ _ ⟨by omega, by omega, h1, by omega, by omega⟩ rfl (by walk_at "lyT") (by walk_at "lyP") hz9
  · refine x_ifdF c1 ?_
    walk_at "lyR"
    rename_i d5 u5 H5 hm r5 p5 hu5
    have r15 : R [p] H H5 := by walk_at "lyT"
    have hn5 := hn.r r15
    have hw : ∃ wd : Str, d5 = .str wd ∧ Six wd := by
      have h' : d5 = .str "<" ∨ d5 = .str "<=" ∨ d5 = .str "=" ∨ d5 = .str "!=" ∨ d5 = .str ">" ∨ d5 = .str ">=" := by simpa using hm
      rcases h' with h | h | h | h | h | h
      · exact ⟨_, h, .inl rfl⟩
      · exact ⟨_, h, .inr (.inl rfl)⟩
      · exact ⟨_, h, .inr (.inr (.inl rfl))⟩
      · exact ⟨_, h, .inr (.inr (.inr (.inl rfl)))⟩
      · exact ⟨_, h, .inr (.inr (.inr (.inr (.inl rfl))))⟩
      · exact ⟨_, h, .inr (.inr (.inr (.inr (.inr rfl))))⟩
    obtain ⟨wd, rfl, h6⟩ := hw
    refine x_term ss p5 hn5 hs.len (by decide) (by decide) fun t u H6 h1 h2 h3 r6 p6 hu => ?_
    walk_at "lyR"
    refine x_sl ?_
    walk_at "lyR"
    refine x_noPart ?_
    refine x_part ?_
    walk_at "lyR"
    refine ⟨_, rfl, ?_⟩
    obtain ⟨a, xs, rfl, q1, q2⟩ := Dp.lst_inv (hn5.r r6).1
    obtain rfl := dps_strs q2
    refine ⟨a, _, rfl, q1, fun l hl => ?_⟩
    rw [cut1 hs]
    have e7 : Ex H6 (upd H6 l (.lst [V.str nx])) := R.new hl
    have hn7 : LsV K (upd H6 l (.lst [V.str nx])) p (.ref l) (eNs [nx]) := ⟨dp_lst upd_same (.cons (.str _) .nil), fresh_ne hl p6, rfl⟩
    walk_at "lyR"
    refine x_term [nx] (by walk_at "lyP") hn7 (by decide) (by decide) (by decide) fun t2 u2 H8 k1 k2 k3 r8 p8 hu2 => ?_
    walk_at "lyR"
    rename_i z H9 e9 hz9
    exact q (.is wd t t2) _ _ ⟨h6, h1, k1.mono (x_in1 hs), by omega, by omega, by omega⟩ rfl (by walk_at "lyT") (by walk_at "lyP") hz9
def sp_bare (d : Nat) (K : PySem.W.Frag) : Sp := fun vs H Q _ => ∃ (p : Addr) (nv : V) (ss : List Str), vs = [.ref p, nv, .int 2, .int d] ∧ PotAt H p ∧ LsV K H p nv (eNs ss) ∧ Ss ss ∧
  ∀ t u H', TrOk ss t → trD t ≤ d → R [p] H H' → PotAt H' p → Dp K H' u (eTr t) → Q u H'
theorem x_atm {H : Hp} {Q : VK} {E : XK} {p : Addr} {nv : V} {ss : List Str} (hp : PotAt H p) (hn : LsV K H p nv (eNs ss)) (hs : Ss ss) (q : ∀ t u H', TrOk ss t → trD t = 0 → R [p] H H' → PotAt H' p → Dp K H' u (eTr t) → Q u H') : sp_atomL K [.ref p, nv, .int 2] H Q E := ⟨p, nv, ss, rfl, hp, hn, hs, q⟩
theorem x_bare {H : Hp} {Q : VK} {E : XK} {p : Addr} {nv : V} {ss : List Str} {d : Nat} {x : Int} (hx : x = d) (hp : PotAt H p) (hn : LsV K H p nv (eNs ss)) (hs : Ss ss) (q : ∀ t u H', TrOk ss t → trD t ≤ d → R [p] H H' → PotAt H' p → Dp K H' u (eTr t) → Q u H') : sp_bare d K [.ref p, nv, .int 2, .int x] H Q E := by
  subst hx
  exact ⟨p, nv, ss, rfl, hp, hn, hs, q⟩
theorem bare0 (T : Top K w mg) : Cal P w K mg base "_law_bare" ["pot", "names", "most", "depth"] 4 (sp_bare 0 K) := by
  have ih : Cal P w K mg base "_law_bare" ["pot", "names", "most", "depth"] 3 (fun _ _ _ _ => False) := by
    obtain ⟨f, fd, hm, F⟩ := T.f__law_bare
    exact ⟨f, fd, hm, F.kp, F.binds (fun _ _ _ _ _ _ us hl => match us, hl with | [_, _, _, _], _ => rfl), fun _ _ _ _ h => h.elim, fun _ _ _ _ _ _ _ _ _ _ _ _ _ h => h.elim⟩
  refine cal_of T.f__law_bare sc__law_bare ?len (fun _ _ _ _ _ _ us hl => match us, hl with | [_, _, _, _], _ => rfl) (fun f cdv A outer s H vs Q E hr h => ⟨_, (pss_cons (ps_set (i := 4) sc__law_bare.nd rfl (by first | exact Or.inl rfl | exact Or.inr rfl) (pe_ifExp (pt_cmpR op_gt (pv 3) pe_int (nomark _)) (pe_def (cal__law_draw T) (hr.mono (by omega)) (pa_cons (pv 0) (pa_cons pe_int pa_nil))) pe_int))
      (pss_cons (ps_if (pt_cmpR op_lt (pv 4) pe_int (nomark _)) (pss_one (ps_ret (pe_def (cal__law_atom T) (hr.mono (by omega)) (pa_cons (pv 0) (pa_cons (pv 1) (pa_cons (pv 2) pa_nil)))))) pss_nil)
      (pss_cons (ps_if (pt_cmpR op_eq (pv 4) pe_int (nomark _)) (pss_one (ps_ret (pe_tup (pa_cons pe_str (pa_cons (pe_def ih (hr.mono (by omega)) (pa_cons (pv 0) (pa_cons (pv 1) (pa_cons (pv 2) (pa_cons (pe_op op_sub (pv 3) pe_int) pa_nil))))) pa_nil))))) pss_nil)
      (pss_one (ps_ret (pe_tup (pa_cons (pe_def (cal__law_pick T) (hr.mono (by omega)) (pa_cons (pv 0) (pa_cons (pe_lst (pa_cons pe_str (pa_cons pe_str pa_nil))) pa_nil))) (pa_cons (pe_def ih (hr.mono (by omega)) (pa_cons (pv 0) (pa_cons (pv 1) (pa_cons (pv 2) (pa_cons (pe_op op_sub (pv 3) pe_int) pa_nil))))) (pa_cons (pe_def ih (hr.mono (by omega)) (pa_cons (pv 0) (pa_cons (pv 1) (pa_cons (pv 2) (pa_cons (pe_op op_sub (pv 3) pe_int) pa_nil))))) pa_nil))))))))), ?_⟩)
  case len => intro vs H Q E h; obtain ⟨_, _, _, rfl, _⟩ := h; rfl
  obtain ⟨p, nv, ss, rfl, hp, hn, hs, q⟩ := h
  walk_at "lyJ"
  refine x_atm hp hn hs fun t u H3 h1 h2 r3 p3 hu => ?_
  exact q t _ _ h1 (Nat.le_of_eq h2) r3 p3 hu
theorem bareS (T : Top K w mg) (d : Nat) (ih : Cal P w K mg base "_law_bare" ["pot", "names", "most", "depth"] (d + 4) (sp_bare d K)) : Cal P w K mg base "_law_bare" ["pot", "names", "most", "depth"] (d + 5) (sp_bare (d + 1) K) := by
  refine cal_of T.f__law_bare sc__law_bare ?len (fun _ _ _ _ _ _ us hl => match us, hl with | [_, _, _, _], _ => rfl) (fun f cdv A outer s H vs Q E hr h => ⟨_, (pss_cons (ps_set (i := 4) sc__law_bare.nd rfl (by first | exact Or.inl rfl | exact Or.inr rfl) (pe_ifExp (pt_cmpR op_gt (pv 3) pe_int (nomark _)) (pe_def (cal__law_draw T) (hr.mono (by omega)) (pa_cons (pv 0) (pa_cons pe_int pa_nil))) pe_int))
      (pss_cons (ps_if (pt_cmpR op_lt (pv 4) pe_int (nomark _)) (pss_one (ps_ret (pe_def (cal__law_atom T) (hr.mono (by omega)) (pa_cons (pv 0) (pa_cons (pv 1) (pa_cons (pv 2) pa_nil)))))) pss_nil)
      (pss_cons (ps_if (pt_cmpR op_eq (pv 4) pe_int (nomark _)) (pss_one (ps_ret (pe_tup (pa_cons pe_str (pa_cons (pe_def ih (hr.mono (by omega)) (pa_cons (pv 0) (pa_cons (pv 1) (pa_cons (pv 2) (pa_cons (pe_op op_sub (pv 3) pe_int) pa_nil))))) pa_nil))))) pss_nil)
      (pss_one (ps_ret (pe_tup (pa_cons (pe_def (cal__law_pick T) (hr.mono (by omega)) (pa_cons (pv 0) (pa_cons (pe_lst (pa_cons pe_str (pa_cons pe_str pa_nil))) pa_nil))) (pa_cons (pe_def ih (hr.mono (by omega)) (pa_cons (pv 0) (pa_cons (pv 1) (pa_cons (pv 2) (pa_cons (pe_op op_sub (pv 3) pe_int) pa_nil))))) (pa_cons (pe_def ih (hr.mono (by omega)) (pa_cons (pv 0) (pa_cons (pv 1) (pa_cons (pv 2) (pa_cons (pe_op op_sub (pv 3) pe_int) pa_nil))))) pa_nil))))))))), ?_⟩)
  case len => intro vs H Q E h; obtain ⟨_, _, _, rfl, _⟩ := h; rfl
  obtain ⟨p, nv, ss, rfl, hp, hn, hs, q⟩ := h
  have c0 : ((d + 1 : Nat) : Int) > 0 := by omega
  have ed : ((d + 1 : Nat) : Int) - 1 = d := by omega
  walk_at "lyJ"
  refine x_ifdT c0 ?_
  walk_at "lyR"
  rename_i d1 H1 d0 d9 r1 p1
  have hn1 := hn.r r1
  by_cases c1 : d1 < 2
  · refine x_ifdT c1 ?_
    walk_at "lyR"
    refine x_atm p1 hn1 hs fun t u H3 h1 h2 r3 p3 hu => ?_
    exact q t _ _ h1 (by omega) (by walk_at "lyT") p3 hu
  · refine x_ifdF c1 ?_
    walk_at "lyR"
    by_cases c2 : d1 = 2
    · refine x_ifdT c2 ?_
      walk_at "lyR"
      refine x_bare ed p1 hn1 hs fun t u H3 h1 h2 r3 p3 hu => ?_
      walk_at "lyR"
      rename_i z H9 e9 hz9
      exact q (.not t) _ _ h1 (Nat.succ_le_succ h2) (by walk_at "lyT") (by walk_at "lyP") hz9
    · refine x_ifdF c2 ?_
      walk_at "lyR"
      rename_i d5 u5 H5 hm r5 p5 hu5
      have r15 : R [p] H1 H5 := by walk_at "lyT"
      have hn5 := hn1.r r15
      have h' : d5 = .str "and" ∨ d5 = .str "or" := by simpa using hm
      rcases h' with e | e
      · subst e
        refine x_bare ed p5 hn5 hs fun t u H3 h1 h2 r3 p3 hu => ?_
        walk_at "lyR"
        refine x_bare ed p3 (hn5.r r3) hs fun t2 u2 H4 k1 k2 r4 p4 hu2 => ?_
        walk_at "lyR"
        rename_i z H9 e9 hz9
        exact q (.both t t2) _ _ ⟨h1, k1⟩ (by show max (trD t) (trD t2) + 1 ≤ d + 1; omega) (by walk_at "lyT") (by walk_at "lyP") hz9
      · subst e
        refine x_bare ed p5 hn5 hs fun t u H3 h1 h2 r3 p3 hu => ?_
        walk_at "lyR"
        refine x_bare ed p3 (hn5.r r3) hs fun t2 u2 H4 k1 k2 r4 p4 hu2 => ?_
        walk_at "lyR"
        rename_i z H9 e9 hz9
        exact q (.one t t2) _ _ ⟨h1, k1⟩ (by show max (trD t) (trD t2) + 1 ≤ d + 1; omega) (by walk_at "lyT") (by walk_at "lyP") hz9
theorem cal__law_bare (T : Top K w mg) : ∀ d, Cal P w K mg base "_law_bare" ["pot", "names", "most", "depth"] (d + 4) (sp_bare d K)
  | 0 => bare0 T
  | d + 1 => bareS T d (cal__law_bare T d)
end
end K85

/-! ### text T14 -/
namespace K85
open PySem PySem.Spec PyProof.Rows L2 Lay

section
variable {P : Program} {w : World} {K : PySem.W.Frag} {mg : Str → Option Value} {base : Heap}
theorem dw_enum {M : List Addr} {H1 : Hp} {a : Addr} {xs : List V} {ds : List PyData} (hq : SqL K H1 a xs) (ha : a ∉ M) (hd : DpAll K H1 xs ds) (hm : ims ds = true) : DWalk K (Ite K a) ds.length M H1 fun i => .tuple [.int (i : Nat), ds.getD i .none] := by
  have el := hd.len
  refine ⟨fun i H hi r => walk_enum.goes i H (by omega) (r.sql ha hq), fun H r => by rw [← el]; exact walk_enum.stops H (r.sql ha hq), fun i H x H' hi r y => ?_⟩
  obtain ⟨T, z, u, e1, e2, e3, e4, e5⟩ := walk_enum.yields i H x H' (by omega) (r.sql ha hq) y
  subst e1 e3
  cases e4
  exact ⟨R.new e2, dp_tup upd_same (.cons (.int _) (.cons (R.xp (R.new e2) _ _ (at_of (R.dps r _ _ hm hd) hi e5)) .nil))⟩
def eN2 (q : Str × Int) : PyData := .tuple [.str q.1, .int q.2]
def kN (q : Str × Int) : Key × V := (Sum.inr q.1, V.int q.2)
theorem dp_pairs {H : Hp} : ∀ (l : List (Str × Int)) {acc : List V}, DpAll K H acc (l.map eN2) → ∃ ps : List Addr, acc = ps.map V.ref ∧ Paired (fun (p : Addr) (kv : Key × V) => SqT K H p [kV kv.1, kv.2]) ps (l.map kN)
  | [], _, h => by
    cases h
    exact ⟨[], rfl, .nil⟩
  | q :: l, _, h => by
    cases h with
    | cons h1 h2 =>
      obtain ⟨ps, rfl, hp⟩ := dp_pairs l h2
      obtain ⟨a, vs, rfl, g1, g2⟩ := Dp.tup_inv h1
      obtain ⟨v, w, rfl, g3, g4⟩ := g2.inv2
      obtain rfl := Dp.str_inv g3
      obtain rfl := Dp.int_inv g4
      exact ⟨a :: ps, rfl, .cons g1 hp⟩
def prs (ss : List Str) : List (Str × Int) := (List.range ss.length).map fun i => (ss.getD i nx, (i : Int))
theorem kn_prs {ss : List Str} (h : Ss ss) : ∀ s ∈ ss, ∃ v : Int, 0 ≤ v ∧ v < ss.length ∧ valV (mergeK [] ((prs ss).map kN)) (.inr s) = some (.int v) := by
  rcases h with h | h | h
  · subst h
    intro s hs
    have : s = nx := by simpa using hs
    subst this
    exact ⟨0, by decide, by decide, by decide +kernel⟩
  · subst h
    intro s hs
    have : s = nx ∨ s = ny := by simpa using hs
    rcases this with e | e
    · subst e
      exact ⟨0, by decide, by decide, by decide +kernel⟩
    · subst e
      exact ⟨1, by decide, by decide, by decide +kernel⟩
  · subst h
    intro s hs
    have : s = nx ∨ s = ny ∨ s = nz := by simpa using hs
    rcases this with e | e | e
    · subst e
      exact ⟨0, by decide, by decide, by decide +kernel⟩
    · subst e
      exact ⟨1, by decide, by decide, by decide +kernel⟩
    · subst e
      exact ⟨2, by decide, by decide, by decide +kernel⟩
def sp_prenex (K : PySem.W.Frag) : Sp := fun vs H Q _ => ∃ (p : Addr) (n : Nat), vs = [.ref p, .int n, .int 1] ∧ PotAt H p ∧ 1 ≤ n ∧ n ≤ 3 ∧
  ∀ (f : Pre) u H', f.1.length = n → FmOk n f.2 → f.2.deep ≤ 2 → R [p] H H' → PotAt H' p → Dp K H' u (eX f) → Q u H'
theorem cut_names (n : Nat) (h1 : 1 ≤ n) (h3 : n ≤ 3) : ∃ ss, Ss ss ∧ ss.length = n ∧ cutV [V.str "x", V.str "y", V.str "z"] none (some n) = ss.map V.str := by
  have : n = 1 ∨ n = 2 ∨ n = 3 := by omega
  rcases this with e | e | e
  · subst e
    exact ⟨[nx], .inl rfl, rfl, by decide +kernel⟩
  · subst e
    exact ⟨[nx, ny], .inr (.inl rfl), rfl, by decide +kernel⟩
  · subst e
    exact ⟨[nx, ny, nz], .inr (.inr rfl), rfl, by decide +kernel⟩
theorem strs_dps {H : Hp} : ∀ (ss : List Str), DpAll K H (ss.map V.str) (ss.map PyData.str)
  | [] => .nil
  | _ :: ss => .cons (.str _) (strs_dps ss)
theorem ims_Ns (ss : List Str) : ims (eNs ss) = true := ims_of fun d hd => by
  obtain ⟨t, _, rfl⟩ := List.mem_map.mp hd
  rfl
theorem cal__law_prenex (T : Top K w mg) : Cal P w K mg base "_law_prenex" ["pot", "many", "depth"] 12 (sp_prenex K) := by
  refine cal_of T.f__law_prenex sc__law_prenex ?len (fun _ _ _ _ _ _ us hl => match us, hl with | [_, _, _], _ => rfl) (fun f cdv A outer s H vs Q E hr h => ⟨_, (pss_cons (ps_set (i := 3) sc__law_prenex.nd rfl (by first | exact Or.inl rfl | exact Or.inr rfl) (pe_slice sl_list (pe_lst (pa_cons pe_str (pa_cons pe_str (pa_cons pe_str pa_nil)))) po_none (po_some (pv 1))))
      (pss_cons (ps_set (i := 4) sc__law_prenex.nd rfl (by first | exact Or.inl rfl | exact Or.inr rfl) (pe_def (cal__law_bare T 1) (hr.mono (by omega)) (pa_cons (pv 0) (pa_cons (pv 3) (pa_cons pe_int (pa_cons (pv 2) pa_nil))))))
      (pss_cons (ps_set (i := 5) sc__law_prenex.nd rfl (by first | exact Or.inl rfl | exact Or.inr rfl) (pe_ix ix_tupK (pe_def (cal__law_formula T 1) (hr.mono (by omega)) (pa_cons (pv 4) (pa_cons (pe_callTy (call_dictP rfl) rfl T.b_dict (by decide +kernel) (pa_cons (pe_lc (own := [("at", 7), ("name", 6)]) (g := (gTup K 2 (gCons (gName 7) (gCons (gName 6) gNil)))) rfl sc__law_prenex.nd (pi_enum rfl T.b_enumerate (pa_cons (pv 3) pa_nil)) (blkOk_by (by show blkC ["pot", "many", "depth", "names", "tree", "matrix", "name", "at"] (defScope s__law_prenex) _ _ = true; decide +kernel)) (fun _ _ _ _ _ => (pg_tup rfl (pgs_cons (pg_name (i := 7) sc__law_prenex.nd rfl (by first | exact Or.inl rfl | exact Or.inr rfl)) (pgs_cons (pg_name (i := 6) sc__law_prenex.nd rfl (by first | exact Or.inl rfl | exact Or.inr rfl)) pgs_nil)))) (fun _ _ _ _ _ => pts_nil) (fun _ _ _ _ _ => (pe_tup (pa_cons (pv 6) (pa_cons (pv 7) pa_nil))))) pa_nil)) (pa_cons pe_bl (pa_cons (pv 1) pa_nil))))) pe_int (fun _ _ => rfl)))
      (pss_one (ps_ret (pe_tup (pa_cons pe_str (pa_cons pe_int (pa_cons (pe_callTy call_tupleK rfl T.b_tuple (by decide +kernel) (pa_cons (pe_lc (own := [("name", 6)]) (g := (gName 6)) rfl sc__law_prenex.nd (pi_list (pv 3)) (blkOk_by (by show blkC ["pot", "many", "depth", "names", "tree", "matrix", "name", "at"] (defScope s__law_prenex) _ _ = true; decide +kernel)) (fun _ _ _ _ _ => (pg_name (i := 6) sc__law_prenex.nd rfl (by first | exact Or.inl rfl | exact Or.inr rfl))) (fun _ _ _ _ _ => pts_nil) (fun _ _ _ _ _ => (pe_def (cal__law_pick T) (hr.mono (by omega)) (pa_cons (pv 0) (pa_cons (pe_lst (pa_cons pe_str (pa_cons pe_str pa_nil))) pa_nil))))) pa_nil)) (pa_cons (pv 5) pa_nil)))))))))), ?_⟩)
  case len => intro vs H Q E h; obtain ⟨_, _, rfl, _⟩ := h; rfl
  obtain ⟨p, n, rfl, hp, n1, n3, q⟩ := h
  walk_at "lyJ"
  refine x_sl ?_
  walk_at "lyR"
  rename_i l1 H1 e1 hl1 t1 c1
  refine x_noPart ?_
  refine x_part ?_
  walk_at "lyR"
  refine ⟨_, rfl, ?_⟩
  refine ⟨l1, _, rfl, SqL.of t1, fun l2 hl2 => ?_⟩
  obtain ⟨ss, hs, hsl, hcut⟩ := cut_names n n1 n3
  have e2 : Ex H1 (upd H1 l2 (.lst (ss.map V.str))) := R.new hl2
  have t2 : (upd H1 l2 (.lst (ss.map V.str))) l2 = some (.lst (ss.map V.str)) := upd_same
  rw [show cutV [V.str (Str.ofString "x"), V.str (Str.ofString "y"), V.str (Str.ofString "z")] none (some (n : Int)) = ss.map V.str from hcut]
  have p1 : PotAt H1 p := by walk_at "lyP"
  have ne2 : V.ref l2 ≠ V.ref p := fresh_ne hl2 p1
  generalize upd H1 l2 (.lst (ss.map V.str)) = H2 at e2 t2 ⊢
  have p2 : PotAt H2 p := by walk_at "lyP"
  have hn2 : LsV K H2 p (.ref l2) (eNs ss) := ⟨dp_lst t2 (strs_dps ss), ne2, ims_Ns ss⟩
  walk_at "lyR"
  refine x_bare (d := 1) rfl p2 hn2 hs fun tr u3 H3 h1 h2 r3 p3 hu3 => ?_
  walk_at "lyR"
  have hn3 := hn2.r r3
  obtain ⟨a3, xs3, ea3, q1, q2⟩ := Dp.lst_inv hn3.1
  refine ⟨a3, xs3, congrArg (fun z => [z]) ea3, q1, ?_⟩
  have wk := dw_enum (M := []) q1 (by simp) q2 (ims_Ns ss)
  have el : (eNs ss).length = ss.length := List.length_map ..
  rw [el] at wk
  have hl3 := hs.len
  refine x_lcM wk (fun i => eN2 (ss.getD i nx, (i : Int))) (fun i hi => rfl) (by omega) ?_ ?_
  · intro C i x H4 hi e4 hx hC
    have ei := List.getElem?_eq_getElem hi
    refine x_gtup2 hx ?_
    intro u0 u1 g0 g1
    obtain rfl := Dp.int_inv g0
    rw [show (eNs ss).getD i .none = .str ss[i] from getD_map (enc := PyData.str) ei] at g1
    obtain rfl := Dp.str_inv g1
    walk_at "lyR"
    refine ⟨rfl, ?_⟩
    walk_at "lyR"
    rename_i z H9 e9 hz9
    refine hC z _ e9 ?_
    have es : ss.getD i nx = ss[i] := by rw [List.getD_eq_getElem?_getD, ei]; rfl
    rw [es]
    exact hz9.dp
  · intro b acc H4 e4 b1 b2 b3
    have b3' : DpAll K H4 acc ((prs ss).map eN2) := by
      have : (prs ss).map eN2 = (List.range ss.length).map fun i => eN2 (ss.getD i nx, (i : Int)) := by
        unfold prs
        rw [List.map_map]
        rfl
      rw [this]
      exact b3
    obtain ⟨ps, rfl, hps⟩ := dp_pairs _ b3'
    walk_at "lyR"
    refine ⟨b, ps, _, rfl, SqL.of b2, hps, fun k hk => ?_⟩
    have e5 : Ex H4 (upd H4 k (.dK (mergeK [] ((prs ss).map kN)))) := R.new hk
    have hkn : Kn (upd H4 k (.dK (mergeK [] ((prs ss).map kN)))) k ss ss.length := ⟨_, upd_same, kn_prs hs⟩
    generalize upd H4 k (.dK (mergeK [] ((prs ss).map kN))) = H5 at e5 hkn ⊢
    walk_at "lyR"
    refine ⟨tr, _, k, false, n, ss, ss.length, rfl, by walk_at "lyD", hkn, h1, h2, fun fm u6 k6 H6 f1 f2 e6 hu6 => ?_⟩
    walk_at "lyR"
    rename_i u7 h7
    have r36 : R [p] H3 H6 := by walk_at "lyT"
    have p6 : PotAt H6 p := r36.pots p (by simp) p3
    have hn6 := hn3.r r36
    obtain ⟨a6, xs6, ea6, q61, q62⟩ := Dp.lst_inv hn6.1
    have na6 : a6 ≠ p := fun z => hn6.2.1 (by rw [ea6, z])
    refine ⟨a6, ea6, ⟨xs6, q61⟩, ?_⟩
    have wk6 := dw_list (M := [p]) q61 (by simpa using na6) q62 (.inr (ims_Ns ss))
    rw [el] at wk6
    refine x_lcG wk6 (pot_ne p6) (fun i es => ∃ ks : List Bool, es = ks.map (fun b => .str (kS b)) ∧ ks.length = i) ⟨[], rfl, rfl⟩ ?_ ?_
    · intro D i x es H7 H8 hi S r8 hx
      obtain ⟨ks, g1, g2⟩ := S.inv
      have p8 : PotAt H8 p := r8.pots p (by simp) (S.r.pots p (by simp) p6)
      walk_at "lyR"
      refine ⟨rfl, ?_⟩
      walk_at "lyR"
      rename_i d5 u9 H9 hm r9 p9 hu9
      have h' : ∃ b : Bool, d5 = .str (kS b) := by
        have h'' : d5 = .str "all" ∨ d5 = .str "some" := by simpa using hm
        rcases h'' with e | e
        · exact ⟨false, e⟩
        · exact ⟨true, e⟩
      obtain ⟨b', rfl⟩ := h'
      have ee : es ++ [PyData.str (kS b')] = (ks ++ [b']).map (fun b => .str (kS b)) := by rw [g1, List.map_append]; rfl
      exact lcY S (by walk_at "lyT") hu9 ⟨ks ++ [b'], ee, by rw [List.length_append, g2]; rfl⟩ (by rw [ee]; exact ims_kinds _) (by omega)
    · intro es c8 acc8 H8 hI r8 m1 m2 m3
      obtain ⟨ks, rfl, hks⟩ := hI
      walk_at "lyR"
      refine x_tupleD (.inr (dp_lst m2 m3)) ?_
      intro u9 H9 e9 hu9
      walk_at "lyR"
      rename_i z Hz ez hz
      refine q (ks, fm) _ _ (hks.trans hsl) (by rw [← hsl]; exact f1) (by dsimp only; omega) (by walk_at "lyT") (by walk_at "lyP") hz
end
end K85

/-! ### text T16 -/
namespace K85
open PySem PySem.Spec PyProof.Rows L2 Lay
section
variable {K : PySem.W.Frag} {H : Hp} {v : V} {Q : VK}
/-! kinds of data -/
def typ : PyData → String
  | .none => "NoneType"
  | .bool _ => "bool"
  | .int _ => "int"
  | .str _ => "str"
  | .list _ => "list"
  | .tuple _ => "tuple"
  | .dict _ => "dict"
theorem tyx : ∀ {d : PyData}, Dp K H v d → TyX K H v (.type (typ d))
  | _, .non => .base .non
  | _, .bl _ => .base (.bl _)
  | _, .int _ => .base (.int _)
  | _, .str _ => .base (.str _)
  | _, .tup q _ => by
    rcases q with (q | ⟨o, q⟩) | ⟨o, its, n, q1, q2, _⟩
    · exact .base (.tup q)
    · exact .fTuple q
    · exact .kTuple q1 q2
  | _, .lst q _ => by
    rcases q with (q | ⟨o, q⟩) | ⟨o, its, n, q1, q2, _⟩
    · exact .base (.lst q)
    · exact .base (.frz q)
    · exact .kList q1 q2
def isI : PyData → Bool
  | .int _ => true
  | .bool _ => true
  | _ => false
def isBo : PyData → Bool
  | .bool _ => true
  | _ => false
def isS : PyData → Bool
  | .str _ => true
  | _ => false
def isT : PyData → Bool
  | .tuple _ => true
  | _ => false
theorem x_isiI {d : PyData} (h : Dp K H v d) (q : Q (.bl (isI d)) H) : rIsi K [v, .ty "int"] H Q := by
  refine ⟨v, .ty "int", _, _, isI d, rfl, .ty _, tyx h, kit_ty ?_, q⟩
  cases d <;> (first | exact (by decide +kernel : kitB "NoneType" "int" = some false) | exact (by decide +kernel : kitB "bool" "int" = some true) | exact (by decide +kernel : kitB "int" "int" = some true) | exact (by decide +kernel : kitB "str" "int" = some false) | exact (by decide +kernel : kitB "list" "int" = some false) | exact (by decide +kernel : kitB "tuple" "int" = some false) | exact (by decide +kernel : kitB "dict" "int" = some false))
theorem x_isiB {d : PyData} (h : Dp K H v d) (q : Q (.bl (isBo d)) H) : rIsi K [v, .ty "bool"] H Q := by
  refine ⟨v, .ty "bool", _, _, isBo d, rfl, .ty _, tyx h, kit_ty ?_, q⟩
  cases d <;> (first | exact (by decide +kernel : kitB "NoneType" "bool" = some false) | exact (by decide +kernel : kitB "bool" "bool" = some true) | exact (by decide +kernel : kitB "int" "bool" = some false) | exact (by decide +kernel : kitB "str" "bool" = some false) | exact (by decide +kernel : kitB "list" "bool" = some false) | exact (by decide +kernel : kitB "tuple" "bool" = some false) | exact (by decide +kernel : kitB "dict" "bool" = some false))
theorem x_isiS {d : PyData} (h : Dp K H v d) (q : Q (.bl (isS d)) H) : rIsi K [v, .ty "str"] H Q := by
  refine ⟨v, .ty "str", _, _, isS d, rfl, .ty _, tyx h, kit_ty ?_, q⟩
  cases d <;> (first | exact (by decide +kernel : kitB "NoneType" "str" = some false) | exact (by decide +kernel : kitB "bool" "str" = some false) | exact (by decide +kernel : kitB "int" "str" = some false) | exact (by decide +kernel : kitB "str" "str" = some true) | exact (by decide +kernel : kitB "list" "str" = some false) | exact (by decide +kernel : kitB "tuple" "str" = some false) | exact (by decide +kernel : kitB "dict" "str" = some false))
theorem x_isiT {d : PyData} (h : Dp K H v d) (q : Q (.bl (isT d)) H) : rIsi K [v, .ty "tuple"] H Q := by
  refine ⟨v, .ty "tuple", _, _, isT d, rfl, .ty _, tyx h, kit_ty ?_, q⟩
  cases d <;> (first | exact (by decide +kernel : kitB "NoneType" "tuple" = some false) | exact (by decide +kernel : kitB "bool" "tuple" = some false) | exact (by decide +kernel : kitB "int" "tuple" = some false) | exact (by decide +kernel : kitB "str" "tuple" = some false) | exact (by decide +kernel : kitB "list" "tuple" = some false) | exact (by decide +kernel : kitB "tuple" "tuple" = some true) | exact (by decide +kernel : kitB "dict" "tuple" = some false))
end

theorem x_ifbT {b : Bool} {A B : Prop} (h : b = true) (q : A) : if b = true then A else B := by subst h; exact (if_pos rfl).mpr q
theorem x_ifbF {b : Bool} {A B : Prop} (h : b = false) (q : B) : if b = true then A else B := by subst h; exact (if_neg (by simp)).mpr q

end K85
/-! ### macros MacS -/
local macro_rules | `(tactic| walk_at "lyS1") => `(tactic| first
  | ((with_reducible apply x_isiI); (· walk_at "lyD")) | ((with_reducible apply x_isiB); (· walk_at "lyD")) | ((with_reducible apply x_isiS); (· walk_at "lyD")) | ((with_reducible apply x_isiT); (· walk_at "lyD"))
  | walk_at "ly1"
  | ((with_reducible refine x_ifbT ?lyh ?lyq); (case lyh => rfl)) | ((with_reducible refine x_ifbF ?lyh ?lyq); (case lyh => rfl)))
local macro_rules | `(tactic| walk_at "lyS") => `(tactic| ((try dsimp only [cxOf, Cx.nox, Cx.wish]); repeat walk_at "lyS1"))
namespace K85
open PySem PySem.Spec PyProof.Rows L2 Lay RZ
section
variable {P : Program} {w : World} {K : PySem.W.Frag} {mg : Str → Option Value} {base : Heap}
/-- ints that are no bools -/
def isN : PyData → Bool
  | .int _ => true
  | _ => false
def sp_isint (K : PySem.W.Frag) : Sp := fun vs H Q _ => ∃ (v : V) (d : PyData), vs = [v] ∧ Dp K H v d ∧ Q (.bl (isN d)) H
theorem cal_is_integer (T : Top K w mg) : Cal P w K mg base "is_integer" ["value"] 1 (sp_isint K) := by
  refine cal_of T.f_is_integer sc_is_integer ?len (fun _ _ _ _ _ _ us hl => match us, hl with | [_], _ => rfl) (fun f cdv A outer s H vs Q E hr h => ⟨_, (pss_one (ps_ret (pe_and (pe_callB Lay.call_isiK rfl T.b_isinstance (by decide +kernel) (pa_cons (pv 0) (pa_cons (pe_bltn (v := .ty "int") rfl T.b_int (by decide +kernel) rfl) pa_nil))) (pe_one (pe_not (pe_callB Lay.call_isiK rfl T.b_isinstance (by decide +kernel) (pa_cons (pv 0) (pa_cons (pe_bltn (v := .ty "bool") rfl T.b_bool (by decide +kernel) rfl) pa_nil)))))))), ?_⟩)
  case len => intro vs H Q E h; obtain ⟨_, _, rfl, _⟩ := h; rfl
  obtain ⟨v, d, rfl, hv, q⟩ := h
  walk_at "lyS"
  cases d <;> (walk_at "lyS"; exact q)
theorem cal_is_number (T : Top K w mg) : Cal P w K mg base "is_number" ["value"] 1 (sp_isint K) := by
  refine cal_of T.f_is_number sc_is_number ?len (fun _ _ _ _ _ _ us hl => match us, hl with | [_], _ => rfl) (fun f cdv A outer s H vs Q E hr h => ⟨_, (pss_one (ps_ret (pe_and (pe_callB Lay.call_isiK rfl T.b_isinstance (by decide +kernel) (pa_cons (pv 0) (pa_cons (pe_bltn (v := .ty "int") rfl T.b_int (by decide +kernel) rfl) pa_nil))) (pe_one (pe_not (pe_callB Lay.call_isiK rfl T.b_isinstance (by decide +kernel) (pa_cons (pv 0) (pa_cons (pe_bltn (v := .ty "bool") rfl T.b_bool (by decide +kernel) rfl) pa_nil)))))))), ?_⟩)
  case len => intro vs H Q E h; obtain ⟨_, _, rfl, _⟩ := h; rfl
  obtain ⟨v, d, rfl, hv, q⟩ := h
  walk_at "lyS"
  cases d <;> (walk_at "lyS"; exact q)
theorem x_isint {H : Hp} {Q : VK} {E : XK} {v : V} (d : PyData) (h : Dp K H v d) (q : Q (.bl (isN d)) H) : sp_isint K [v] H Q E := ⟨v, d, rfl, h, q⟩
def sp_near : Sp := fun vs H Q _ => ∃ i : Int, vs = [.int i] ∧ (-1000000 < i ∧ i < 1000000) ∧ Q (.bl true) H
theorem figs {i : Int} (h : -1000000 < i ∧ i < 1000000) : (if i < 0 then -i else i) < (10 : Int) ^ 400 := by
  have e : (1000000 : Int) ≤ 10 ^ 400 := by decide +kernel
  split <;> omega
theorem cal_is_near (T : Top K w mg) : Cal P w K mg base "is_near" ["value"] 2 sp_near := by
  refine cal_of T.f_is_near sc_is_near ?len (fun _ _ _ _ _ _ us hl => match us, hl with | [_], _ => rfl) (fun f cdv A outer s H vs Q E hr h => ⟨_, (pss_one (ps_ret (pe_and (pe_def (cal_is_integer T) (hr.mono (by omega)) (pa_cons (pv 0) pa_nil)) (pe_one (pe_cmpR op_lt (pe_callB call_absK rfl T.b_abs (by decide +kernel) (pa_cons (pv 0) pa_nil)) (pe_gint T.c_FIGURES) (nomark _)))))), ?_⟩)
  case len => intro vs H Q E h; obtain ⟨_, rfl, _⟩ := h; rfl
  obtain ⟨i, rfl, hi, q⟩ := h
  walk_at "lyS"
  refine x_isint (.int i) (.int _) ?_
  walk_at "lyS"
  rw [decide_eq_true (figs hi)]
  exact q
theorem x_near {H : Hp} {Q : VK} {E : XK} {i : Int} (h : -1000000 < i ∧ i < 1000000) (q : Q (.bl true) H) : sp_near [.int i] H Q E := ⟨i, rfl, h, q⟩
def sp_count : Sp := fun vs H Q _ => ∃ i : Int, vs = [.int i] ∧ 0 ≤ i ∧ Q (.bl true) H
theorem cal_is_count (T : Top K w mg) : Cal P w K mg base "is_count" ["value"] 2 sp_count := by
  refine cal_of T.f_is_count sc_is_count ?len (fun _ _ _ _ _ _ us hl => match us, hl with | [_], _ => rfl) (fun f cdv A outer s H vs Q E hr h => ⟨_, (pss_one (ps_ret (pe_and (pe_def (cal_is_integer T) (hr.mono (by omega)) (pa_cons (pv 0) pa_nil)) (pe_one (pe_cmpR op_ge (pv 0) pe_int (nomark _)))))), ?_⟩)
  case len => intro vs H Q E h; obtain ⟨_, rfl, _⟩ := h; rfl
  obtain ⟨i, rfl, hi, q⟩ := h
  walk_at "lyS"
  refine x_isint (.int i) (.int _) ?_
  walk_at "lyS"
  rw [decide_eq_true (show i ≥ 0 from hi)]
  exact q
def sp_divisor : Sp := fun vs H Q _ => ∃ i : Int, vs = [.int i] ∧ (0 < i ∧ i < 1000000) ∧ Q (.bl true) H
theorem cal_is_divisor (T : Top K w mg) : Cal P w K mg base "is_divisor" ["value"] 3 sp_divisor := by
  refine cal_of T.f_is_divisor sc_is_divisor ?len (fun _ _ _ _ _ _ us hl => match us, hl with | [_], _ => rfl) (fun f cdv A outer s H vs Q E hr h => ⟨_, (pss_one (ps_ret (pe_and (pe_def (cal_is_near T) (hr.mono (by omega)) (pa_cons (pv 0) pa_nil)) (pe_one (pe_cmpR op_ge (pv 0) pe_int (nomark _)))))), ?_⟩)
  case len => intro vs H Q E h; obtain ⟨_, rfl, _⟩ := h; rfl
  obtain ⟨i, rfl, hi, q⟩ := h
  walk_at "lyS"
  refine x_near (by omega) ?_
  walk_at "lyS"
  rw [decide_eq_true (show i ≥ 1 by omega)]
  exact q
theorem x_divisor {H : Hp} {Q : VK} {E : XK} {i : Int} (h : 0 < i ∧ i < 1000000) (q : Q (.bl true) H) : sp_divisor [.int i] H Q E := ⟨i, rfl, h, q⟩
end
end K85

/-! ### text T17 -/
namespace K85
open PySem PySem.Spec PyProof.Rows L2 Lay RZ


section
variable {P : Program} {w : World} {K : PySem.W.Frag} {mg : Str → Option Value} {base : Heap}
theorem dw_zipT {M : List Addr} {H1 : Hp} {a b : Addr} {xs ys : List V} {ds es : List PyData} {n : Nat} (hq : SqT K H1 a xs) (hq2 : SqT K H1 b ys) (hd : DpAll K H1 xs ds) (he : DpAll K H1 ys es) (hm : ims ds = true ∧ ims es = true) (hn : n = min ds.length es.length) :
    DWalk K (ItzT K a b) n M H1 fun i => .tuple [ds.getD i .none, es.getD i .none] := by
  have l1 := hd.len
  have l2 := he.len
  subst hn
  refine ⟨fun i H hi r => ⟨xs, ys, xs[i]'(by omega), ys[i]'(by omega), r.sqt hq, r.sqt hq2, by simp, by simp⟩, fun H r => ⟨xs, ys, r.sqt hq, r.sqt hq2, by omega⟩, fun i H x H' hi r y => ?_⟩
  obtain ⟨T, z, u, e1, e2, e3, e4, e5⟩ := y
  subst e1 e3
  exact ⟨R.new e2, dp_tup upd_same (.cons (R.xp (R.new e2) _ _ (at_of (R.dps r _ _ hm.1 hd) (by omega) (e4 xs (r.sqt hq)))) (.cons (R.xp (R.new e2) _ _ (at_of (R.dps r _ _ hm.2 he) (by omega) (e5 ys (r.sqt hq2)))) .nil))⟩
theorem x_iZA {σ : L2.St} {H : Hp} {ta : TA} {R' : It → Hp → Prop} (q : ta σ H fun vs H1 => ∃ a b xs ys, vs = [.ref a, .ref b] ∧ ((SqL K H1 a xs ∧ SqL K H1 b ys ∧ R' (Itz K a b) H1) ∨ (SqT K H1 a xs ∧ SqT K H1 b ys ∧ R' (ItzT K a b) H1))) : iZipA K ta σ H R' := q
theorem cut_drop (xs : List V) : cutV xs (some 1) none = xs.drop 1 := by
  cases xs with
  | nil => rfl
  | cons x xs =>
    unfold cutV
    have e1 : HT.sIx (x :: xs).length 0 (some 1) = 1 := by simp [HT.sIx]
    have e2 : HT.sIx (x :: xs).length (x :: xs).length none = (x :: xs).length := by simp [HT.sIx]
    rw [e1, e2]
    exact List.take_of_length_le (by simp)
theorem x_sl1 {H : Hp} {Q : VK} {v : V} {ds : List PyData} (h : Dp K H v (.tuple ds)) (q : ∀ u H', Ex H H' → Dp K H' u (.tuple (ds.drop 1)) → Q u H') : rSlA K v (some 1) none H Q := by
  obtain ⟨a, xs, rfl, h1, h2⟩ := Dp.tup_inv h
  refine ⟨a, xs, rfl, h1, fun e => ?_, fun e p hp => ?_⟩
  · cases h2 with
    | nil => exact q _ _ (R.refl _) h
    | cons g1 g2 =>
      have := e.1
      simp [HT.sIx] at this
  · rw [cut_drop]
    refine q _ _ (R.new hp) (dp_tup upd_same (R.xps (R.new hp) _ _ ?_))
    cases h2 with
    | nil => exact .nil
    | cons g1 g2 => exact g2
/-! a drawn sum has the form of one -/
def sp_lin1 (K : PySem.W.Frag) : Sp := fun vs H Q _ => ∃ (v : V) (n : Nat) (l : Lin), vs = [v] ∧ Dp K H v (eL l) ∧ LinD n l ∧ n ≤ 3 ∧ ∀ H', Ex H H' → Q (.bl true) H'
theorem cal_is_linear (T : Top K w mg) : Cal P w K mg base "is_linear" ["value"] 2 (sp_lin1 K) := by
  refine cal_of T.f_is_linear sc_is_linear ?len (fun _ _ _ _ _ _ us hl => match us, hl with | [_], _ => rfl) (fun f cdv A outer s H vs Q E hr h => ⟨_, (pss_cons (ps_if (PW.pt (pw_or (pt_not (pt_val (pe_callB Lay.call_isiK rfl T.b_isinstance (by decide +kernel) (pa_cons (pv 0) (pa_cons (pe_bltn (v := .ty "tuple") rfl T.b_tuple (by decide +kernel) rfl) pa_nil))))) (pw_or (pt_cmpR op_ne (pe_callB call_lenK rfl T.b_len PySem.boot_len (pa_cons (pv 0) pa_nil)) pe_int (nomark _)) (pw_or1 (pt_not (pt_val (pe_callB Lay.call_isiK rfl T.b_isinstance (by decide +kernel) (pa_cons (pe_ix ix_tupK (pv 0) pe_int (fun _ _ => rfl)) (pa_cons (pe_bltn (v := .ty "tuple") rfl T.b_tuple (by decide +kernel) rfl) pa_nil))))))))) (pss_one (ps_ret pe_bl)) pss_nil)
      (pss_cons (ps_if (pt_not (pt_val (pe_def (cal_is_number T) (hr.mono (by omega)) (pa_cons (pe_ix ix_tupK (pv 0) pe_int (fun _ _ => rfl)) pa_nil)))) (pss_one (ps_ret pe_bl)) pss_nil)
      (pss_cons (ps_for PassesOwn.never rfl (pi_tup (pe_ix ix_tupK (pv 0) pe_int (fun _ _ => rfl))) (pg_name (i := 1) sc_is_linear.nd rfl (by first | exact Or.inl rfl | exact Or.inr rfl)) (pss_cons (ps_if (PW.pt (pw_or (pt_not (pt_val (pe_callB Lay.call_isiK rfl T.b_isinstance (by decide +kernel) (pa_cons (pv 1) (pa_cons (pe_bltn (v := .ty "tuple") rfl T.b_tuple (by decide +kernel) rfl) pa_nil))))) (pw_or (pt_cmpR op_ne (pe_callB call_lenK rfl T.b_len PySem.boot_len (pa_cons (pv 1) pa_nil)) pe_int (nomark _)) (pw_or1 (pt_not (pt_val (pe_callB cr_allK rfl T.b_all (by decide +kernel) (pa_cons (pe_lc (own := [("one", 4)]) (g := (gName 4)) rfl sc_is_linear.nd (pi_tup (pv 1)) (blkOk_by (by show blkC ["value", "part", "near", "far", "one"] (defScope s_is_linear) _ _ = true; decide +kernel)) (fun _ _ _ _ _ => (pg_name (i := 4) sc_is_linear.nd rfl (by first | exact Or.inl rfl | exact Or.inr rfl))) (fun _ _ _ _ _ => pts_nil) (fun _ _ _ _ _ => (pe_def (cal_is_number T) (hr.mono (by omega)) (pa_cons (pv 4) pa_nil)))) pa_nil)))))))) (pss_one (ps_ret pe_bl)) pss_nil)
      (pss_one (ps_if (PW.pt (pw_or (pt_cmpR op_lt (pe_ix ix_tupK (pv 1) pe_int (fun _ _ => rfl)) pe_int (nomark _)) (pw_or1 (pt_cmpR op_eq (pe_ix ix_tupK (pv 1) pe_int (fun _ _ => rfl)) pe_int (nomark _))))) (pss_one (ps_ret pe_bl)) pss_nil))))
      (pss_one (ps_ret (pe_callB cr_allK rfl T.b_all (by decide +kernel) (pa_cons (pe_lc (own := [("near", 2), ("far", 3)]) (g := (gTup K 2 (gCons (gName 2) (gCons (gName 3) gNil)))) rfl sc_is_linear.nd (pi_zipA rfl T.b_zip (pa_cons (pe_ix ix_tupK (pv 0) pe_int (fun _ _ => rfl)) (pa_cons (pe_slice sl_tupA (pe_ix ix_tupK (pv 0) pe_int (fun _ _ => rfl)) (po_some pe_int) po_none) pa_nil))) (blkOk_by (by show blkC ["value", "part", "near", "far", "one"] (defScope s_is_linear) _ _ = true; decide +kernel)) (fun _ _ _ _ _ => (pg_tup rfl (pgs_cons (pg_name (i := 2) sc_is_linear.nd rfl (by first | exact Or.inl rfl | exact Or.inr rfl)) (pgs_cons (pg_name (i := 3) sc_is_linear.nd rfl (by first | exact Or.inl rfl | exact Or.inr rfl)) pgs_nil)))) (fun _ _ _ _ _ => pts_nil) (fun _ _ _ _ _ => (pe_cmpR op_lt (pe_ix ix_tupK (pv 2) pe_int (fun _ _ => rfl)) (pe_ix ix_tupK (pv 3) pe_int (fun _ _ => rfl)) (nomark _)))) pa_nil))))))), ?_⟩)
  case len => intro vs H Q E h; obtain ⟨_, _, _, rfl, _⟩ := h; rfl
  obtain ⟨v, n, l, rfl, hv, hl, hn, q⟩ := h
  have hl4 : l.2.length ≤ 3 := by have := hl.2.2.2; omega
  walk_at "lyS"
  refine x_isint (.int l.1) (.int _) ?_
  walk_at "lyS"
  rename_i u hu
  obtain ⟨a, xs, rfl, hq, hd⟩ := Dp.tup_inv hu
  refine ⟨a, rfl, ⟨xs, hq⟩, ?_⟩
  refine x_forTu (M := []) hq hd (ims_T _) (fun i σ' H' => Ex H H' ∧ ∃ x1 x2 x3 x4, σ' = [some v, x1, x2, x3, x4]) ⟨R.refl _, none, none, none, none, rfl⟩ (fun i σ' H' h => h.1) ?_ ?_
  · intro i x σ' H' hi hW hx
    rw [List.length_map] at hi
    obtain ⟨e, x1, x2, x3, x4, rfl⟩ := hW
    have ei := List.getElem?_eq_getElem hi
    rw [getD_map ei] at hx
    obtain ⟨t0, t1, t2⟩ := hl.2.1 _ (List.getElem_mem hi)
    walk_at "lyS"
    refine x_lcT (α := Int) [(l.2[i]).1, (l.2[i]).2] PyData.int (fun _ => .bool true) hx (fun _ _ => rfl) (by show 2 ≤ 100000; decide) ?_ ?_
    · intro C a x H' ha e hx hC
      walk_at "lyS"
      refine ⟨rfl, ?_⟩
      walk_at "lyS"
      exact x_isint _ hx (hC _ _ (R.refl _) (.bl _))
    · intro k acc H5 e5 m1 m2 m3
      walk_at "lyS"
      refine x_allD (ns := [true, true]) (dp_lst m2 m3) ?_
      walk_at "lyS"
      refine x_ifdF (by omega) ?_
      walk_at "lyS"
      refine x_ifdF (by omega) ?_
      walk_at "lyS"
      exact ⟨e.trans e5, _, _, _, _, rfl⟩
  · intro σ' H' hW
    obtain ⟨e, x1, x2, x3, x4, rfl⟩ := hW
    walk_at "lyS"
    refine x_iZA ?_
    walk_at "lyS"
    refine x_sl ?_
    walk_at "lyS"
    rename_i u2 hu2 u3 hu3
    refine x_part ?_
    walk_at "lyS"
    refine ⟨_, rfl, ?_⟩
    refine x_noPart ?_
    refine x_sl1 hu3 fun u4 H4 e4 hu4 => ?_
    walk_at "lyS"
    obtain ⟨a5, xs5, rfl, q5, d5⟩ := Dp.tup_inv (R.xp e4 _ _ hu2)
    obtain ⟨a6, xs6, rfl, q6, d6⟩ := Dp.tup_inv hu4
    refine ⟨a5, a6, xs5, xs6, rfl, .inr ⟨q5, q6, ?_⟩⟩
    have idrop : ims ((l.2.map eT).drop 1) = true := by
      rw [← List.map_drop]
      exact ims_T _
    have wk := dw_zipT (M := []) (n := l.2.length - 1) q5 q6 d5 d6 ⟨ims_T _, idrop⟩ (by rw [List.length_drop, List.length_map]; omega)
    refine x_lcM wk (fun _ => .bool true) (fun _ _ => rfl) (by omega) ?_ ?_
    · intro C i x H5 hi e5 hx hC
      have ei : l.2[i]? = some (l.2[i]'(by omega)) := List.getElem?_eq_getElem (by omega)
      have ej : l.2[i + 1]? = some (l.2[i + 1]'(by omega)) := List.getElem?_eq_getElem (by omega)
      rw [getD_map ei] at hx
      have ed : ((l.2.map eT).drop 1).getD i .none = eT (l.2[i + 1]'(by omega)) := by
        rw [← List.map_drop]
        refine getD_map (xs := l.2.drop 1) ?_
        rw [List.getElem?_drop, Nat.add_comm]
        exact ej
      rw [ed] at hx
      refine x_gtup2 hx fun v1 v2 g1 g2 => ?_
      walk_at "lyS"
      refine ⟨rfl, ?_⟩
      walk_at "lyS"
      have lt := List.pairwise_iff_getElem.mp hl.2.2.1 i (i + 1) (by omega) (by omega) (by omega)
      rw [decide_eq_true lt]
      exact hC _ _ (R.refl _) (.bl _)
    · intro k acc H5 e5 m1 m2 m3
      walk_at "lyS"
      have m3' : DpAll K H5 acc ((List.replicate (l.2.length - 1) true).map PyData.bool) := by
        have : (List.range (l.2.length - 1)).map (fun _ => PyData.bool true) = (List.replicate (l.2.length - 1) true).map PyData.bool := by
          rw [List.map_replicate]
          exact List.map_const' .. |>.trans (by rw [List.length_range])
        rw [← this]
        exact m3
      refine x_allD (dp_lst m2 m3') ?_
      have : (List.replicate (l.2.length - 1) true).all id = true := by simp
      rw [this]
      exact q _ (e.trans (e4.trans e5))
theorem x_lin1 {H : Hp} {Q : VK} {E : XK} {v : V} {n : Nat} {l : Lin} (hv : Dp K H v (eL l)) (hl : LinD n l) (hn : n ≤ 3) (q : ∀ H', Ex H H' → Q (.bl true) H') : sp_lin1 K [v] H Q E := ⟨v, n, l, rfl, hv, hl, hn, q⟩
def sp_issum (K : PySem.W.Frag) : Sp := fun vs H Q _ => ∃ (v : V) (n : Nat) (l : Lin), vs = [v, .int n] ∧ Dp K H v (eL l) ∧ LinD n l ∧ n ≤ 3 ∧ ∀ H', Ex H H' → Q (.bl true) H'
theorem cal_is_sum (T : Top K w mg) : Cal P w K mg base "is_sum" ["value", "many"] 3 (sp_issum K) := by
  refine cal_of T.f_is_sum sc_is_sum ?len (fun _ _ _ _ _ _ us hl => match us, hl with | [_, _], _ => rfl) (fun f cdv A outer s H vs Q E hr h => ⟨_, (pss_cons (ps_if (PW.pt (pw_or (pt_not (pt_val (pe_callB Lay.call_isiK rfl T.b_isinstance (by decide +kernel) (pa_cons (pv 0) (pa_cons (pe_bltn (v := .ty "tuple") rfl T.b_tuple (by decide +kernel) rfl) pa_nil))))) (pw_or (pt_cmpR op_ne (pe_callB call_lenK rfl T.b_len PySem.boot_len (pa_cons (pv 0) pa_nil)) pe_int (nomark _)) (pw_or (pt_not (pt_val (pe_def (cal_is_near T) (hr.mono (by omega)) (pa_cons (pe_ix ix_tupK (pv 0) pe_int (fun _ _ => rfl)) pa_nil)))) (pw_or1 (pt_not (pt_val (pe_def (cal_is_linear T) (hr.mono (by omega)) (pa_cons (pv 0) pa_nil))))))))) (pss_one (ps_ret pe_bl)) pss_nil)
      (pss_one (ps_ret (pe_callB cr_allK rfl T.b_all (by decide +kernel) (pa_cons (pe_lc (own := [("v", 2), ("one", 3)]) (g := (gTup K 2 (gCons (gName 2) (gCons (gName 3) gNil)))) rfl sc_is_sum.nd (pi_tup (pe_ix ix_tupK (pv 0) pe_int (fun _ _ => rfl))) (blkOk_by (by show blkC ["value", "many", "v", "one"] (defScope s_is_sum) _ _ = true; decide +kernel)) (fun _ _ _ _ _ => (pg_tup rfl (pgs_cons (pg_name (i := 2) sc_is_sum.nd rfl (by first | exact Or.inl rfl | exact Or.inr rfl)) (pgs_cons (pg_name (i := 3) sc_is_sum.nd rfl (by first | exact Or.inl rfl | exact Or.inr rfl)) pgs_nil)))) (fun _ _ _ _ _ => pts_nil) (fun _ _ _ _ _ => (pe_and (pe_cmpR op_lt (pv 2) (pv 1) (nomark _)) (pe_one (pe_def (cal_is_near T) (hr.mono (by omega)) (pa_cons (pv 3) pa_nil)))))) pa_nil))))), ?_⟩)
  case len => intro vs H Q E h; obtain ⟨_, _, _, rfl, _⟩ := h; rfl
  obtain ⟨v, n, l, rfl, hv, hl, hn, q⟩ := h
  have hl4 : l.2.length ≤ 3 := by have := hl.2.2.2; omega
  walk_at "lyS"
  refine x_near (by have := hl.1; omega) ?_
  walk_at "lyS"
  refine x_lin1 hv hl hn fun H1 e1 => ?_
  walk_at "lyS"
  refine x_lcT l.2 eT (fun _ => .bool true) (by walk_at "lyD") (fun _ _ => rfl) (by omega) ?_ ?_
  · intro C a x H' ha e hx hC
    obtain ⟨t0, t1, t2⟩ := hl.2.1 a ha
    refine x_gtup2 hx fun v1 v2 g1 g2 => ?_
    obtain rfl := Dp.int_inv g1
    obtain rfl := Dp.int_inv g2
    walk_at "lyS"
    refine ⟨rfl, ?_⟩
    walk_at "lyS"
    refine x_ifdT t1 ?_
    walk_at "lyS"
    exact x_near (by omega) (hC _ _ (R.refl _) (.bl _))
  · intro k acc H5 e5 m1 m2 m3
    walk_at "lyS"
    have m3' : DpAll K H5 acc ((List.replicate l.2.length true).map PyData.bool) := by
      have : l.2.map (fun _ => PyData.bool true) = (List.replicate l.2.length true).map PyData.bool := by
        rw [List.map_replicate]
        exact List.map_const' ..
      rw [← this]
      exact m3
    refine x_allD (dp_lst m2 m3') ?_
    have : (List.replicate l.2.length true).all id = true := by simp
    rw [this]
    exact q _ (e1.trans e5)
end
end K85

/-! ### text T18 -/
namespace K85
open PySem PySem.Spec PyProof.Rows L2 Lay RZ


section
variable {P : Program} {w : World} {K : PySem.W.Frag} {mg : Str → Option Value} {base : Heap}
theorem x_issum {H : Hp} {Q : VK} {E : XK} {v : V} {n : Nat} {l : Lin} (hv : Dp K H v (eL l)) (hl : LinD n l) (hn : n ≤ 3) (q : ∀ H', Ex H H' → Q (.bl true) H') : sp_issum K [v, .int n] H Q E := ⟨v, n, l, rfl, hv, hl, hn, q⟩
def sp_isatom (K : PySem.W.Frag) : Sp := fun vs H Q _ => ∃ (v : V) (n : Nat) (f : Fm), vs = [v, .int n] ∧ Dp K H v (eF f) ∧ FmD n f ∧ f.atom = true ∧ n ≤ 3 ∧ ∀ H', Ex H H' → Q (.bl true) H'
theorem cal_is_atom (T : Top K w mg) : Cal P w K mg base "is_atom" ["value", "many"] 4 (sp_isatom K) := by
  refine cal_of T.f_is_atom sc_is_atom ?len (fun _ _ _ _ _ _ us hl => match us, hl with | [_, _], _ => rfl) (fun f cdv A outer s H vs Q E hr h => ⟨_, (pss_cons (ps_if (pt_cmpR op_eq (pe_ix ix_tupK (pv 0) pe_int (fun _ _ => rfl)) (pe_gstr T.c_LE) (nomark _)) (pss_one (ps_ret (pe_and (pe_cmpR op_eq (pe_callB call_lenK rfl T.b_len PySem.boot_len (pa_cons (pv 0) pa_nil)) pe_int (nomark _)) (pe_one (pe_def (cal_is_sum T) (hr.mono (by omega)) (pa_cons (pe_ix ix_tupK (pv 0) pe_int (fun _ _ => rfl)) (pa_cons (pv 1) pa_nil))))))) pss_nil)
      (pss_one (ps_ret (pe_and (pe_cmpR op_eq (pe_callB call_lenK rfl T.b_len PySem.boot_len (pa_cons (pv 0) pa_nil)) pe_int (nomark _)) (pe_and (pe_def (cal_is_divisor T) (hr.mono (by omega)) (pa_cons (pe_ix ix_tupK (pv 0) pe_int (fun _ _ => rfl)) pa_nil)) (pe_one (pe_def (cal_is_sum T) (hr.mono (by omega)) (pa_cons (pe_ix ix_tupK (pv 0) pe_int (fun _ _ => rfl)) (pa_cons (pv 1) pa_nil))))))))), ?_⟩)
  case len => intro vs H Q E h; obtain ⟨_, _, _, rfl, _⟩ := h; rfl
  obtain ⟨v, n, f, rfl, hv, hf, ha, hn, q⟩ := h
  cases f with
  | le l =>
    walk_at "lyS"
    exact x_issum (by walk_at "lyD") hf hn q
  | into k l =>
    obtain ⟨hk, hl⟩ := hf
    walk_at "lyS"
    refine x_divisor (by omega) ?_
    walk_at "lyS"
    exact x_issum (by walk_at "lyD") hl hn q
  | off k l =>
    obtain ⟨hk, hl⟩ := hf
    walk_at "lyS"
    refine x_divisor (by omega) ?_
    walk_at "lyS"
    exact x_issum (by walk_at "lyD") hl hn q
  | yes => cases ha
  | both f g => cases ha
  | one f g => cases ha
def sp_isval (K : PySem.W.Frag) : Sp := fun vs H Q _ => ∃ (v : V) (n : Nat) (f : Va), vs = [v, .int n] ∧ Dp K H v (eV f) ∧ VaD n f ∧ n ≤ 3 ∧ ∀ H', Ex H H' → Q (.bl true) H'
theorem sh_V (f : Va) : Sh 5 (eV f) := by
  cases f with
  | over l b =>
    refine Sh.tup fun d hd => ?_
    have : d = .str "over" ∨ d = eL l ∨ d = .int b := by simpa using hd
    rcases this with e | e | e
    · subst e
      exact .str (by decide +kernel)
    · subst e
      exact (sh_L l).mono (by decide)
    · subst e
      exact .int
  | low ls r p b =>
    refine Sh.tup fun d hd => ?_
    have : d = .str "low" ∨ d = .tuple (ls.map eL) ∨ d = .int r ∨ d = .int p ∨ d = .int b := by simpa using hd
    rcases this with e | e | e | e | e <;> subst e
    · exact .str (by decide +kernel)
    · exact sh_Ls ls
    · exact .int
    · exact .int
    · exact .int
  | high ls r p b =>
    refine Sh.tup fun d hd => ?_
    have : d = .str "high" ∨ d = .tuple (ls.map eL) ∨ d = .int r ∨ d = .int p ∨ d = .int b := by simpa using hd
    rcases this with e | e | e | e | e <;> subst e
    · exact .str (by decide +kernel)
    · exact sh_Ls ls
    · exact .int
    · exact .int
    · exact .int
theorem all_true {H : Hp} {acc : List V} {α : Type} {xs : List α} (h : DpAll K H acc (xs.map fun _ => PyData.bool true)) : DpAll K H acc ((List.replicate xs.length true).map PyData.bool) := by
  have : xs.map (fun _ => PyData.bool true) = (List.replicate xs.length true).map PyData.bool := by
    rw [List.map_replicate]
    exact List.map_const' ..
  rw [← this]
  exact h
theorem cal_is_value (T : Top K w mg) : Cal P w K mg base "is_value" ["value", "many"] 4 (sp_isval K) := by
  refine cal_of T.f_is_value sc_is_value ?len (fun _ _ _ _ _ _ us hl => match us, hl with | [_, _], _ => rfl) (fun f cdv A outer s H vs Q E hr h => ⟨_, (pss_cons (ps_if (PW.pt (pw_or (pt_not (pt_val (pe_callB Lay.call_isiK rfl T.b_isinstance (by decide +kernel) (pa_cons (pv 0) (pa_cons (pe_bltn (v := .ty "tuple") rfl T.b_tuple (by decide +kernel) rfl) pa_nil))))) (pw_or (pt_cmpR (op_eqDK hr.units) (pv 0) (pe_tup pa_nil) (nomark _)) (pw_or1 (pt_not (pt_val (pe_callB Lay.call_isiK rfl T.b_isinstance (by decide +kernel) (pa_cons (pe_ix ix_tupK (pv 0) pe_int (fun _ _ => rfl)) (pa_cons (pe_bltn (v := .ty "str") rfl T.b_str (by decide +kernel) rfl) pa_nil))))))))) (pss_one (ps_ret pe_bl)) pss_nil)
      (pss_cons (ps_if (pt_cmpR op_eq (pe_ix ix_tupK (pv 0) pe_int (fun _ _ => rfl)) (pe_gstr T.c_OVER_judge) (nomark _)) (pss_one (ps_ret (pe_and (pe_cmpR op_eq (pe_callB call_lenK rfl T.b_len PySem.boot_len (pa_cons (pv 0) pa_nil)) pe_int (nomark _)) (pe_and (pe_def (cal_is_sum T) (hr.mono (by omega)) (pa_cons (pe_ix ix_tupK (pv 0) pe_int (fun _ _ => rfl)) (pa_cons (pv 1) pa_nil))) (pe_one (pe_def (cal_is_divisor T) (hr.mono (by omega)) (pa_cons (pe_ix ix_tupK (pv 0) pe_int (fun _ _ => rfl)) pa_nil))))))) pss_nil)
      (pss_cons (ps_if (PW.pt (pw_or (pt_cmpR op_notInK (pe_ix ix_tupK (pv 0) pe_int (fun _ _ => rfl)) (pe_tup (pa_cons (pe_gstr T.c_LOW_judge) (pa_cons (pe_gstr T.c_HIGH) pa_nil))) rfl) (pw_or (pt_cmpR op_ne (pe_callB call_lenK rfl T.b_len PySem.boot_len (pa_cons (pv 0) pa_nil)) pe_int (nomark _)) (pw_or1 (pt_not (pt_val (pe_callB Lay.call_isiK rfl T.b_isinstance (by decide +kernel) (pa_cons (pe_ix ix_tupK (pv 0) pe_int (fun _ _ => rfl)) (pa_cons (pe_bltn (v := .ty "tuple") rfl T.b_tuple (by decide +kernel) rfl) pa_nil))))))))) (pss_one (ps_ret pe_bl)) pss_nil)
      (pss_cons (ps_if (PW.pt (pw_or (pt_not (pt_val (pe_callB cr_allK rfl T.b_all (by decide +kernel) (pa_cons (pe_lc (own := [("one", 2)]) (g := (gName 2)) rfl sc_is_value.nd (pi_tup (pe_ix ix_tupK (pv 0) pe_int (fun _ _ => rfl))) (blkOk_by (by show blkC ["value", "many", "one"] (defScope s_is_value) _ _ = true; decide +kernel)) (fun _ _ _ _ _ => (pg_name (i := 2) sc_is_value.nd rfl (by first | exact Or.inl rfl | exact Or.inr rfl))) (fun _ _ _ _ _ => pts_nil) (fun _ _ _ _ _ => (pe_def (cal_is_sum T) (hr.mono (by omega)) (pa_cons (pv 2) (pa_cons (pv 1) pa_nil))))) pa_nil)))) (pw_or (pt_not (pt_val (pe_def (cal_is_count T) (hr.mono (by omega)) (pa_cons (pe_ix ix_tupK (pv 0) pe_int (fun _ _ => rfl)) pa_nil)))) (pw_or1 (pt_not (pt_val (pe_def (cal_is_near T) (hr.mono (by omega)) (pa_cons (pe_ix ix_tupK (pv 0) pe_int (fun _ _ => rfl)) pa_nil)))))))) (pss_one (ps_ret pe_bl)) pss_nil)
      (pss_one (ps_ret (pe_and (pe_def (cal_is_divisor T) (hr.mono (by omega)) (pa_cons (pe_ix ix_tupK (pv 0) pe_int (fun _ _ => rfl)) pa_nil)) (pe_and (pe_cmpR op_lt (pe_ix ix_tupK (pv 0) pe_int (fun _ _ => rfl)) (pe_ix ix_tupK (pv 0) pe_int (fun _ _ => rfl)) (nomark _)) (pe_one (pe_def (cal_is_divisor T) (hr.mono (by omega)) (pa_cons (pe_ix ix_tupK (pv 0) pe_int (fun _ _ => rfl)) pa_nil))))))))))), ?_⟩)
  case len => intro vs H Q E h; obtain ⟨_, _, _, rfl, _⟩ := h; rfl
  obtain ⟨v, n, f, rfl, hv, hf, hn, q⟩ := h
  cases f with
  | over l b =>
    obtain ⟨hl, hb⟩ := hf
    walk_at "lyS"
    refine ⟨eV (.over l b), .tuple [], by walk_at "lyD", by walk_at "lyD", ((sh_V _).mono (by decide)).ok, (sh_nil.mono (by decide)).ok, ?_⟩
    walk_at "lyS"
    refine x_issum (by walk_at "lyD") hl hn fun H2 e2 => ?_
    walk_at "lyS"
    exact x_divisor (by omega) (q _ (by walk_at "lyT"))
  | low ls r p b =>
    obtain ⟨hls, h2, h3, h4, h5, h6⟩ := hf
    walk_at "lyS"
    refine ⟨eV (.low ls r p b), .tuple [], by walk_at "lyD", by walk_at "lyD", ((sh_V _).mono (by decide)).ok, (sh_nil.mono (by decide)).ok, ?_⟩
    walk_at "lyS"
    refine x_lcT ls eL (fun _ => .bool true) (by walk_at "lyD") (fun _ _ => rfl) (by omega) ?_ ?_
    · intro C a x H' ha e hx hC
      walk_at "lyS"
      refine ⟨rfl, ?_⟩
      walk_at "lyS"
      exact x_issum hx (hls a ha) hn fun H4 e4 => hC _ _ e4 (.bl _)
    · intro k acc H5 e5 m1 m2 m3
      walk_at "lyS"
      refine x_allD (dp_lst m2 (all_true m3)) ?_
      have ea : (List.replicate ls.length true).all id = true := by simp
      rw [ea]
      walk_at "lyS"
      refine ⟨r, rfl, h3, ?_⟩
      walk_at "lyS"
      refine x_near (by omega) ?_
      walk_at "lyS"
      refine x_divisor (by omega) ?_
      walk_at "lyS"
      refine x_ifdT h4 ?_
      walk_at "lyS"
      exact x_divisor (by omega) (q _ (by walk_at "lyT"))
  | high ls r p b =>
    obtain ⟨hls, h2, h3, h4, h5, h6⟩ := hf
    walk_at "lyS"
    refine ⟨eV (.high ls r p b), .tuple [], by walk_at "lyD", by walk_at "lyD", ((sh_V _).mono (by decide)).ok, (sh_nil.mono (by decide)).ok, ?_⟩
    walk_at "lyS"
    refine x_lcT ls eL (fun _ => .bool true) (by walk_at "lyD") (fun _ _ => rfl) (by omega) ?_ ?_
    · intro C a x H' ha e hx hC
      walk_at "lyS"
      refine ⟨rfl, ?_⟩
      walk_at "lyS"
      exact x_issum hx (hls a ha) hn fun H4 e4 => hC _ _ e4 (.bl _)
    · intro k acc H5 e5 m1 m2 m3
      walk_at "lyS"
      refine x_allD (dp_lst m2 (all_true m3)) ?_
      have ea : (List.replicate ls.length true).all id = true := by simp
      rw [ea]
      walk_at "lyS"
      refine ⟨r, rfl, h3, ?_⟩
      walk_at "lyS"
      refine x_near (by omega) ?_
      walk_at "lyS"
      refine x_divisor (by omega) ?_
      walk_at "lyS"
      refine x_ifdT h4 ?_
      walk_at "lyS"
      exact x_divisor (by omega) (q _ (by walk_at "lyT"))
theorem x_isval {H : Hp} {Q : VK} {E : XK} {v : V} {n : Nat} {f : Va} (hv : Dp K H v (eV f)) (hl : VaD n f) (hn : n ≤ 3) (q : ∀ H', Ex H H' → Q (.bl true) H') : sp_isval K [v, .int n] H Q E := ⟨v, n, f, rfl, hv, hl, hn, q⟩
theorem x_isatom {H : Hp} {Q : VK} {E : XK} {v : V} {n : Nat} {f : Fm} (hv : Dp K H v (eF f)) (hl : FmD n f) (ha : f.atom = true) (hn : n ≤ 3) (q : ∀ H', Ex H H' → Q (.bl true) H') : sp_isatom K [v, .int n] H Q E := ⟨v, n, f, rfl, hv, hl, ha, hn, q⟩
end
end K85

/-! ### text T19 -/
namespace K85
open PySem PySem.Spec PyProof.Rows L2 Lay RZ


section
variable {P : Program} {w : World} {K : PySem.W.Frag} {mg : Str → Option Value} {base : Heap}
theorem x_bm0 {T : String} {r : V → List V → Hp → VK → Prop} {to : TE} {σ : L2.St} {H : Hp} {Q : VK} (q : to σ H fun x H1 => tyV K T x H1 ∧ r x [] H1 Q) : tBM0 K T r to σ H Q := q
theorem x_bm {T : String} {r : V → List V → Hp → VK → Prop} {to : TE} {t : TA} {σ : L2.St} {H : Hp} {Q : VK} (q : to σ H fun x H1 => tyV K T x H1 ∧ t σ H1 fun xs H2 => r x xs H2 Q) : tBM K T r to t σ H Q := q
theorem ty_lst {H : Hp} {l : Addr} {xs : List V} (h : H l = some (.lst xs)) : tyV K "list" (.ref l) H := .inl ⟨rfl, xs, SqL.of h⟩
theorem eqvL_nil : PyData.eqv (.list []) (.list []) = true := by simp [PyData.eqv, PyData.eqvAll]
theorem eqvL_cons (d : PyData) (ds : List PyData) : PyData.eqv (.list (d :: ds)) (.list []) = false := by simp [PyData.eqv, PyData.eqvAll]
theorem eqvT_cons (d : PyData) (ds : List PyData) : PyData.eqv (.tuple (d :: ds)) (.tuple []) = false := by simp [PyData.eqv, PyData.eqvAll]
theorem sh_FD {n : Nat} {f : Fm} (h : FmD n f) : Sh 5 (eF f) := by
  cases f with
  | le l =>
    refine Sh.tup fun d hd => ?_
    have : d = .str "le" ∨ d = eL l := by simpa using hd
    rcases this with e | e <;> subst e
    · exact .str (by decide +kernel)
    · exact (sh_L l).mono (by decide)
  | into k l =>
    refine Sh.tup fun d hd => ?_
    have : d = .str "into" ∨ d = .int k ∨ d = eL l := by simpa using hd
    rcases this with e | e | e <;> subst e
    · exact .str (by decide +kernel)
    · exact .int
    · exact (sh_L l).mono (by decide)
  | off k l =>
    refine Sh.tup fun d hd => ?_
    have : d = .str "off" ∨ d = .int k ∨ d = eL l := by simpa using hd
    rcases this with e | e | e <;> subst e
    · exact .str (by decide +kernel)
    · exact .int
    · exact (sh_L l).mono (by decide)
  | yes =>
    refine Sh.tup fun d hd => ?_
    have : d = .str "and" ∨ d = .tuple [] := by simpa using hd
    rcases this with e | e <;> subst e
    · exact .str (by decide +kernel)
    · exact sh_nil.mono (by decide)
  | both f g => exact h.elim
  | one f g => exact h.elim
theorem sh_left {n : Nat} {f : Fm} (h : FmD n f) : Sh 7 (.list [.tuple [eF f, .int 1]]) := by
  refine Sh.lst fun d hd => ?_
  have : d = .tuple [eF f, .int 1] := by simpa using hd
  subst this
  refine Sh.tup fun d hd => ?_
  have : d = eF f ∨ d = .int 1 := by simpa using hd
  rcases this with e | e <;> subst e
  · exact sh_FD h
  · exact .int
theorem shL_nil : Sh 1 (.list []) := Sh.lst fun d hd => by cases hd
def sp_isbare (K : PySem.W.Frag) : Sp := fun vs H Q _ => ∃ (v : V) (n : Nat) (f : Fm), vs = [v, .int n] ∧ Dp K H v (eF f) ∧ FmD n f ∧ n ≤ 3 ∧ ∀ H', Ex H H' → Q (.bl true) H'
theorem cal_is_bare_formula (T : Top K w mg) : Cal P w K mg base "is_bare_formula" ["value", "many"] 5 (sp_isbare K) := by
  refine cal_of T.f_is_bare_formula sc_is_bare_formula ?len (fun _ _ _ _ _ _ us hl => match us, hl with | [_, _], _ => rfl) (fun f cdv A outer s H vs Q E hr h => ⟨_, (pss_cons (ps_set (i := 2) sc_is_bare_formula.nd rfl (by first | exact Or.inl rfl | exact Or.inr rfl) (pe_lst (pa_cons (pe_tup (pa_cons (pv 0) (pa_cons pe_int pa_nil))) pa_nil)))
      (pss_cons (ps_while PassesOwn.never (pt_cmpR (op_neDK hr.units) (pv 2) (pe_lst pa_nil) (nomark _)) (pss_cons (ps_asg (pe_bm0 PySem.F.plainAttrs_list PySem.F.slot_list_pop PySem.F.type_list_pop mt_pop (pv 2)) (pg_tup rfl (pgs_cons (pg_name (i := 3) sc_is_bare_formula.nd rfl (by first | exact Or.inl rfl | exact Or.inr rfl)) (pgs_cons (pg_name (i := 4) sc_is_bare_formula.nd rfl (by first | exact Or.inl rfl | exact Or.inr rfl)) pgs_nil))))
      (pss_cons (ps_if (PW.pt (pw_or (pt_not (pt_val (pe_callB Lay.call_isiK rfl T.b_isinstance (by decide +kernel) (pa_cons (pv 3) (pa_cons (pe_bltn (v := .ty "tuple") rfl T.b_tuple (by decide +kernel) rfl) pa_nil))))) (pw_or (pt_cmpR (op_eqDK hr.units) (pv 3) (pe_tup pa_nil) (nomark _)) (pw_or (pt_not (pt_val (pe_callB Lay.call_isiK rfl T.b_isinstance (by decide +kernel) (pa_cons (pe_ix ix_tupK (pv 3) pe_int (fun _ _ => rfl)) (pa_cons (pe_bltn (v := .ty "str") rfl T.b_str (by decide +kernel) rfl) pa_nil))))) (pw_or1 (pt_cmpR op_gt (pv 4) (pe_gint T.c_MOST_DEEP) (nomark _))))))) (pss_one (ps_ret pe_bl)) pss_nil)
      (pss_one (ps_if (pt_cmpR op_inK (pe_ix ix_tupK (pv 3) pe_int (fun _ _ => rfl)) (pe_tup (pa_cons (pe_gstr T.c_AND) (pa_cons (pe_gstr T.c_OR) pa_nil))) rfl) (pss_cons (ps_if (PW.pt (pw_or (pt_cmpR op_ne (pe_callB call_lenK rfl T.b_len PySem.boot_len (pa_cons (pv 3) pa_nil)) pe_int (nomark _)) (pw_or1 (pt_not (pt_val (pe_callB Lay.call_isiK rfl T.b_isinstance (by decide +kernel) (pa_cons (pe_ix ix_tupK (pv 3) pe_int (fun _ _ => rfl)) (pa_cons (pe_bltn (v := .ty "tuple") rfl T.b_tuple (by decide +kernel) rfl) pa_nil)))))))) (pss_one (ps_ret pe_bl)) pss_nil)
      (pss_one (ps_expr (pe_bm PySem.F.plainAttrs_list PySem.F.slot_list_extend PySem.F.type_list_extend mt_extend (pv 2) (pa_cons (pe_lc (own := [("part", 5)]) (g := (gName 5)) rfl sc_is_bare_formula.nd (pi_tup (pe_ix ix_tupK (pv 3) pe_int (fun _ _ => rfl))) (blkOk_by (by show blkC ["value", "many", "left", "one", "depth", "part"] (defScope s_is_bare_formula) _ _ = true; decide +kernel)) (fun _ _ _ _ _ => (pg_name (i := 5) sc_is_bare_formula.nd rfl (by first | exact Or.inl rfl | exact Or.inr rfl))) (fun _ _ _ _ _ => pts_nil) (fun _ _ _ _ _ => (pe_tup (pa_cons (pv 5) (pa_cons (pe_op op_add (pv 4) pe_int) pa_nil))))) pa_nil))))) (pss_one (ps_if (PW.pt (pw_or (pt_cmpR op_notInK (pe_ix ix_tupK (pv 3) pe_int (fun _ _ => rfl)) (pe_gdatK T.c_ATOMS) rfl) (pw_or1 (pt_not (pt_val (pe_def (cal_is_atom T) (hr.mono (by omega)) (pa_cons (pv 3) (pa_cons (pv 1) pa_nil)))))))) (pss_one (ps_ret pe_bl)) pss_nil)))))))
      (pss_one (ps_ret pe_bl)))), ?_⟩)
  case len => intro vs H Q E h; obtain ⟨_, _, _, rfl, _⟩ := h; rfl
  obtain ⟨v, n, f, rfl, hv, hf, hn, q⟩ := h
  walk_at "lyS"
  rename_i w1 H1 e1 hw1 l H2 e2 hl2 t2 c2
  refine x_whE ?_
  have hl : H l = none := R.exfree e1 hl2
  refine ⟨fun m σ' H' => Ex H H' ∧ ((m = 1 ∧ H' l = some (.lst [w1]) ∧ Dp K H' w1 (.tuple [eF f, .int 1]) ∧ σ' = [some v, some (V.int n), some (V.ref l), none, none, none]) ∨ (m = 0 ∧ H' l = some (.lst []) ∧ ∃ x3 x4 x5, σ' = [some v, some (V.int n), some (V.ref l), x3, x4, x5])), ⟨1, e1.trans e2, .inl ⟨rfl, t2, R.xp e2 _ _ hw1, rfl⟩⟩, ?_⟩
  rintro m σ' H3 ⟨e3, ⟨rfl, g1, g2, rfl⟩ | ⟨rfl, g1, x3, x4, x5, rfl⟩⟩
  · walk_at "lyS"
    rename_i l2 H4 e4 n4 t4 c4
    have g1' : H4 l = some (.lst [w1]) := e4.keep l _ (by simp) g1
    have g2' := R.xp e4 _ _ g2
    refine ⟨.list [.tuple [eF f, .int 1]], .list [], dp_lst g1' (.cons g2' .nil), c4.dp, ((sh_left hf).mono (by decide)).ok, (shL_nil.mono (by decide)).ok, ?_⟩
    rw [eqvL_cons]
    walk_at "lyS"
    refine ⟨_, fun σ' H' h => h, ?_⟩
    walk_at "lyS"
    refine x_bm0 ?_
    walk_at "lyS"
    refine ⟨ty_lst g1', l, [w1], w1, rfl, rfl, g1', rfl, ?_⟩
    have e5 : Ex H (upd H4 l (.lst ([w1] : List V).dropLast)) := R.mut (e3.trans e4) hl
    have t5 : (upd H4 l (.lst ([w1] : List V).dropLast)) l = some (.lst []) := upd_same
    have g5 : Dp K (upd H4 l (.lst ([w1] : List V).dropLast)) w1 (.tuple [eF f, .int 1]) := im_keep (fun a xs q => sqt_lst g1' q) _ _ (by simp only [im, ims, im_F, Bool.and_self]) g2'
    generalize upd H4 l (.lst ([w1] : List V).dropLast) = H5 at e5 t5 g5 ⊢
    walk_at "lyS"
    refine x_gtup2 g5 fun u1 u2 k1 k2 => ?_
    obtain rfl := Dp.int_inv k2
    cases f with
    | le l0 =>
      walk_at "lyS"
      refine ⟨eF (.le l0), .tuple [], by walk_at "lyD", by walk_at "lyD", ((sh_FD hf).mono (by decide)).ok, (sh_nil.mono (by decide)).ok, ?_⟩
      rw [show PyData.eqv (eF (.le l0)) (.tuple []) = false from eqvT_cons _ _]
      walk_at "lyS"
      refine x_isatom (by walk_at "lyD") hf rfl hn fun H9 e9 => ?_
      walk_at "lyS"
      exact ⟨0, by decide, by walk_at "lyT", .inr ⟨rfl, (by have r : Ex H5 H9 := by walk_at "lyT"
                                                            exact r.keep l _ (by simp) t5), _, _, _, rfl⟩⟩
    | into k l0 =>
      walk_at "lyS"
      refine ⟨eF (.into k l0), .tuple [], by walk_at "lyD", by walk_at "lyD", ((sh_FD hf).mono (by decide)).ok, (sh_nil.mono (by decide)).ok, ?_⟩
      rw [show PyData.eqv (eF (.into k l0)) (.tuple []) = false from eqvT_cons _ _]
      walk_at "lyS"
      refine x_isatom (by walk_at "lyD") hf rfl hn fun H9 e9 => ?_
      walk_at "lyS"
      exact ⟨0, by decide, by walk_at "lyT", .inr ⟨rfl, (by have r : Ex H5 H9 := by walk_at "lyT"
                                                            exact r.keep l _ (by simp) t5), _, _, _, rfl⟩⟩
    | off k l0 =>
      walk_at "lyS"
      refine ⟨eF (.off k l0), .tuple [], by walk_at "lyD", by walk_at "lyD", ((sh_FD hf).mono (by decide)).ok, (sh_nil.mono (by decide)).ok, ?_⟩
      rw [show PyData.eqv (eF (.off k l0)) (.tuple []) = false from eqvT_cons _ _]
      walk_at "lyS"
      refine x_isatom (by walk_at "lyD") hf rfl hn fun H9 e9 => ?_
      walk_at "lyS"
      exact ⟨0, by decide, by walk_at "lyT", .inr ⟨rfl, (by have r : Ex H5 H9 := by walk_at "lyT"
                                                            exact r.keep l _ (by simp) t5), _, _, _, rfl⟩⟩
    | yes =>
      walk_at "lyS"
      refine ⟨eF .yes, .tuple [], by walk_at "lyD", by walk_at "lyD", ((sh_FD hf).mono (by decide)).ok, (sh_nil.mono (by decide)).ok, ?_⟩
      rw [show PyData.eqv (eF .yes) (.tuple []) = false from eqvT_cons _ _]
      walk_at "lyS"
      refine x_bm ?_
      walk_at "lyS"
      refine And.intro (ty_lst (xs := []) (R.keep (M := []) (H := H5) (by walk_at "lyT") l _ (by simp) t5)) ?_
      walk_at "lyS"
      refine x_lcT (α := Fm) [] eF (fun _ => .bool true) (by walk_at "lyD") (by simp) (by simp) (fun C a x H' ha => absurd ha (by simp)) ?_
      intro b acc H9 e9 m1 m2 m3
      obtain rfl := DpAll.inv0 m3
      walk_at "lyS"
      have t9 : H9 l = some (.lst []) := R.keep (M := []) (H := H5) (by walk_at "lyT") l _ (by simp) t5
      have e10 : Ex H H9 := by walk_at "lyT"
      exact ⟨l, b, [], [], rfl, rfl, t9, m2, by decide, 0, by decide, R.mut e10 hl, .inr ⟨rfl, upd_same, _, _, _, rfl⟩⟩
    | both f g => exact hf.elim
    | one f g => exact hf.elim
  · walk_at "lyS"
    rename_i l2 H4 e4 n4 t4 c4
    have g1' : H4 l = some (.lst []) := e4.keep l _ (by simp) g1
    refine ⟨.list [], .list [], dp_lst g1' .nil, c4.dp, (shL_nil.mono (by decide)).ok, (shL_nil.mono (by decide)).ok, ?_⟩
    rw [eqvL_nil]
    walk_at "lyS"
    exact q _ (e3.trans e4)
end
end K85

/-! ### text T20 -/
namespace K85
open PySem PySem.Spec PyProof.Rows L2 Lay RZ


section
variable {P : Program} {w : World} {K : PySem.W.Frag} {mg : Str → Option Value} {base : Heap}
theorem x_isbare {H : Hp} {Q : VK} {E : XK} {v : V} {n : Nat} {f : Fm} (hv : Dp K H v (eF f)) (hl : FmD n f) (hn : n ≤ 3) (q : ∀ H', Ex H H' → Q (.bl true) H') : sp_isbare K [v, .int n] H Q E := ⟨v, n, f, rfl, hv, hl, hn, q⟩
def sp_ispiece (K : PySem.W.Frag) : Sp := fun vs H Q _ => ∃ (v : V) (n : Nat) (p : Fm × Va), vs = [v, .int n] ∧ Dp K H v (eP1 p) ∧ FmD n p.1 ∧ VaD n p.2 ∧ n ≤ 3 ∧ ∀ H', Ex H H' → Q (.bl true) H'
theorem cal_is_piece (T : Top K w mg) : Cal P w K mg base "is_piece" ["value", "many"] 6 (sp_ispiece K) := by
  refine cal_of T.f_is_piece sc_is_piece ?len (fun _ _ _ _ _ _ us hl => match us, hl with | [_, _], _ => rfl) (fun f cdv A outer s H vs Q E hr h => ⟨_, (pss_cons (ps_if (PW.pt (pw_or (pt_not (pt_val (pe_callB Lay.call_isiK rfl T.b_isinstance (by decide +kernel) (pa_cons (pv 0) (pa_cons (pe_bltn (v := .ty "tuple") rfl T.b_tuple (by decide +kernel) rfl) pa_nil))))) (pw_or1 (pt_cmpR op_ne (pe_callB call_lenK rfl T.b_len PySem.boot_len (pa_cons (pv 0) pa_nil)) pe_int (nomark _))))) (pss_one (ps_ret pe_bl)) pss_nil)
      (pss_one (ps_ret (pe_and (pe_def (cal_is_bare_formula T) (hr.mono (by omega)) (pa_cons (pe_ix ix_tupK (pv 0) pe_int (fun _ _ => rfl)) (pa_cons (pv 1) pa_nil))) (pe_one (pe_def (cal_is_value T) (hr.mono (by omega)) (pa_cons (pe_ix ix_tupK (pv 0) pe_int (fun _ _ => rfl)) (pa_cons (pv 1) pa_nil)))))))), ?_⟩)
  case len => intro vs H Q E h; obtain ⟨_, _, _, rfl, _⟩ := h; rfl
  obtain ⟨v, n, p, rfl, hv, hf, hva, hn, q⟩ := h
  walk_at "lyS"
  refine x_isbare (by walk_at "lyD") hf hn fun H1 e1 => ?_
  walk_at "lyS"
  exact x_isval (by walk_at "lyD") hva hn fun H2 e2 => q _ (e1.trans e2)
theorem x_ispiece {H : Hp} {Q : VK} {E : XK} {v : V} {n : Nat} {p : Fm × Va} (hv : Dp K H v (eP1 p)) (hf : FmD n p.1) (hva : VaD n p.2) (hn : n ≤ 3) (q : ∀ H', Ex H H' → Q (.bl true) H') : sp_ispiece K [v, .int n] H Q E := ⟨v, n, p, rfl, hv, hf, hva, hn, q⟩
/-! a comprehension with two fors, all of whose elements are True -/
def In2 (g1 : TG) (te : TE) (vs1 : List Nat) (D : Addr) (σ2 : L2.St) (Nx : Hp → Prop) (J1 : It) (H4 : Hp) : Prop :=
  ∃ W1 : Nat → Nat → Hp → Prop, (∃ m, W1 0 m H4) ∧ ∀ j k H, W1 j k H →
    (J1.stop j H ∧ Nx H) ∨ (J1.go j H ∧ ∃ Nx1 : Hp → Prop, (∀ H', Nx1 H' → ∃ k', k' < k ∧ W1 (j + 1) k' H') ∧ ∀ x H', J1.yld j H x H' → g1 x (wipe σ2 vs1) H' fun σ3 H5 => wipe σ3 vs1 = wipe σ2 vs1 ∧ tYes σ3 H5 fun b H6 =>
      if b = true then te σ3 H6 fun y H7 => ∃ acc, H7 D = some (.lst acc) ∧ acc.length < sizeLine ∧ Nx1 (upd H7 D (.lst (acc ++ [y]))) else Nx1 H6)
/-- the list at D is of Trues; all else is as at Hs -/
def Tru (D : Addr) (c : Nat) (Hs H : Hp) : Prop := (∃ m, m ≤ c ∧ H D = some (.lst ((List.replicate m true).map V.bl))) ∧ R [D] Hs H
theorem no_pot {D : Addr} {m : Nat} {H : Hp} (h : H D = some (.lst ((List.replicate m true).map V.bl))) : ¬ PotAt H D := fun ⟨a, b, _, e⟩ => by
  rw [h] at e
  have e2 := HO.lst.inj (Option.some.inj e)
  cases m with
  | zero => simp at e2
  | succ m => simp [List.replicate_succ] at e2
theorem tru_ex {D : Addr} {c : Nat} {Hs H H' : Hp} (t : Tru D c Hs H) (e : Ex H H') : Tru D c Hs H' := by
  obtain ⟨⟨m, h1, h2⟩, r⟩ := t
  exact ⟨⟨m, h1, e.keep D _ (by simp) h2⟩, r.trans (R.of e)⟩
theorem tru_put {D : Addr} {c : Nat} {Hs H : Hp} (t : Tru D c Hs H) (h0 : ¬ PotAt Hs D) (hc : c ≤ 10000) : ∃ acc, H D = some (.lst acc) ∧ acc.length < sizeLine ∧ Tru D (c + 1) Hs (upd H D (.lst (acc ++ [V.bl true]))) := by
  obtain ⟨⟨m, h1, h2⟩, r⟩ := t
  refine ⟨_, h2, ?_, ⟨m + 1, Nat.succ_le_succ h1, ?_⟩, ?_⟩
  · rw [List.length_map, List.length_replicate]
    exact Nat.lt_of_le_of_lt (Nat.le_trans h1 hc) (by decide)
  · rw [upd_same, List.replicate_succ', List.map_append]
    rfl
  · have ne : ∀ {a : Addr} {o : HO}, H a = some o → o ≠ .lst ((List.replicate m true).map V.bl) → upd H D (.lst ((List.replicate m true).map V.bl ++ [V.bl true])) a = some o := fun {a o} e n => by
      rw [upd_ne (fun z => n (by rw [z, h2] at e; exact (Option.some.inj e).symm))]
      exact e
    refine ⟨fun a o n e => ?_, fun a ys e => ne (r.tups _ _ e) (fun z => by cases z), fun a o u e => ne (r.frzs _ _ _ e) (fun z => by cases z), fun q hq hp => ?_⟩
    · rw [upd_ne (by simpa using n)]
      exact r.keep a o n e
    · have : q = D := by simpa using hq
      subst this
      exact (h0 hp).elim
theorem x_in2 {g1 : TG} {te : TE} {vs1 : List Nat} {D : Addr} {Hs H4 : Hp} {σ2 : L2.St} {Nx : Hp → Prop} {J1 : It} {n1 c : Nat} {yd : Nat → PyData} (w : DWalk K J1 n1 [D] Hs yd) (hy : ∀ j H x H', J1.yld j H x H' → Ex H H') (h0 : ¬ PotAt Hs D) (t : Tru D c Hs H4) (hc : c + n1 ≤ 10000)
    (hs : ∀ (C : VK) j y H5, j < n1 → R [D] Hs H5 → Dp K H5 y (yd j) → (∀ H6, Ex H5 H6 → C (.bl true) H6) → g1 y (wipe σ2 vs1) H5 fun σ3 H6 => wipe σ3 vs1 = wipe σ2 vs1 ∧ te σ3 H6 C) (hn : ∀ H, Tru D (c + n1) Hs H → Nx H) : In2 g1 te vs1 D σ2 Nx J1 H4 := by
  refine ⟨fun j k H => k = n1 - j ∧ j ≤ n1 ∧ Tru D (c + j) Hs H, ⟨n1, by simp, Nat.zero_le _, t⟩, ?_⟩
  rintro j k H ⟨rfl, hj, tj⟩
  by_cases hlt : j < n1
  · refine .inr ⟨w.goes j H hlt tj.2, fun H' => Tru D (c + (j + 1)) Hs H', fun H' t' => ⟨n1 - (j + 1), by omega, rfl, hlt, t'⟩, fun x H' y => ?_⟩
    obtain ⟨r, hd⟩ := w.yields j H x H' hlt tj.2 y
    have t' := tru_ex tj (hy j H x H' y)
    have key := hs (fun z H7 => ∃ acc, H7 D = some (.lst acc) ∧ acc.length < sizeLine ∧ Tru D (c + (j + 1)) Hs (upd H7 D (.lst (acc ++ [z])))) j x H' hlt t'.2 hd fun H6 e6 => tru_put (c := c + j) (tru_ex t' e6) h0 (by omega)
    have eq : (fun (σ3 : L2.St) (H5 : Hp) => wipe σ3 vs1 = wipe σ2 vs1 ∧ tYes σ3 H5 fun b H6 => if b = true then te σ3 H6 fun y H7 => ∃ acc, H7 D = some (.lst acc) ∧ acc.length < sizeLine ∧ Tru D (c + (j + 1)) Hs (upd H7 D (.lst (acc ++ [y]))) else Tru D (c + (j + 1)) Hs H6) =
        (fun σ3 H6 => wipe σ3 vs1 = wipe σ2 vs1 ∧ te σ3 H6 fun z H7 => ∃ acc, H7 D = some (.lst acc) ∧ acc.length < sizeLine ∧ Tru D (c + (j + 1)) Hs (upd H7 D (.lst (acc ++ [z])))) := by
      funext σ3 H5
      exact congrArg (And _) (show (if true = true then (te σ3 H5 fun y H7 => ∃ acc, H7 D = some (.lst acc) ∧ acc.length < sizeLine ∧ Tru D (c + (j + 1)) Hs (upd H7 D (.lst (acc ++ [y])))) else Tru D (c + (j + 1)) Hs H5) = _ from by simp)
    rw [eq]
    exact key
  · have e : j = n1 := by omega
    subst e
    exact .inl ⟨w.stops H tj.2, hn H tj⟩
theorem Tru.mono {D : Addr} {c d : Nat} {Hs H : Hp} (t : Tru D c Hs H) (h : c ≤ d) : Tru D d Hs H := let ⟨⟨m, h1, h2⟩, r⟩ := t; ⟨⟨m, Nat.le_trans h1 h, h2⟩, r⟩
def Lc2Go (g : TG) (wi1 : TI) (g1 : TG) (te : TE) (vs vs1 : List Nat) (σ : L2.St) (Q : VK) (J : It) (H1 : Hp) : Prop := ∀ D, H1 D = none → ∃ W : Nat → Nat → Hp → Prop, (∃ m, W 0 m (upd H1 D (.lst []))) ∧ ∀ i m H, W i m H →
  (J.stop i H ∧ Q (.ref D) H) ∨ (J.go i H ∧ ∃ Nx : Hp → Prop, (∀ H', Nx H' → ∃ m', m' < m ∧ W (i + 1) m' H') ∧ ∀ x H', J.yld i H x H' → g x (wipe σ vs) H' fun σ2 H2 => wipe σ2 vs = wipe σ vs ∧ tYes σ2 H2 fun b H3 =>
    if b = true then wi1 σ2 H3 fun J1 H4 => In2 g1 te vs1 D σ2 Nx J1 H4 else Nx H3)
theorem x_lc2E {wi : TI} {g : TG} {wi1 : TI} {g1 : TG} {te : TE} {vs vs1 : List Nat} {σ : L2.St} {H : Hp} {Q : VK} (q : wi σ H fun J H1 => Lc2Go g wi1 g1 te vs vs1 σ Q J H1) : tLc2 wi g tYes wi1 g1 tYes te vs vs1 σ H Q := q
theorem x_lc2 {g : TG} {wi1 : TI} {g1 : TG} {te : TE} {vs vs1 : List Nat} {σ : L2.St} {Q : VK} {J : It} {n k : Nat} {H1 : Hp} {yd : Nat → PyData} (hw : ∀ D, H1 D = none → DWalk K J n [D] (upd H1 D (.lst [])) yd) (hy : ∀ i H x H', J.yld i H x H' → Ex H H') (hk : n * k ≤ 5000)
    (hs : ∀ D Nx i x H' c, H1 D = none → i < n → Tru D c (upd H1 D (.lst [])) H' → c ≤ n * k → Dp K H' x (yd i) → (∀ H, Tru D (c + k) (upd H1 D (.lst [])) H → Nx H) → g x (wipe σ vs) H' fun σ2 H2 => wipe σ2 vs = wipe σ vs ∧ wi1 σ2 H2 fun J1 H4 => In2 g1 te vs1 D σ2 Nx J1 H4)
    (hd : ∀ D m H, H1 D = none → Ex H1 H → H D = some (.lst ((List.replicate m true).map V.bl)) → Q (.ref D) H) : Lc2Go g wi1 g1 te vs vs1 σ Q J H1 := by
  intro D hD
  have w := hw D hD
  refine ⟨fun i m H => m = n - i ∧ i ≤ n ∧ Tru D (i * k) (upd H1 D (.lst [])) H, ⟨n, by simp, Nat.zero_le _, ⟨0, Nat.zero_le _, upd_same⟩, R.refl _⟩, ?_⟩
  rintro i m H ⟨rfl, hi, t⟩
  by_cases hlt : i < n
  · refine .inr ⟨w.goes i H hlt t.2, fun H' => Tru D ((i + 1) * k) (upd H1 D (.lst [])) H', fun H' t' => ⟨n - (i + 1), by omega, rfl, hlt, t'⟩, fun x H' y => ?_⟩
    obtain ⟨r, hdp⟩ := w.yields i H x H' hlt t.2 y
    have t' := tru_ex t (hy i H x H' y)
    have key := hs D (fun H' => Tru D ((i + 1) * k) (upd H1 D (.lst [])) H') i x H' (i * k) hD hlt t' (Nat.mul_le_mul_right k hi) hdp fun H t => t.mono (by rw [Nat.add_mul, Nat.one_mul]; exact Nat.le_refl _)
    have eq : (fun (σ2 : L2.St) (H2 : Hp) => wipe σ2 vs = wipe σ vs ∧ tYes σ2 H2 fun b H3 => if b = true then wi1 σ2 H3 fun J1 H4 => In2 g1 te vs1 D σ2 (fun H' => Tru D ((i + 1) * k) (upd H1 D (.lst [])) H') J1 H4 else Tru D ((i + 1) * k) (upd H1 D (.lst [])) H3) =
        (fun σ2 H2 => wipe σ2 vs = wipe σ vs ∧ wi1 σ2 H2 fun J1 H4 => In2 g1 te vs1 D σ2 (fun H' => Tru D ((i + 1) * k) (upd H1 D (.lst [])) H') J1 H4) := by
      funext σ2 H2
      exact congrArg (And _) (show (if true = true then (wi1 σ2 H2 fun J1 H4 => In2 g1 te vs1 D σ2 (fun H' => Tru D ((i + 1) * k) (upd H1 D (.lst [])) H') J1 H4) else Tru D ((i + 1) * k) (upd H1 D (.lst [])) H2) = _ from by simp)
    rw [eq]
    exact key
  · have e : i = n := by omega
    subst e
    obtain ⟨⟨m, _, h2⟩, r⟩ := id t
    refine .inl ⟨w.stops H t.2, hd D m H hD ⟨fun a o _ h => ?_, fun a xs h => ?_, fun a o u h => ?_, fun _ h => absurd h (by simp)⟩ h2⟩
    · exact r.keep a o (by simpa using ne_of_none h hD) (by rw [upd_ne (ne_of_none h hD)]; exact h)
    · exact r.tups a xs (by rw [upd_ne (ne_of_none h hD)]; exact h)
    · exact r.frzs a o u (by rw [upd_ne (ne_of_none h hD)]; exact h)
end
end K85

/-! ### text T21 -/
namespace K85
open PySem PySem.Spec PyProof.Rows L2 Lay RZ


section
variable {P : Program} {w : World} {K : PySem.W.Frag} {mg : Str → Option Value} {base : Heap}
def sp_form (K : PySem.W.Frag) : Sp := fun vs H Q _ => ∃ (v u : V) (f : Pre) (d : Df), vs = [v, u] ∧ Dp K H v (eX f) ∧ Dp K H u (eD d) ∧ DfD f d ∧ f.1.length ≤ 3 ∧ ∀ H', Ex H H' → Q (.bl true) H'
theorem cal_has_form (T : Top K w mg) : Cal P w K mg base "has_form" ["prenex", "value"] 7 (sp_form K) := by
  refine cal_of T.f_has_form sc_has_form ?len (fun _ _ _ _ _ _ us hl => match us, hl with | [_, _], _ => rfl) (fun f cdv A outer s H vs Q E hr h => ⟨_, (pss_cons (ps_if (PW.pt (pw_or (pt_not (pt_val (pe_callB Lay.call_isiK rfl T.b_isinstance (by decide +kernel) (pa_cons (pv 1) (pa_cons (pe_bltn (v := .ty "tuple") rfl T.b_tuple (by decide +kernel) rfl) pa_nil))))) (pw_or (pt_cmpR op_ne (pe_callB call_lenK rfl T.b_len PySem.boot_len (pa_cons (pv 1) pa_nil)) pe_int (nomark _)) (pw_or (pt_not (pt_val (pe_callB Lay.call_isiK rfl T.b_isinstance (by decide +kernel) (pa_cons (pe_ix ix_tupK (pv 1) pe_int (fun _ _ => rfl)) (pa_cons (pe_bltn (v := .ty "str") rfl T.b_str (by decide +kernel) rfl) pa_nil))))) (pw_or1 (pt_cmpR op_ne (pe_ix ix_tupK (pv 1) pe_int (fun _ _ => rfl)) (pe_gstr T.c_WORD) (nomark _))))))) (pss_one (ps_ret pe_bl)) pss_nil)
      (pss_cons (ps_if (PW.pt (pw_or (pt_not (pt_val (pe_callB Lay.call_isiK rfl T.b_isinstance (by decide +kernel) (pa_cons (pe_ix ix_tupK (pv 1) pe_int (fun _ _ => rfl)) (pa_cons (pe_bltn (v := .ty "str") rfl T.b_str (by decide +kernel) rfl) pa_nil))))) (pw_or (pt_cmpR op_notInK (pe_ix ix_tupK (pv 1) pe_int (fun _ _ => rfl)) (pe_gdatK T.c_SIDES) rfl) (pw_or1 (pt_not (pt_val (pe_callB Lay.call_isiK rfl T.b_isinstance (by decide +kernel) (pa_cons (pe_ix ix_tupK (pv 1) pe_int (fun _ _ => rfl)) (pa_cons (pe_bltn (v := .ty "tuple") rfl T.b_tuple (by decide +kernel) rfl) pa_nil))))))))) (pss_one (ps_ret pe_bl)) pss_nil)
      (pss_cons (ps_set (i := 2) sc_has_form.nd rfl (by first | exact Or.inl rfl | exact Or.inr rfl) (pe_def (cal_own_variables T) (hr.mono (by omega)) (pa_cons (pv 0) (pa_cons (pe_ix ix_tupK (pv 1) pe_int (fun _ _ => rfl)) pa_nil))))
      (pss_cons (ps_if (pt_cmpR op_ne (pe_callB call_lenK rfl T.b_len PySem.boot_len (pa_cons (pe_ix ix_tupK (pv 1) pe_int (fun _ _ => rfl)) pa_nil)) (pe_callB call_lenK rfl T.b_len PySem.boot_len (pa_cons (pv 2) pa_nil)) (nomark _)) (pss_one (ps_ret pe_bl)) pss_nil)
      (pss_cons (ps_if (pt_not (pt_val (pe_callB cr_allK rfl T.b_all (by decide +kernel) (pa_cons (pe_lc (own := [("plan", 4)]) (g := (gName 4)) rfl sc_has_form.nd (pi_tup (pe_ix ix_tupK (pv 1) pe_int (fun _ _ => rfl))) (blkOk_by (by show blkC ["prenex", "value", "own", "one", "plan", "v"] (defScope s_has_form) _ _ = true; decide +kernel)) (fun _ _ _ _ _ => (pg_name (i := 4) sc_has_form.nd rfl (by first | exact Or.inl rfl | exact Or.inr rfl))) (fun _ _ _ _ _ => pts_nil) (fun _ _ _ _ _ => (pe_and (pe_callB Lay.call_isiK rfl T.b_isinstance (by decide +kernel) (pa_cons (pv 4) (pa_cons (pe_bltn (v := .ty "tuple") rfl T.b_tuple (by decide +kernel) rfl) pa_nil))) (pe_one (pe_cmpR op_le (pe_callB call_lenK rfl T.b_len PySem.boot_len (pa_cons (pv 4) pa_nil)) (pe_gint T.c_MOST_PIECES) (nomark _)))))) pa_nil)))) (pss_one (ps_ret pe_bl)) pss_nil)
      (pss_one (ps_ret (pe_callB cr_allK rfl T.b_all (by decide +kernel) (pa_cons (pe_lc2 (own := [("v", 5), ("plan", 4), ("one", 3)]) (vs1 := [3]) (g := (gTup K 2 (gCons (gName 5) (gCons (gName 4) gNil)))) (g1 := (gName 3)) (wi1 := iTup K (tVar 4)) rfl sc_has_form.nd (pi_zipM rfl T.b_zip (pa_cons (pv 2) (pa_cons (pe_ix ix_tupK (pv 1) pe_int (fun _ _ => rfl)) pa_nil))) (blkOk_by (by show blkC ["prenex", "value", "own", "one", "plan", "v"] (defScope s_has_form) _ _ = true; decide +kernel)) (by decide) (fun _ _ _ _ _ => (pg_tup rfl (pgs_cons (pg_name (i := 5) sc_has_form.nd rfl (by first | exact Or.inl rfl | exact Or.inr rfl)) (pgs_cons (pg_name (i := 4) sc_has_form.nd rfl (by first | exact Or.inl rfl | exact Or.inr rfl)) pgs_nil)))) (fun _ _ _ _ _ => pts_nil) (fun _ _ _ _ _ => (pi_tup (pv 4))) (fun _ _ _ _ _ => (pg_name (i := 3) sc_has_form.nd rfl (by first | exact Or.inl rfl | exact Or.inr rfl))) (fun _ _ _ _ _ => pts_nil) (fun _ _ _ _ _ => (pe_def (cal_is_piece T) (hr.mono (by omega)) (pa_cons (pv 3) (pa_cons (pv 5) pa_nil))))) pa_nil))))))))), ?_⟩)
  case len => intro vs H Q E h; obtain ⟨_, _, _, _, rfl, _⟩ := h; rfl
  obtain ⟨v, u, f, ⟨b, ps⟩, rfl, hv, hu, hd, hn, q⟩ := h
  have hol := ownF_len b f.1 0
  have hlen : ps.length = (ownF 0 b f.1).length := hd.1
  cases b with
  | true =>
    have hu' : Dp K H u (.tuple [.str "defence", .str "yes", .tuple (ps.map eP)]) := hu
    clear hu
    walk_at "lyS"
    refine ⟨f, true, _, _, rfl, hv, rfl, by omega, fun a acc H1 e1 n1 n2 n3 => ?_⟩
    have hown : Dp K H1 (.ref a) (.list ((ownF 0 true f.1).map PyData.int)) := dp_lst n2 n3
    walk_at "lyS"
    refine x_ifnT (by rw [List.length_map, List.length_map, hlen]) ?_
    walk_at "lyS"
    refine x_lcT ps eP (fun _ => .bool true) (by walk_at "lyD") (fun _ _ => rfl) (by omega) ?_ ?_
    · intro C pl x H' ha e hx hC
      obtain ⟨j, hj⟩ := List.getElem?_of_mem ha
      have hj2 : j < (ownF 0 true f.1).length := by
        have := (List.getElem?_eq_some_iff.mp hj).1
        omega
      have hpl := hd.2 j pl _ hj (List.getElem?_eq_getElem hj2)
      have h3 := hpl.2.2
      walk_at "lyS"
      refine ⟨rfl, ?_⟩
      walk_at "lyS"
      rw [decide_eq_true (show ((pl.map eP1).length : Int) ≤ 400 by rw [List.length_map]; omega)]
      exact hC _ _ (R.refl _) (.bl _)
    · intro k acc2 H5 e5 m1 m2 m3
      walk_at "lyS"
      refine x_allD (dp_lst m2 (all_true m3)) ?_
      have ea : (List.replicate ps.length true).all id = true := by simp
      rw [ea]
      walk_at "lyS"
      refine x_lc2E ?_
      walk_at "lyS"
      rename_i u2 hu2
      have t5 : H5 a = some (.lst acc) := R.keep (M := []) (H := H1) (by walk_at "lyT") a _ (by simp) n2
      have d5 : DpAll K H5 acc ((ownF 0 true f.1).map PyData.int) := R.xps (H := H1) (by walk_at "lyT") _ _ n3
      obtain ⟨b2, ys, rfl, q2, d2⟩ := Dp.tup_inv hu2
      refine ⟨a, b2, acc, ys, rfl, SqL.of t5, q2, ?_⟩
      refine x_lc2 (k := 3) (n := ((ownF 0 true f.1).map PyData.int).length) (fun D hD => dw_zipM (M := [D]) (SqL.of ((R.new (M := []) hD).keep a _ (by simp) t5)) (by simpa using ne_of_none t5 hD) ((R.new (M := []) hD).sqt q2) (R.xps (R.new hD) _ _ d5) (R.xps (R.new hD) _ _ d2) (.inr ⟨ims_ints _, ims_Ps _⟩) (by rw [List.length_map, List.length_map, hlen]))
        (fun i H x H' ⟨T, z, u, e1, e2, e3, _, _⟩ => by subst e3; exact R.new e2) (by rw [List.length_map]; omega) ?_ ?_
      · intro D Nx i x H6 c hD hi t hc hx hN
        rw [List.length_map] at hi
        have hip : i < ps.length := by omega
        have ei := List.getElem?_eq_getElem hi
        have ej := List.getElem?_eq_getElem hip
        rw [getD_map ei, getD_map ej] at hx
        have hpl := hd.2 i _ _ ej ei
        have hr := ownF_range true f.1 0 _ (List.getElem_mem hi)
        refine x_gtup2 hx fun v1 v2 k1 k2 => ?_
        obtain rfl := Dp.int_inv k1
        walk_at "lyS"
        refine ⟨rfl, ?_⟩
        walk_at "lyS"
        obtain ⟨b3, zs, rfl, q3, d3⟩ := Dp.tup_inv k2
        refine ⟨b3, rfl, ⟨zs, q3⟩, ?_⟩
        have wk := dw_tup (M := [D]) q3 d3 (.inr (ims_P _))
        rw [List.length_map] at wk
        obtain ⟨m, _, hm⟩ := id t.1
        have h3 := hpl.2.2
        rw [List.length_map] at hc
        refine x_in2 (Hs := H6) (c := c) wk (fun j H x H' y => by rw [y.1]; exact R.refl _) (no_pot hm) ⟨t.1, R.refl _⟩ (by omega) ?_ fun H9 t9 => hN H9 (Tru.mono (c := c + (ps[i]).length) ⟨t9.1, t.2.trans t9.2⟩ (by omega))
        intro C j y H7 hj r7 hy7 hC
        rw [getD_map (List.getElem?_eq_getElem hj)] at hy7
        obtain ⟨g1, g2⟩ := hpl.1 _ (List.getElem_mem hj)
        have ev : ((ownF 0 true f.1)[i].toNat : Int) = (ownF 0 true f.1)[i] := by omega
        walk_at "lyS"
        refine ⟨rfl, ?_⟩
        walk_at "lyS"
        rw [← ev]
        exact x_ispiece hy7 g1 g2 (by omega) hC
      · intro D m H6 hD e6 h6
        walk_at "lyS"
        refine x_allD (ns := List.replicate m true) (dp_lst h6 (bls_dps _)) ?_
        have eb : (List.replicate m true).all id = true := by simp
        rw [eb]
        exact q _ (by walk_at "lyT")
  | false =>
    have hu' : Dp K H u (.tuple [.str "defence", .str "no", .tuple (ps.map eP)]) := hu
    clear hu
    walk_at "lyS"
    refine ⟨f, false, _, _, rfl, hv, rfl, by omega, fun a acc H1 e1 n1 n2 n3 => ?_⟩
    have hown : Dp K H1 (.ref a) (.list ((ownF 0 false f.1).map PyData.int)) := dp_lst n2 n3
    walk_at "lyS"
    refine x_ifnT (by rw [List.length_map, List.length_map, hlen]) ?_
    walk_at "lyS"
    refine x_lcT ps eP (fun _ => .bool true) (by walk_at "lyD") (fun _ _ => rfl) (by omega) ?_ ?_
    · intro C pl x H' ha e hx hC
      obtain ⟨j, hj⟩ := List.getElem?_of_mem ha
      have hj2 : j < (ownF 0 false f.1).length := by
        have := (List.getElem?_eq_some_iff.mp hj).1
        omega
      have hpl := hd.2 j pl _ hj (List.getElem?_eq_getElem hj2)
      have h3 := hpl.2.2
      walk_at "lyS"
      refine ⟨rfl, ?_⟩
      walk_at "lyS"
      rw [decide_eq_true (show ((pl.map eP1).length : Int) ≤ 400 by rw [List.length_map]; omega)]
      exact hC _ _ (R.refl _) (.bl _)
    · intro k acc2 H5 e5 m1 m2 m3
      walk_at "lyS"
      refine x_allD (dp_lst m2 (all_true m3)) ?_
      have ea : (List.replicate ps.length true).all id = true := by simp
      rw [ea]
      walk_at "lyS"
      refine x_lc2E ?_
      walk_at "lyS"
      rename_i u2 hu2
      have t5 : H5 a = some (.lst acc) := R.keep (M := []) (H := H1) (by walk_at "lyT") a _ (by simp) n2
      have d5 : DpAll K H5 acc ((ownF 0 false f.1).map PyData.int) := R.xps (H := H1) (by walk_at "lyT") _ _ n3
      obtain ⟨b2, ys, rfl, q2, d2⟩ := Dp.tup_inv hu2
      refine ⟨a, b2, acc, ys, rfl, SqL.of t5, q2, ?_⟩
      refine x_lc2 (k := 3) (n := ((ownF 0 false f.1).map PyData.int).length) (fun D hD => dw_zipM (M := [D]) (SqL.of ((R.new (M := []) hD).keep a _ (by simp) t5)) (by simpa using ne_of_none t5 hD) ((R.new (M := []) hD).sqt q2) (R.xps (R.new hD) _ _ d5) (R.xps (R.new hD) _ _ d2) (.inr ⟨ims_ints _, ims_Ps _⟩) (by rw [List.length_map, List.length_map, hlen]))
        (fun i H x H' ⟨T, z, u, e1, e2, e3, _, _⟩ => by subst e3; exact R.new e2) (by rw [List.length_map]; omega) ?_ ?_
      · intro D Nx i x H6 c hD hi t hc hx hN
        rw [List.length_map] at hi
        have hip : i < ps.length := by omega
        have ei := List.getElem?_eq_getElem hi
        have ej := List.getElem?_eq_getElem hip
        rw [getD_map ei, getD_map ej] at hx
        have hpl := hd.2 i _ _ ej ei
        have hr := ownF_range false f.1 0 _ (List.getElem_mem hi)
        refine x_gtup2 hx fun v1 v2 k1 k2 => ?_
        obtain rfl := Dp.int_inv k1
        walk_at "lyS"
        refine ⟨rfl, ?_⟩
        walk_at "lyS"
        obtain ⟨b3, zs, rfl, q3, d3⟩ := Dp.tup_inv k2
        refine ⟨b3, rfl, ⟨zs, q3⟩, ?_⟩
        have wk := dw_tup (M := [D]) q3 d3 (.inr (ims_P _))
        rw [List.length_map] at wk
        obtain ⟨m, _, hm⟩ := id t.1
        have h3 := hpl.2.2
        rw [List.length_map] at hc
        refine x_in2 (Hs := H6) (c := c) wk (fun j H x H' y => by rw [y.1]; exact R.refl _) (no_pot hm) ⟨t.1, R.refl _⟩ (by omega) ?_ fun H9 t9 => hN H9 (Tru.mono (c := c + (ps[i]).length) ⟨t9.1, t.2.trans t9.2⟩ (by omega))
        intro C j y H7 hj r7 hy7 hC
        rw [getD_map (List.getElem?_eq_getElem hj)] at hy7
        obtain ⟨g1, g2⟩ := hpl.1 _ (List.getElem_mem hj)
        have ev : ((ownF 0 false f.1)[i].toNat : Int) = (ownF 0 false f.1)[i] := by omega
        walk_at "lyS"
        refine ⟨rfl, ?_⟩
        walk_at "lyS"
        rw [← ev]
        exact x_ispiece hy7 g1 g2 (by omega) hC
      · intro D m H6 hD e6 h6
        walk_at "lyS"
        refine x_allD (ns := List.replicate m true) (dp_lst h6 (bls_dps _)) ?_
        have eb : (List.replicate m true).all id = true := by simp
        rw [eb]
        exact q _ (by walk_at "lyT")
end
end K85

/-! ### text T22 -/
namespace K85
open PySem PySem.Spec PyProof.Rows L2 Lay RZ


theorem pi_or {X : Cx} {tg iter : Expr} {w1 w2 : TI} (h1 : PI X tg iter w1) (h2 : PI X tg iter w2) : PI X tg iter (fun σ H R => w1 σ H R ∨ w2 σ H R) :=
  ⟨fun pins s σ H R I h => h.elim (fun h => h1.run pins s σ H R I h) fun h => h2.run pins s σ H R I h⟩
section
variable {P : Program} {w : World} {K : PySem.W.Frag} {mg : Str → Option Value} {base : Heap}
def SeqV (K : PySem.W.Frag) (H : Hp) (v : V) (ds : List PyData) : Prop := Dp K H v (.tuple ds) ∨ Dp K H v (.list ds)
theorem SeqV.ex {H H' : Hp} {v : V} {ds : List PyData} (h : SeqV K H v ds) (e : Ex H H') : SeqV K H' v ds := h.elim (fun h => .inl (R.xp e _ _ h)) fun h => .inr (R.xp e _ _ h)
def sp_islist (K : PySem.W.Frag) : Sp := fun vs H Q _ => ∃ (v : V) (ds : List PyData), vs = [v] ∧ SeqV K H v ds ∧ ∀ H', Ex H H' → Q (.bl true) H'
theorem cal_is_list (T : Top K w mg) : Cal P w K mg base "is_list" ["value"] 1 (sp_islist K) := by
  refine cal_of T.f_is_list sc_is_list ?len (fun _ _ _ _ _ _ us hl => match us, hl with | [_], _ => rfl) (fun f cdv A outer s H vs Q E hr h => ⟨_, (pss_one (ps_ret (pe_callB Lay.call_isiTK rfl T.b_isinstance (by decide +kernel) (pa_cons (pv 0) (pa_cons (pe_tup (pa_cons (pe_bltn (v := .ty "list") rfl T.b_list (by decide +kernel) rfl) (pa_cons (pe_bltn (v := .ty "tuple") rfl T.b_tuple (by decide +kernel) rfl) pa_nil))) pa_nil))))), ?_⟩)
  case len => intro vs H Q E h; obtain ⟨_, _, rfl, _⟩ := h; rfl
  obtain ⟨v, ds, rfl, hv, q⟩ := h
  walk_at "lyS"
  refine ⟨Nat.le_trans (show 2 ≤ 100000 by decide) (by decide), fun tp htp => ?_⟩
  have e1 : Ex H (upd H tp (.tup [.ty "list", .ty "tuple"])) := R.new htp
  walk_at "lyS"
  rcases hv with hv | hv
  · exact ⟨v, tp, _, _, [.type "list", .type "tuple"], true, rfl, upd_same, .cons (.ty _) (.cons (.ty _) .nil), tyx (R.xp e1 _ _ hv), kitAny_cons (kit_ty (by decide +kernel : kitB "tuple" "list" = some false)) (fun _ => kitAny_cons (kit_ty (by decide +kernel : kitB "tuple" "tuple" = some true)) (fun z => by cases z) fun _ => rfl) (fun z => by cases z), q _ e1⟩
  · exact ⟨v, tp, _, _, [.type "list", .type "tuple"], true, rfl, upd_same, .cons (.ty _) (.cons (.ty _) .nil), tyx (R.xp e1 _ _ hv), kitAny_cons (kit_ty (by decide +kernel : kitB "list" "list" = some true)) (fun z => by cases z) (fun _ => rfl), q _ e1⟩
def okN : PyData → Bool
  | .int i => decide ((if i < 0 then -i else i) ≤ 1000000000000000000)
  | _ => false
theorem x_islist {H : Hp} {Q : VK} {E : XK} {v : V} {ds : List PyData} (h : SeqV K H v ds) (q : ∀ H', Ex H H' → Q (.bl true) H') : sp_islist K [v] H Q E := ⟨v, ds, rfl, h, q⟩
theorem x_lenS {H : Hp} {Q : VK} {v : V} {ds : List PyData} (h : SeqV K H v ds) (q : Q (.int (ds.length : Int)) H) : rLenK K [v] H Q := h.elim (fun h => x_lenT h q) fun h => x_lenL h q
def sp_arenum (K : PySem.W.Frag) : Sp := fun vs H Q _ => ∃ (v : V) (ds : List PyData) (m : Int), vs = [v, .int m] ∧ SeqV K H v ds ∧ ds.length ≤ 1000 ∧ ∀ H', Ex H H' → Q (.bl (decide ((ds.length : Int) = m) && ds.all okN)) H'
theorem cal_are_numbers (T : Top K w mg) : Cal P w K mg base "are_numbers" ["value", "many"] 2 (sp_arenum K) := by
  refine cal_of T.f_are_numbers sc_are_numbers ?len (fun _ _ _ _ _ _ us hl => match us, hl with | [_, _], _ => rfl) (fun f cdv A outer s H vs Q E hr h => ⟨_, (pss_one (ps_ret (pe_and (pe_def (cal_is_list T) (hr.mono (by omega)) (pa_cons (pv 0) pa_nil)) (pe_and (pe_cmpR op_eq (pe_callB call_lenK rfl T.b_len PySem.boot_len (pa_cons (pv 0) pa_nil)) (pv 1) (nomark _)) (pe_one (pe_callB cr_allK rfl T.b_all (by decide +kernel) (pa_cons (pe_lc (own := [("one", 2)]) (g := (gName 2)) rfl sc_are_numbers.nd (pi_or (pi_list (pv 0)) (pi_tup (pv 0))) (blkOk_by (by show blkC ["value", "many", "one"] (defScope s_are_numbers) _ _ = true; decide +kernel)) (fun _ _ _ _ _ => (pg_name (i := 2) sc_are_numbers.nd rfl (by first | exact Or.inl rfl | exact Or.inr rfl))) (fun _ _ _ _ _ => pts_nil) (fun _ _ _ _ _ => (pe_and (pe_def (cal_is_integer T) (hr.mono (by omega)) (pa_cons (pv 2) pa_nil)) (pe_one (pe_cmpR op_le (pe_callB call_absK rfl T.b_abs (by decide +kernel) (pa_cons (pv 2) pa_nil)) (pe_gint T.c_GREATEST) (nomark _)))))) pa_nil))))))), ?_⟩)
  case len => intro vs H Q E h; obtain ⟨_, _, _, rfl, _⟩ := h; rfl
  obtain ⟨v, ds, m, rfl, hv, hl, q⟩ := h
  walk_at "lyS"
  refine x_islist hv fun H1 e1 => ?_
  walk_at "lyS"
  refine x_lenS (hv.ex e1) ?_
  walk_at "lyS"
  by_cases c : (ds.length : Int) = m
  · refine x_ifdT c ?_
    have elt : ∀ (C : VK) (d : PyData) (x : V) (H' : Hp), Ex H1 H' → Dp K H' x d → (∀ z H4, Ex H' H4 → Dp K H4 z (.bool (okN d)) → C z H4) → gName 2 x (wipe (L2.start ["value", "many", "one"] [v, V.int m]) [2]) H' fun σ2 H2 => wipe σ2 [2] = wipe (L2.start ["value", "many", "one"] [v, V.int m]) [2] ∧ tAndV (tCall (sp_isint K) [] E0 (tCons (tVar 2) tNil)) (tOp (rI0 fun i j => V.bl (decide (i ≤ j))) (tCB rAbs1 (tCons (tVar 2) tNil)) (tC (V.int 1000000000000000000))) σ2 H2 C := fun C d x H' e hx hC => by
      walk_at "lyS"
      refine ⟨rfl, ?_⟩
      walk_at "lyS"
      refine x_isint d hx ?_
      walk_at "lyS"
      cases d with
      | int i =>
        obtain rfl := Dp.int_inv hx
        walk_at "lyS"
        exact hC _ _ (R.refl _) (.bl _)
      | none => walk_at "lyS"; exact hC _ _ (R.refl _) (.bl _)
      | bool b => walk_at "lyS"; exact hC _ _ (R.refl _) (.bl _)
      | str b => walk_at "lyS"; exact hC _ _ (R.refl _) (.bl _)
      | list b => walk_at "lyS"; exact hC _ _ (R.refl _) (.bl _)
      | tuple b => walk_at "lyS"; exact hC _ _ (R.refl _) (.bl _)
      | dict b => walk_at "lyS"; exact hC _ _ (R.refl _) (.bl _)
    walk_at "lyS"
    rcases hv.ex e1 with h5 | h5
    · obtain ⟨a, xs, ea, q1, d1⟩ := Dp.tup_inv h5
      refine .inr ?_
      walk_at "lyS"
      refine x_lcT (α := PyData) ds id (fun d => .bool (okN d)) (by rw [List.map_id]; exact h5) (fun _ _ => rfl) (by omega) ?_ ?_
      · exact fun C d x H' hd e hx hC => elt C d x H' e hx hC
      · intro k acc H6 e6 m1 m2 m3
        have m3' : DpAll K H6 acc ((ds.map okN).map PyData.bool) := by rw [List.map_map]; exact m3
        walk_at "lyS"
        refine x_allD (dp_lst m2 m3') ?_
        have eb : (ds.map okN).all id = ds.all okN := by rw [List.all_map]; rfl
        rw [eb]
        have q' := q _ (e1.trans e6)
        rw [decide_eq_true c, Bool.true_and] at q'
        exact q'
    · obtain ⟨a, xs, ea, q1, d1⟩ := Dp.lst_inv h5
      refine .inl ?_
      walk_at "lyS"
      refine x_lcL (α := PyData) ds id (fun d => .bool (okN d)) (by rw [List.map_id]; exact h5) (fun _ _ => rfl) (by omega) ?_ ?_
      · exact fun C d x H' hd e hx hC => elt C d x H' e hx hC
      · intro k acc H6 e6 m1 m2 m3
        have m3' : DpAll K H6 acc ((ds.map okN).map PyData.bool) := by rw [List.map_map]; exact m3
        walk_at "lyS"
        refine x_allD (dp_lst m2 m3') ?_
        have eb : (ds.map okN).all id = ds.all okN := by rw [List.all_map]; rfl
        rw [eb]
        have q' := q _ (e1.trans e6)
        rw [decide_eq_true c, Bool.true_and] at q'
        exact q'
  · refine x_ifdF c ?_
    have q' := q _ e1
    rw [decide_eq_false c, Bool.false_and] at q'
    exact q'
end
end K85

/-! ### text T23 -/
namespace K85
open PySem PySem.Spec PyProof.Rows L2 Lay RZ


section
variable {P : Program} {w : World} {K : PySem.W.Frag} {mg : Str → Option Value} {base : Heap}
theorem x_lz {ta : TA} {σ : L2.St} {H : Hp} {Q : VK} (q : ta σ H fun vs H1 => ∃ a b xs ys, vs = [.ref a, .ref b] ∧ SqL K H1 a xs ∧ SqT K H1 b ys ∧ xs.length ≤ 100000 ∧
  ∀ (H' : Hp) (p : Addr) (ts : List Addr), (∀ b o, H1 b = some o → H' b = some o) → H1 p = none → H' p = some (.lst (ts.map V.ref)) → Paired (fun (t : Addr) (q : V × V) => H' t = some (.tup [q.1, q.2])) ts (xs.zip ys) → Q (.ref p) H') : tListZip K ta σ H Q := q
/-- the dict from variables to plans -/
def PlD2 (own : List Int) (ws : List V) : List (Key × V) := mergeK [] ((own.zip ws).map fun q => (Sum.inl q.1, q.2))
def PlanD (K : PySem.W.Frag) (H : Hp) (a : Addr) (own : List Int) (ps : List Pl) : Prop := ∃ ws, DpAll K H ws (ps.map eP) ∧ H a = some (.dK (PlD2 own ws))
def sp_plans (K : PySem.W.Frag) : Sp := fun vs H Q _ => ∃ (v u : V) (f : Pre) (d : Df), vs = [v, u] ∧ Dp K H v (eX f) ∧ Dp K H u (eD d) ∧ DfD f d ∧ f.1.length ≤ 3 ∧ ∀ a H', H a = none → Ex H H' → PlanD K H' a (ownB f d.1) d.2 → Q (.ref a) H'
theorem ex_all {H H' : Hp} (h : ∀ b o, H b = some o → H' b = some o) : Ex H H' := ⟨fun a o _ e => h a o e, fun a xs e => h a _ e, fun a o u e => h a _ e, fun _ h => absurd h (by simp)⟩
theorem pair_kv {H : Hp} : ∀ (own : List Int) {ws : List V} {ts : List Addr}, Paired (fun (t : Addr) (q : V × V) => H t = some (.tup [q.1, q.2])) ts ((own.map V.int).zip ws) → Paired (fun (p : Addr) (kv : Key × V) => SqT K H p [kV kv.1, kv.2]) ts ((own.zip ws).map fun q => (Sum.inl q.1, q.2))
  | [], ws, ts, h => by
    simp only [List.map_nil, List.zip_nil_left] at h ⊢
    cases h
    exact .nil
  | v :: own, [], ts, h => by
    simp only [List.zip_nil_right, List.map_nil] at h ⊢
    cases h
    exact .nil
  | v :: own, w :: ws, ts, h => by
    simp only [List.map_cons, List.zip_cons_cons] at h ⊢
    cases h with
    | cons h1 h2 => exact .cons (SqT.of h1) (pair_kv own h2)
theorem cal_plans_by_variable (T : Top K w mg) : Cal P w K mg base "plans_by_variable" ["prenex", "defence"] 2 (sp_plans K) := by
  refine cal_of T.f_plans_by_variable sc_plans_by_variable ?len (fun _ _ _ _ _ _ us hl => match us, hl with | [_, _], _ => rfl) (fun f cdv A outer s H vs Q E hr h => ⟨_, (pss_one (ps_ret (pe_callTy (call_dictP rfl) rfl T.b_dict (by decide +kernel) (pa_cons (pe_listZip rfl (pa_cons (pe_def (cal_own_variables T) (hr.mono (by omega)) (pa_cons (pv 0) (pa_cons (pe_ix ix_tupK (pv 1) pe_int (fun _ _ => rfl)) pa_nil))) (pa_cons (pe_ix ix_tupK (pv 1) pe_int (fun _ _ => rfl)) pa_nil)) rfl T.b_list rfl T.b_zip) pa_nil)))), ?_⟩)
  case len => intro vs H Q E h; obtain ⟨_, _, _, _, rfl, _⟩ := h; rfl
  obtain ⟨v, u, f, ⟨b, ps⟩, rfl, hv, hu, hd, hn, q⟩ := h
  have hol := ownF_len b f.1 0
  walk_at "lyS"
  refine x_lz ?_
  walk_at "lyS"
  refine ⟨f, b, _, _, rfl, hv, rfl, by omega, fun a acc H1 e1 n1 n2 n3 => ?_⟩
  walk_at "lyS"
  rename_i u2 hu2
  obtain rfl := dps_ints n3
  obtain ⟨b2, ys, rfl, q2, d2⟩ := Dp.tup_inv hu2
  refine ⟨a, b2, _, ys, rfl, SqL.of n2, q2, by rw [List.length_map]; omega, fun H3 l ts ke hl hlt hp => ?_⟩
  have e3 : Ex H1 H3 := ex_all ke
  walk_at "lyS"
  refine ⟨l, ts, _, rfl, SqL.of hlt, pair_kv _ hp, fun p hp2 => ?_⟩
  have e4 : Ex H3 (upd H3 p (.dK (mergeK [] ((((ownF 0 b f.1)).zip ys).map fun q => (Sum.inl q.1, q.2))))) := R.new hp2
  refine q p _ (R.exfree (e1.trans e3) hp2) (e1.trans (e3.trans e4)) ⟨ys, R.xps (e3.trans e4) _ _ d2, upd_same⟩
end
end K85

/-! ### text T24 -/
namespace K85
open PySem PySem.Spec PyProof.Rows L2 Lay RZ


section
variable {P : Program} {w : World} {K : PySem.W.Frag} {mg : Str → Option Value} {base : Heap}
def sp_tnum (C : Addr) (K : PySem.W.Frag) : Sp := fun vs H Q E => ∃ (p : Pl) (ns : List Int) (v u : V), vs = [v, u] ∧ Dp K H v (eP p) ∧ Dp K H u (eI ns) ∧ PlOk ns.length p ∧
  (∀ i H', tnum ns p = some i → Ex H H' → Q (.int i) H') ∧ (tnum ns p = none → ∀ H', Ex H H' → E (.ref C) none H')
theorem cal_told_number (T : Top K w mg) {C : Addr} (N : ExcOk K mg "NotDefended" C) : CalX P w K mg base "told_number" ["plan", "numbers"] 8 (sp_tnum C K) := by
  refine calX_of T.f_told_number sc_told_number ?len (fun _ _ _ _ _ _ us hl => match us, hl with | [_, _], _ => rfl) (fun f cdv A outer s H vs Q E hr h => ⟨_, (pss_cons (ps_set (i := 2) sc_told_number.nd rfl (by first | exact Or.inl rfl | exact Or.inr rfl) (pe_def (cal_told_by T) (hr.mono (by omega)) (pa_cons (pv 0) (pa_cons (pe_callTy call_listK rfl T.b_list (by decide +kernel) (pa_cons (pv 1) pa_nil)) pa_nil))))
      (pss_cons (ps_if (pt_cmpR op_isN (pv 2) pe_non (nomark _)) (pss_one (ps_raise rfl takesE (pmk_own0 PySem.F.excBase_RuntimeError N.q N.m N.k (raises_own N.sub N.ty) rfl))) pss_nil)
      (pss_one (ps_ret (pv 2))))), ?_⟩)
  case len => intro vs H Q E h; obtain ⟨_, _, _, _, rfl, _⟩ := h; rfl
  obtain ⟨p, ns, v, u, rfl, hv, hu, hp, q1, q2⟩ := h
  walk_at "lyS"
  refine x_listD (.inr hu) ?_
  intro l xs H1 e1 l1 l2 l3
  have hl : Dp K H1 (.ref l) (eI ns) := dp_lst l2 l3
  walk_at "lyS"
  refine x_spG (a := (p, ns)) (by walk_at "lyD") hp ?_
  intro z H2 e2 hz
  walk_at "lyS"
  refine ⟨rfl, ?_⟩
  dsimp only at hz
  cases ht : tnum ns p with
  | none =>
    rw [ht] at hz
    obtain rfl := Dp.non_inv hz
    exact ⟨_, rfl, x_ifdT rfl (q2 ht _ (e1.trans e2))⟩
  | some i =>
    rw [ht] at hz
    obtain rfl := Dp.int_inv hz
    refine ⟨_, rfl, x_ifdF (fun z => by cases z) ?_⟩
    walk_at "lyS"
    exact q1 i _ ht (e1.trans e2)
end
end K85

/-! ### text C2 -/
namespace K85
open PySem PySem.Spec PyProof.Rows L2 Lay RZ
theorem FmD.ok {n : Nat} {f : Fm} (h : FmD n f) (hn : n ≤ 3) : FmOk n f ∧ f.deep ≤ 2 := by
  cases f with
  | le l => exact ⟨LinD.ok h hn, by show 0 ≤ 2; decide⟩
  | into k l => exact ⟨⟨by have := h.1; omega, by have := h.1; omega, LinD.ok h.2 hn⟩, by show 0 ≤ 2; decide⟩
  | off k l => exact ⟨⟨by have := h.1; omega, by have := h.1; omega, LinD.ok h.2 hn⟩, by show 0 ≤ 2; decide⟩
  | yes => exact ⟨trivial, by decide⟩
  | both f g => exact h.elim
  | one f g => exact h.elim
theorem VaD.ok {n : Nat} {f : Va} (h : VaD n f) (hn : n ≤ 3) : VaOk n f := by
  cases f with
  | over l b => exact ⟨LinD.ok h.1 hn, by have := h.2; omega, by have := h.2; omega⟩
  | low ls r p b =>
    obtain ⟨h1, h2, h3, h4, h5, h6⟩ := h
    exact ⟨fun l hl => LinD.ok (h1 l hl) hn, h3, h4, by omega, by omega, by omega, by omega⟩
  | high ls r p b =>
    obtain ⟨h1, h2, h3, h4, h5, h6⟩ := h
    exact ⟨fun l hl => LinD.ok (h1 l hl) hn, h3, h4, by omega, by omega, by omega, by omega⟩
theorem PlD.ok {n : Nat} {p : Pl} (h : PlD n p) (hn : n ≤ 3) : PlOk n p := by
  obtain ⟨h1, h2, h3⟩ := h
  exact ⟨fun q hq => ⟨(FmD.ok (h1 q hq).1 hn).1, (FmD.ok (h1 q hq).1 hn).2, VaD.ok (h1 q hq).2 hn⟩, h2, by omega⟩
/-- the value of a key in a list of pairs -/
def alook {α : Type} (v : Int) : List (Int × α) → Option α
  | [] => none
  | p :: r => if p.1 = v then some p.2 else alook v r
theorem valV_append (kvs : List (Key × V)) (k j : Key) (y : V) (h : valV kvs k = none) : valV (kvs ++ [(k, y)]) j = if j = k then some y else valV kvs j := valV_snoc k j y kvs h
theorem merge_look (v : Int) : ∀ (l : List (Int × V)) (kvs : List (Key × V)), (l.map (·.1)).Nodup → (∀ p ∈ l, valV kvs (.inl p.1) = none) → valV (mergeK kvs (l.map fun q => (Sum.inl q.1, q.2))) (.inl v) = (alook v l).or (valV kvs (.inl v))
  | [], kvs, _, _ => by simp [mergeK, alook]
  | p :: l, kvs, nd, hk => by
    have nd' := List.nodup_cons.mp nd
    have hp := hk p List.mem_cons_self
    show valV (mergeK (putK kvs (Sum.inl p.1) p.2) (l.map fun q => (Sum.inl q.1, q.2))) (.inl v) = _
    rw [merge_look v l _ nd'.2 fun q hq => ?_]
    · rw [valV_put]
      by_cases c : p.1 = v
      · have : alook v l = none := by
          have key : ∀ (l : List (Int × V)), v ∉ l.map (·.1) → alook v l = none := by
            intro l
            induction l with
            | nil => intro _; rfl
            | cons x l ih =>
              intro hx
              have h1 : ¬ x.1 = v := fun z => hx (by rw [← z]; simp)
              simp only [alook, if_neg h1]
              exact ih fun z => hx (by simp only [List.map_cons, List.mem_cons]; exact .inr z)
          exact key l (by rw [← c]; exact nd'.1)
        rw [this, if_pos (by rw [c])]
        simp [alook, c]
      · rw [if_neg (fun z => c (by cases z; rfl))]
        simp [alook, c]
    · rw [valV_put, if_neg (fun z => nd'.1 (by have w := Sum.inl.inj z; exact List.mem_map.mpr ⟨q, hq, by omega⟩))]
      exact hk q (List.mem_cons_of_mem _ hq)
end K85

/-! ### text P1 -/
namespace K85
open PySem PySem.Spec PyProof.Rows L2 Lay RZ
/-! plain: plays -/
theorem ownF_o (b : Bool) : ∀ (ks : List Bool) (o p : Int), (ownF o b ks).length = (ownF p b ks).length
  | [], _, _ => rfl
  | k :: r, o, p => by
    have ih := ownF_o b r (o + 1) (p + 1)
    unfold ownF
    by_cases c : k = b
    · rw [if_pos c, if_pos c, List.length_cons, List.length_cons, ih]
    · rw [if_neg c, if_neg c, ih]
theorem ownF_both (b : Bool) : ∀ (ks : List Bool) (o : Int), (ownF o b ks).length + (ownF o (!b) ks).length = ks.length
  | [], _ => rfl
  | k :: r, o => by
    have ih := ownF_both b r (o + 1)
    unfold ownF
    cases k <;> cases b <;> simp at ih ⊢ <;> omega
theorem alook_none {α : Type} {v : Int} : ∀ {l : List (Int × α)}, (∀ p ∈ l, p.1 ≠ v) → alook v l = none
  | [], _ => rfl
  | p :: l, h => by
    unfold alook
    rw [if_neg (h p List.mem_cons_self)]
    exact alook_none fun q hq => h q (List.mem_cons_of_mem _ hq)
theorem alook_own {α : Type} (b : Bool) : ∀ (ks : List Bool) (o : Int) (ws : List α) (v : Nat), v < ks.length → ws.length = (ownF o b ks).length →
    alook (o + v) ((ownF o b ks).zip ws) = if ks[v]? = some b then ws[(ownF o b (ks.take v)).length]? else none
  | [], _, _, v, h, _ => absurd h (Nat.not_lt_zero v)
  | k :: r, o, ws, 0, _, hl => by
    have low : ∀ (us : List α), alook (o + (0 : Nat)) ((ownF (o + 1) b r).zip us) = none := fun us => alook_none fun p hp => by
      have h1 := (List.of_mem_zip (show (p.1, p.2) ∈ _ from hp)).1
      have h2 := (ownF_range b r (o + 1) p.1 h1).1
      omega
    unfold ownF at hl ⊢
    by_cases c : k = b
    · rw [if_pos c] at hl ⊢
      cases ws with
      | nil => simp at hl
      | cons w ws => simp [alook, c, ownF]
    · rw [if_neg c]
      rw [low]
      simp [c]
  | k :: r, o, ws, v + 1, hv, hl => by
    have e : o + ((v + 1 : Nat) : Int) = (o + 1) + (v : Nat) := by omega
    have hv' : v < r.length := by simpa using hv
    by_cases c : k = b
    · have e1 : ownF o b (k :: r) = o :: ownF (o + 1) b r := by show (if k = b then _ else _) = _; rw [if_pos c]
      have e2 : ownF o b ((k :: r).take (v + 1)) = o :: ownF (o + 1) b (r.take v) := by rw [List.take_succ_cons]; show (if k = b then _ else _) = _; rw [if_pos c]
      rw [e1] at hl ⊢
      rw [e2]
      cases ws with
      | nil => simp at hl
      | cons w ws =>
        have ih := alook_own b r (o + 1) ws v hv' (by simpa using hl)
        rw [List.zip_cons_cons]
        unfold alook
        rw [if_neg (show ¬ o = o + ((v + 1 : Nat) : Int) by omega), e, ih]
        simp
    · have e1 : ownF o b (k :: r) = ownF (o + 1) b r := by show (if k = b then _ else _) = _; rw [if_neg c]
      have e2 : ownF o b ((k :: r).take (v + 1)) = ownF (o + 1) b (r.take v) := by rw [List.take_succ_cons]; show (if k = b then _ else _) = _; rw [if_neg c]
      rw [e1] at hl ⊢
      rw [e2, e, alook_own b r (o + 1) ws v hv' hl]
      simp
/-- the plan of a variable -/
def planAt (ks : List Bool) (b : Bool) (ps : List Pl) (v : Nat) : Option Pl := if ks[v]? = some b then ps[(ownF 0 b (ks.take v)).length]? else none
theorem own_at (b : Bool) : ∀ (ks : List Bool) (o : Int) (v : Nat), ks[v]? = some b → (ownF o b ks)[(ownF o b (ks.take v)).length]? = some (o + v)
  | [], _, _, h => by simp at h
  | k :: r, o, 0, h => by
    have : k = b := by simpa using h
    subst this
    simp [ownF]
  | k :: r, o, v + 1, h => by
    have ih := own_at b r (o + 1) v (by simpa using h)
    have e : o + ((v + 1 : Nat) : Int) = (o + 1) + (v : Nat) := by omega
    rw [e]
    by_cases c : k = b
    · have e1 : ownF o b (k :: r) = o :: ownF (o + 1) b r := by show (if k = b then _ else _) = _; rw [if_pos c]
      have e2 : ownF o b ((k :: r).take (v + 1)) = o :: ownF (o + 1) b (r.take v) := by rw [List.take_succ_cons]; show (if k = b then _ else _) = _; rw [if_pos c]
      rw [e1, e2]
      simpa using ih
    · have e1 : ownF o b (k :: r) = ownF (o + 1) b r := by show (if k = b then _ else _) = _; rw [if_neg c]
      have e2 : ownF o b ((k :: r).take (v + 1)) = ownF (o + 1) b (r.take v) := by rw [List.take_succ_cons]; show (if k = b then _ else _) = _; rw [if_neg c]
      rw [e1, e2]
      exact ih
theorem planAt_own {ks : List Bool} {b : Bool} {ps : List Pl} {v : Nat} (hl : ps.length = (ownF 0 b ks).length) (h : ks[v]? = some b) : ∃ p, planAt ks b ps v = some p := by
  have h1 := (List.getElem?_eq_some_iff.mp (own_at b ks 0 v h)).1
  unfold planAt
  rw [if_pos h]
  exact ⟨_, List.getElem?_eq_getElem (by rw [hl]; exact h1)⟩
theorem planAt_some {ks : List Bool} {b : Bool} {ps : List Pl} {v : Nat} {p : Pl} (h : planAt ks b ps v = some p) : ks[v]? = some b ∧ v < ks.length := by
  unfold planAt at h
  by_cases c : ks[v]? = some b
  · exact ⟨c, (List.getElem?_eq_some_iff.mp c).1⟩
  · rw [if_neg c] at h
    cases h
theorem planAt_D {f : Pre} {d : Df} (hd : DfD f d) {v : Nat} {p : Pl} (h : planAt f.1 d.1 d.2 v = some p) : PlD v p := by
  have hk := (planAt_some h).1
  unfold planAt at h
  rw [if_pos hk] at h
  have := hd.2 _ p _ h (own_at d.1 f.1 0 v hk)
  rwa [show ((0 : Int) + (v : Nat)).toNat = v by omega] at this
theorem planAt_none {ks : List Bool} {b : Bool} {ps : List Pl} {v : Nat} (hl : ps.length = (ownF 0 b ks).length) (h : planAt ks b ps v = none) : ks[v]? ≠ some b := fun z => by
  obtain ⟨p, e⟩ := planAt_own hl z
  rw [h] at e
  cases e
/-- what the dict of plans tells -/
theorem planD_get {K : PySem.W.Frag} {H : Hp} {a : Addr} {ks : List Bool} {b : Bool} {ps : List Pl} (h : PlanD K H a (ownF 0 b ks) ps) (hl : ps.length = (ownF 0 b ks).length) {v : Nat} (hv : v < ks.length) :
    ∃ kvs, H a = some (.dK kvs) ∧ ((planAt ks b ps v = none ∧ valV kvs (.inl (v : Int)) = none) ∨ ∃ p u, planAt ks b ps v = some p ∧ valV kvs (.inl (v : Int)) = some u ∧ Dp K H u (eP p)) := by
  obtain ⟨ws, hw, ha⟩ := h
  have lw : ws.length = ps.length := by rw [hw.len, List.length_map]
  have nd : ((((ownF 0 b ks).zip ws)).map (·.1)).Nodup := by
    have e : ((ownF 0 b ks).zip ws).map (·.1) = ownF 0 b ks := List.map_fst_zip (by omega)
    rw [e]
    have key : ∀ (ks : List Bool) (o : Int), (ownF o b ks).Nodup := by
      intro ks
      induction ks with
      | nil => intro o; exact List.nodup_nil
      | cons k r ih =>
        intro o
        unfold ownF
        by_cases c : k = b
        · rw [if_pos c]
          refine List.nodup_cons.mpr ⟨fun z => ?_, ih _⟩
          have := (ownF_range b r (o + 1) o z).1
          omega
        · rw [if_neg c]
          exact ih _
    exact key ks 0
  have look : valV (PlD2 (ownF 0 b ks) ws) (.inl (v : Int)) = alook (v : Int) ((ownF 0 b ks).zip ws) := by
    have := merge_look (v : Int) ((ownF 0 b ks).zip ws) [] nd (fun p _ => rfl)
    rw [show valV ([] : List (Key × V)) (.inl (v : Int)) = none from rfl, Option.or_none] at this
    exact this
  have al := alook_own b ks 0 ws v hv (by omega)
  rw [show (0 : Int) + (v : Nat) = (v : Int) by omega] at al
  rw [al] at look
  refine ⟨_, ha, ?_⟩
  by_cases c : ks[v]? = some b
  · rw [if_pos c] at look
    have h1 := (List.getElem?_eq_some_iff.mp (own_at b ks 0 v c)).1
    obtain ⟨p, hp⟩ := planAt_own (ps := ps) hl c
    have hp' := hp
    unfold planAt at hp'
    rw [if_pos c] at hp'
    obtain ⟨u, h3, h4⟩ := hw.get (i := (ownF 0 b (ks.take v)).length) (d := eP p) (by rw [List.getElem?_map, hp']; rfl)
    exact .inr ⟨p, u, hp, by rw [look, h3], h4⟩
  · rw [if_neg c] at look
    exact .inl ⟨by unfold planAt; rw [if_neg c], look⟩
/-- the numbers of all variables: m are left, found are told, left the answers to come -/
def playN (pl : Nat → Option Pl) : Nat → List Int → List Int → Option (List Int)
  | 0, g, left => if left = [] then some g else none
  | m + 1, g, left => match pl g.length with
    | some p => (match tnum g p with
      | some i => playN pl m (g ++ [i]) left
      | none => none)
    | none => (match left with
      | a :: r => playN pl m (g ++ [a]) r
      | [] => none)
/-- going on -/
def goOn (pl : Nat → Option Pl) : Nat → List Int → Option (List Int)
  | 0, g => some g
  | m + 1, g => match pl g.length with
    | some p => (match tnum g p with
      | some i => goOn pl m (g ++ [i])
      | none => none)
    | none => some g
theorem goOn_zero (pl : Nat → Option Pl) (g : List Int) : goOn pl 0 g = some g := rfl
theorem goOn_succ (pl : Nat → Option Pl) (m : Nat) (g : List Int) : goOn pl (m + 1) g = match pl g.length with
    | some p => (match tnum g p with
      | some i => goOn pl m (g ++ [i])
      | none => none)
    | none => some g := rfl
theorem play_go (pl : Nat → Option Pl) : ∀ (m : Nat) (g left res : List Int), playN pl m g left = some res → ∃ g', goOn pl m g = some g' ∧ g.length ≤ g'.length ∧ g'.length ≤ g.length + m ∧ playN pl (m - (g'.length - g.length)) g' left = some res ∧ (g'.length = g.length + m ∨ pl g'.length = none)
  | 0, g, left, res, h => ⟨g, rfl, Nat.le_refl _, Nat.le_refl _, by rw [Nat.sub_self]; exact h, .inl rfl⟩
  | m + 1, g, left, res, h => by
    unfold playN at h
    unfold goOn
    cases hp : pl g.length with
    | none =>
      exact ⟨g, rfl, Nat.le_refl _, Nat.le_add_right _ _, by rw [Nat.sub_self, Nat.sub_zero]; unfold playN; exact h, .inr hp⟩
    | some p =>
      rw [hp] at h
      dsimp only at h ⊢
      cases ht : tnum g p with
      | none =>
        rw [ht] at h
        cases h
      | some i =>
        rw [ht] at h
        dsimp only at h ⊢
        obtain ⟨g', h1, h2, h3, h4, h5⟩ := play_go pl m (g ++ [i]) left res h
        rw [List.length_append, List.length_singleton] at h2 h3 h4 h5
        refine ⟨g', h1, by omega, by omega, ?_, ?_⟩
        · rw [show m + 1 - (g'.length - g.length) = m - (g'.length - (g.length + 1)) by omega]
          exact h4
        · rcases h5 with h5 | h5
          · exact .inl (by omega)
          · exact .inr h5
/-- how many answers are to come -/
def fits (ks : List Bool) (b : Bool) (i : Nat) (left : List Int) : Prop := left.length = (ownF 0 (!b) (ks.drop i)).length
theorem fits_own {ks : List Bool} {b : Bool} {i : Nat} {left : List Int} (h : fits ks b i left) (hk : ks[i]? = some b) : fits ks b (i + 1) left := by
  unfold fits at h ⊢
  have hi := (List.getElem?_eq_some_iff.mp hk).1
  have e : ks.drop i = b :: ks.drop (i + 1) := by
    rw [List.drop_eq_getElem_cons hi]
    congr 1
    exact (List.getElem?_eq_some_iff.mp hk).2
  rw [e] at h
  unfold ownF at h
  rw [if_neg (by cases b <;> simp)] at h
  rw [h]
  exact ownF_o _ _ _ _
theorem fits_other {ks : List Bool} {b : Bool} {i : Nat} {left : List Int} (h : fits ks b i left) (hi : i < ks.length) (hk : ks[i]? ≠ some b) : ∃ a r, left = a :: r ∧ fits ks b (i + 1) r := by
  unfold fits at h ⊢
  have e : ks.drop i = (!b) :: ks.drop (i + 1) := by
    rw [List.drop_eq_getElem_cons hi]
    congr 1
    rw [List.getElem?_eq_getElem hi] at hk
    cases h1 : ks[i] <;> cases b <;> simp_all
  rw [e] at h
  unfold ownF at h
  rw [if_pos rfl, List.length_cons] at h
  cases left with
  | nil => simp at h
  | cons a r =>
    refine ⟨a, r, rfl, ?_⟩
    have : r.length = (ownF (0 + 1) (!b) (List.drop (i + 1) ks)).length := by simpa using h
    rw [this]
    exact ownF_o _ _ _ _
theorem fits_end {ks : List Bool} {b : Bool} {left : List Int} (h : fits ks b ks.length left) : left = [] := by
  unfold fits at h
  rw [List.drop_length] at h
  exact List.length_eq_zero_iff.mp h
theorem fits_0 {ks : List Bool} {b : Bool} {left : List Int} (h : left.length = (ownF 0 (!b) ks).length) : fits ks b 0 left := by
  unfold fits
  rw [List.drop_zero]
  exact h
/-- bounds of numbers told -/
def Bd (ns : List Int) : Prop := ∀ (i : Nat) x, ns[i]? = some x → x.natAbs ≤ 10 ^ 18 * 100 ^ i
theorem Bd.nil : Bd [] := fun i x h => by simp at h
theorem Bd.snoc {ns : List Int} {x : Int} (h : Bd ns) (hx : x.natAbs ≤ 10 ^ 18 * 100 ^ ns.length) : Bd (ns ++ [x]) := fun i y e => by
  by_cases c : i < ns.length
  · rw [List.getElem?_append_left c] at e
    exact h i y e
  · have hi := (List.getElem?_eq_some_iff.mp e).1
    rw [List.length_append, List.length_singleton] at hi
    have : i = ns.length := by omega
    subst this
    rw [List.getElem?_append_right (Nat.le_refl _), Nat.sub_self] at e
    have : x = y := by simpa using e
    rw [← this]
    exact hx
theorem Bd.le {ns : List Int} (h : Bd ns) (hn : ns.length ≤ 3) : ∀ x ∈ ns, x.natAbs ≤ 10 ^ 22 := fun x hx => by
  obtain ⟨i, hi⟩ := List.getElem?_of_mem hx
  have h1 := (List.getElem?_eq_some_iff.mp hi).1
  have h2 := h i x hi
  have h3 : (100 : Nat) ^ i ≤ 100 ^ 2 := Nat.pow_le_pow_right (by decide) (by omega)
  have h4 : 10 ^ 18 * 100 ^ i ≤ 10 ^ 18 * 100 ^ 2 := Nat.mul_le_mul_left _ h3
  exact Nat.le_trans h2 (Nat.le_trans h4 (by decide))
theorem Bd.init {ns : List Int} (h : Bd ns) : Bd ns.dropLast := fun i x e => by
  rw [List.getElem?_dropLast] at e
  by_cases c : i < ns.length - 1
  · rw [if_pos c] at e
    exact h i x e
  · rw [if_neg c] at e
    cases e
end K85

/-! ### text T25 -/
namespace K85
open PySem PySem.Spec PyProof.Rows L2 Lay RZ


section
variable {P : Program} {w : World} {K : PySem.W.Frag} {mg : Str → Option Value} {base : Heap}
theorem ps_dead {X : Cx} {st : Stmt} : PS X st (fun _ _ _ => False) := by
  intros; first | exact ⟨fun _ _ _ _ _ _ h => h.elim⟩ | exact ⟨fun _ _ _ _ _ h => h.elim⟩ | (intro _ _ _ _ _ _ h; exact h.elim) | (intro _ _ _ _ _ h; exact h.elim)
def sp_wans (K : PySem.W.Frag) : Sp := fun vs H Q _ => ∃ (v u : V) (b : Bool) (f : Pre) (ns : List Int), vs = [v, .str (sS b), u] ∧ Dp K H v (eX f) ∧ Dp K H u (eI ns) ∧ f.1.length ≤ 100 ∧ ns.length = (ownF 0 (!b) f.1).length ∧ (ns.map PyData.int).all okN = true ∧ ∀ H', Ex H H' → Q .non H'
theorem cal_want_answers (T : Top K w mg) : Cal P w K mg base "want_answers" ["prenex", "side", "answers"] 7 (sp_wans K) := by
  refine cal_of T.f_want_answers sc_want_answers ?len (fun _ _ _ _ _ _ us hl => match us, hl with | [_, _, _], _ => rfl) (fun f cdv A outer s H vs Q E hr h => ⟨_, (pss_one (ps_if (pt_not (pt_val (pe_def (cal_are_numbers T) (hr.mono (by omega)) (pa_cons (pv 2) (pa_cons (pe_callB call_lenK rfl T.b_len PySem.boot_len (pa_cons (pe_def (cal_own_variables T) (hr.mono (by omega)) (pa_cons (pv 0) (pa_cons (pe_ix ix_kdictK (pe_gkd T.c_OTHER) (pv 1) (fun _ _ => rfl)) pa_nil))) pa_nil)) pa_nil))))) (pss_one ps_dead) pss_nil)), ?_⟩)
  case len => intro vs H Q E h; obtain ⟨_, _, _, _, _, rfl, _⟩ := h; rfl
  obtain ⟨v, u, b, f, ns, rfl, hv, hu, hn, hl, hk, q⟩ := h
  cases b with
  | true =>
    walk_at "lyS"
    refine x_kd fun a ha => ?_
    walk_at "lyS"
    refine x_ixKD (H := H) ha.1 ?_
    walk_at "lyS"
    refine ⟨f, false, _, _, rfl, hv, rfl, by omega, fun c acc H1 e1 n1 n2 n3 => ?_⟩
    have hown : Dp K H1 (.ref c) (.list ((ownF 0 false f.1).map PyData.int)) := dp_lst n2 n3
    have hw := ownF_len false f.1 0
    have hl' : ns.length = (ownF 0 false f.1).length := hl
    walk_at "lyS"
    refine ⟨u, ns.map PyData.int, _, rfl, .inr (by walk_at "lyD"), by rw [List.length_map]; omega, fun H2 e2 => ⟨_, rfl, ?_⟩⟩
    rw [hk, List.length_map, List.length_map, hl', decide_eq_true rfl]
    exact q _ (e1.trans e2)
  | false =>
    walk_at "lyS"
    refine x_kd fun a ha => ?_
    walk_at "lyS"
    refine x_ixKD (H := H) ha.2 ?_
    walk_at "lyS"
    refine ⟨f, true, _, _, rfl, hv, rfl, by omega, fun c acc H1 e1 n1 n2 n3 => ?_⟩
    have hown : Dp K H1 (.ref c) (.list ((ownF 0 true f.1).map PyData.int)) := dp_lst n2 n3
    have hw := ownF_len true f.1 0
    have hl' : ns.length = (ownF 0 true f.1).length := hl
    walk_at "lyS"
    refine ⟨u, ns.map PyData.int, _, rfl, .inr (by walk_at "lyD"), by rw [List.length_map]; omega, fun H2 e2 => ⟨_, rfl, ?_⟩⟩
    rw [hk, List.length_map, List.length_map, hl', decide_eq_true rfl]
    exact q _ (e1.trans e2)
end
end K85

/-! ### text T26 -/
namespace K85
open PySem PySem.Spec PyProof.Rows L2 Lay RZ


section
variable {P : Program} {w : World} {K : PySem.W.Frag} {mg : Str → Option Value} {base : Heap}
theorem sh_P {n : Nat} {p : Pl} (h : PlD n p) : Sh 7 (eP p) := Sh.tup fun d hd => by
  obtain ⟨t, ht, rfl⟩ := List.mem_map.mp hd
  obtain ⟨h1, _⟩ := h.1 t ht
  exact Sh.tup fun d hd => by
    have : d = eF t.1 ∨ d = eV t.2 := by simpa using hd
    rcases this with e | e
    · subst e; exact sh_FD h1
    · subst e; exact sh_V _
def sp_wplay (K : PySem.W.Frag) : Sp := fun vs H Q _ => ∃ (v u : V) (f : Pre) (d : Df), vs = [v, u] ∧ Dp K H v (eX f) ∧ Dp K H u (eD d) ∧ DfD f d ∧ f.1.length ≤ 3 ∧ ∀ H', Ex H H' → Q .non H'
theorem cal_want_played (T : Top K w mg) : Cal P w K mg base "want_played" ["prenex", "defence"] 8 (sp_wplay K) := by
  refine cal_of T.f_want_played sc_want_played ?len (fun _ _ _ _ _ _ us hl => match us, hl with | [_, _], _ => rfl) (fun f cdv A outer s H vs Q E hr h => ⟨_, (pss_one (ps_if (PW.pt (pw_or (pt_not (pt_val (pe_def (cal_has_form T) (hr.mono (by omega)) (pa_cons (pv 0) (pa_cons (pv 1) pa_nil))))) (pw_or1 (pt_not (pt_val (pe_callB cr_allK rfl T.b_all (by decide +kernel) (pa_cons (pe_lc (own := [("plan", 2)]) (g := (gName 2)) rfl sc_want_played.nd (pi_tup (pe_ix ix_tupK (pv 1) pe_int (fun _ _ => rfl))) (blkOk_by (by show blkC ["prenex", "defence", "plan"] (defScope s_want_played) _ _ = true; decide +kernel)) (fun _ _ _ _ _ => (pg_name (i := 2) sc_want_played.nd rfl (by first | exact Or.inl rfl | exact Or.inr rfl))) (fun _ _ _ _ _ => pts_nil) (fun _ _ _ _ _ => (pe_and (pe_cmpR (op_neDK hr.units) (pv 2) (pe_tup pa_nil) (nomark _)) (pe_one (pe_cmpR (op_eqDK hr.units) (pe_ix ix_tupK (pe_ix ix_tupK (pv 2) (pe_un un_neg pe_int) (fun _ _ => rfl)) pe_int (fun _ _ => rfl)) (pe_gdatK T.c_YES) (nomark _)))))) pa_nil))))))) (pss_one ps_dead) pss_nil)), ?_⟩)
  case len => intro vs H Q E h; obtain ⟨_, _, _, _, rfl, _⟩ := h; rfl
  obtain ⟨v, u, f, ⟨b, ps⟩, rfl, hv, hu, hd, hn, q⟩ := h
  walk_at "lyS"
  refine ⟨v, u, f, ⟨b, ps⟩, rfl, hv, hu, hd, hn, fun H1 e1 => ⟨_, rfl, ?_⟩⟩
  rw [if_neg (by decide)]
  have hu' : Dp K H u (.tuple [.str "defence", .str (sS b), .tuple (ps.map eP)]) := by cases b <;> exact hu
  walk_at "lyS"
  refine x_lcT ps eP (fun _ => .bool true) (by walk_at "lyD") (fun _ _ => rfl) (by have : ps.length = (ownF 0 b f.1).length := hd.1; have := ownF_len b f.1 0; omega) ?_ ?_
  · intro C pl x H' ha e hx hC
    obtain ⟨j, hj⟩ := List.getElem?_of_mem ha
    have hlen : ps.length = (ownF 0 b f.1).length := hd.1
    have hj2 : j < (ownF 0 b f.1).length := by
      have := (List.getElem?_eq_some_iff.mp hj).1
      omega
    have hr2 := ownF_range b f.1 0 _ (List.getElem_mem hj2)
    have hpl := hd.2 j pl _ hj (List.getElem?_eq_getElem hj2)
    obtain ⟨⟨g0, va⟩, r0, rfl, hq0⟩ := id hpl.2.1
    have hq0' : g0 = .yes := hq0
    subst hq0'
    walk_at "lyS"
    refine ⟨rfl, ?_⟩
    walk_at "lyS"
    refine ⟨eP (r0 ++ [(.yes, va)]), .tuple [], by walk_at "lyD", by walk_at "lyD", ((sh_P hpl).mono (by decide)).ok, (sh_nil.mono (by decide)).ok, ?_⟩
    have en : PyData.eqv (eP (r0 ++ [(Fm.yes, va)])) (.tuple []) = false := by
      cases r0 <;> simp [eP, PyData.eqv, PyData.eqvAll]
    rw [en]
    walk_at "lyS"
    refine x_ixT (ds := (r0 ++ [(Fm.yes, va)]).map eP1) (d := eP1 (.yes, va)) (R.xp (by assumption) _ _ hx) (by rw [List.map_append]; exact atI_last _ _) ?_
    intro y hy
    have hy' : Dp K _ y (.tuple [.tuple [.str "and", .tuple []], eV va]) := hy
    walk_at "lyS"
    refine ⟨_, .tuple [.str "and", .tuple []], by assumption, by assumption, ((Sh.tup fun d hd => ?_ : Sh 3 (.tuple [.str "and", .tuple []])).mono (by decide)).ok, ((Sh.tup fun d hd => ?_ : Sh 3 (.tuple [.str "and", .tuple []])).mono (by decide)).ok, ?_⟩
    · have : d = .str "and" ∨ d = .tuple [] := by simpa using hd
      rcases this with e | e
      · subst e; exact .str (by decide +kernel)
      · subst e; exact sh_nil.mono (by decide)
    · have : d = .str "and" ∨ d = .tuple [] := by simpa using hd
      rcases this with e | e
      · subst e; exact .str (by decide +kernel)
      · subst e; exact sh_nil.mono (by decide)
    · rw [show PyData.eqv (.tuple [.str "and", .tuple []]) (.tuple [.str "and", .tuple []]) = true by decide +kernel]
      exact hC _ _ (by assumption) (.bl _)
  · intro k acc2 H5 e5 m1 m2 m3
    walk_at "lyS"
    refine x_allD (dp_lst m2 (all_true m3)) ?_
    refine ⟨_, rfl, ?_⟩
    rw [show (List.replicate ps.length true).all id = true by simp]
    exact q _ (by walk_at "lyT")
end
end K85

/-! ### text T27 -/
namespace K85
open PySem PySem.Spec PyProof.Rows L2 Lay RZ


section
variable {P : Program} {w : World} {K : PySem.W.Frag} {mg : Str → Option Value} {base : Heap}
theorem x_dinE {ty td : TE} {σ : L2.St} {H : Hp} {Q : VK} (q : ty σ H fun y H1 => td σ H1 fun x H2 => ∃ a o, x = .ref a ∧ DGet H2 a y o ∧ Q (.bl o.isSome) H2) : tDIn ty td σ H Q := q
theorem x_dniE {ty td : TE} {σ : L2.St} {H : Hp} {Q : VK} (q : ty σ H fun y H1 => td σ H1 fun x H2 => ∃ a o, x = .ref a ∧ DGet H2 a y o ∧ Q (.bl (!o.isSome)) H2) : tDNotIn ty td σ H Q := q
theorem x_bmE {T : String} {r : V → List V → Hp → VK → Prop} {to : TE} {t : TA} {σ : L2.St} {H : Hp} {Q : VK} (q : to σ H fun x H1 => tyV K T x H1 ∧ t σ H1 fun xs H2 => r x xs H2 Q) : tBM K T r to t σ H Q := q
theorem x_bm0E {T : String} {r : V → List V → Hp → VK → Prop} {to : TE} {σ : L2.St} {H : Hp} {Q : VK} (q : to σ H fun x H1 => tyV K T x H1 ∧ r x [] H1 Q) : tBM0 K T r to σ H Q := q
theorem x_rapp {l : Addr} {xs : List V} {y : V} {H : Hp} {Q : VK} (h : H l = some (.lst xs)) (hl : xs.length ≤ 1000) (q : Q .non (upd H l (.lst (xs ++ [y])))) : rAppend (.ref l) [y] H Q := ⟨l, xs, y, rfl, rfl, h, Nat.lt_of_le_of_lt hl (by decide), q⟩
theorem x_pop0 {l : Addr} {xs : List V} {y : V} {H : Hp} {Q : VK} (h : H l = some (.lst (y :: xs))) (q : Q y (upd H l (.lst xs))) : rPopAt (.ref l) [.int 0] H Q := ⟨l, _, 0, 0, y, rfl, rfl, h, by decide, by decide, by unfold seqIndex?; simp, rfl, q⟩
theorem tyL {l : Addr} {xs : List V} {H : Hp} (h : H l = some (.lst xs)) : tyV K "list" (.ref l) H := .inl ⟨rfl, _, SqL.of h⟩
theorem plan_ok {f : Pre} {d : Df} (hd : DfD f d) (hn : f.1.length ≤ 3) {v : Nat} {p : Pl} (h : planAt f.1 d.1 d.2 v = some p) : PlOk v p := PlD.ok (planAt_D hd h) (by have := (planAt_some h).2; omega)
theorem ints_dp {H : Hp} {l : Addr} {ns : List Int} (h : H l = some (.lst (ns.map V.int))) : Dp K H (.ref l) (eI ns) := dp_lst h (ints_dps ns)
/-- the numbers of the plans of d over f, the answers ns -/
def playD (f : Pre) (d : Df) (ns : List Int) : Option (List Int) := playN (planAt f.1 d.1 d.2) f.1.length [] ns
def sp_alln (C : Addr) (K : PySem.W.Frag) : Sp := fun vs H Q E => ∃ (f : Pre) (d : Df) (ns : List Int) (v u : V) (pd : Addr), vs = [v, .ref pd, u] ∧ Dp K H v (eX f) ∧ PlanD K H pd (ownB f d.1) d.2 ∧ Dp K H u (eI ns) ∧ DfD f d ∧ f.1.length ≤ 3 ∧ fits f.1 d.1 0 ns ∧
  (∀ g, playD f d ns = some g → ∀ l H', Ex H H' → H l = none → H' l = some (.lst (g.map V.int)) → Q (.ref l) H') ∧ (playD f d ns = none → ∀ H', Ex H H' → E (.ref C) none H')
theorem cal_all_numbers (T : Top K w mg) {C : Addr} (N : ExcOk K mg "NotDefended" C) : CalX P w K mg base "all_numbers" ["prenex", "plans", "answers"] 9 (sp_alln C K) := by
  refine calX_of T.f_all_numbers sc_all_numbers ?len (fun _ _ _ _ _ _ us hl => match us, hl with | [_, _, _], _ => rfl) (fun f cdv A outer s H vs Q E hr h => ⟨_, (pss_cons (ps_par (i := 4) (j := 5) rfl sc_all_numbers.nd rfl rfl  (by decide) rfl rfl  (pa_cons (pe_lst pa_nil) (pa_cons (pe_callTy call_listK rfl T.b_list (by decide +kernel) (pa_cons (pv 2) pa_nil)) pa_nil)) rfl)
      (pss_cons (ps_for (passes_of rfl) rfl (pi_range1 rfl T.b_range (pa_cons (pe_callB call_lenK rfl T.b_len PySem.boot_len (pa_cons (pe_ix ix_tupK (pv 0) pe_int (fun _ _ => rfl)) pa_nil)) pa_nil)) (pg_name (i := 3) sc_all_numbers.nd rfl (by first | exact Or.inl rfl | exact Or.inr rfl)) (pss_one (ps_if (pt_cmp (pc_din (hu_of hr) (pv 3) (pv 1))) (pss_one (ps_expr (pe_bm PySem.F.plainAttrs_list PySem.F.slot_list_append PySem.F.type_list_append mt_append (pv 4) (pa_cons (pe_defX (cal_told_number T N) passE (hr.mono (by omega)) (pa_cons (pe_dget (hu_of hr) (pv 1) (pv 3) (fun _ _ => rfl)) (pa_cons (pv 4) pa_nil))) pa_nil)))) (pss_one (ps_expr (pe_bm PySem.F.plainAttrs_list PySem.F.slot_list_append PySem.F.type_list_append mt_append (pv 4) (pa_cons (pe_bm PySem.F.plainAttrs_list PySem.F.slot_list_pop PySem.F.type_list_pop mt_popAt (pv 5) (pa_cons pe_int pa_nil)) pa_nil)))))))
      (pss_one (ps_ret (pv 4))))), ?_⟩)
  case len => intro vs H Q E h; obtain ⟨_, _, _, _, _, _, rfl, _⟩ := h; rfl
  obtain ⟨f, ⟨b, ps⟩, ns, v, u, pd, rfl, hv, hpd, hu, hd, hn, hf, q1, q2⟩ := h
  walk_at "lyS"
  rename_i lf H1 e1 nf tf hf1
  refine x_listD (.inr (by walk_at "lyD")) ?_
  intro ll xs H2 e2 nl tl hl2
  obtain rfl := dps_ints hl2
  walk_at "lyS"
  refine ⟨_, rfl, by rw [List.length_map]; omega, by rw [List.length_map]; omega, ?_⟩
  rw [Int.toNat_natCast, List.length_map]
  have n12 : lf ≠ ll := ne_of_none tf nl
  have hlen : ps.length = (ownF 0 b f.1).length := hd.1
  have e12 : Ex H H2 := e1.trans e2
  have tf2 : H2 lf = some (.lst []) := e2.keep lf _ (by simp) tf
  have nl0 : H ll = none := R.exfree e1 nl
  refine for_range (lo := 0) (n := f.1.length) (fun i σ H' => ∃ g left o, σ = [some v, some (.ref pd), some u, o, some (.ref lf), some (.ref ll)] ∧ R [] H H' ∧ H' lf = some (.lst (g.map V.int)) ∧ H' ll = some (.lst (left.map V.int)) ∧ g.length = i ∧ i ≤ f.1.length ∧ fits f.1 b i left ∧
    playN (planAt f.1 b ps) (f.1.length - i) g left = playD f (b, ps) ns) ⟨[], ns, none, rfl, e12, tf2, tl, rfl, Nat.zero_le _, hf, rfl⟩ ?_ ?_
  · intro i σ' H' hi ⟨g, left, o, hs, r0, hg, hl, hgi, _, hfi, hp⟩
    subst hs
    rw [Int.zero_add]
    have r0' : Ex H H' := r0
    have hv' : Dp K H' v (eX f) := R.xp r0 _ _ hv
    obtain ⟨ws, w1, w2⟩ := id hpd
    have hpd' : PlanD K H' pd (ownF 0 b f.1) ps := ⟨ws, R.xps r0 _ _ w1, r0.keep pd _ (by simp) w2⟩
    obtain ⟨kvs, k1, k2⟩ := planD_get hpd' hlen hi
    walk_at "lyS"
    refine x_dinE ?_
    walk_at "lyS"
    refine ⟨pd, _, rfl, DGet.k (k := Sum.inl (i : Int)) k1, _, rfl, ?_⟩
    have em : f.1.length - i = (f.1.length - (i + 1)) + 1 := by omega
    rw [em] at hp
    unfold playN at hp
    have nfl : lf ≠ pd := fun z => by rw [z, w2] at nf; cases nf
    rcases k2 with ⟨k2, k3⟩ | ⟨p, x, k2, k3, k4⟩
    · rw [k3]
      rw [hgi, k2] at hp
      dsimp only at hp
      have hk := planAt_none hlen k2
      obtain ⟨a, r, rfl, hf2⟩ := fits_other hfi hi hk
      dsimp only at hp
      refine (if_neg (by simp)).mpr ?_
      walk_at "lyS"
      refine x_bmE ?_
      walk_at "lyS"
      refine ⟨tyL hg, ?_⟩
      walk_at "lyS"
      refine x_bmE ?_
      walk_at "lyS"
      refine ⟨tyL hl, ?_⟩
      walk_at "lyS"
      refine x_pop0 hl ?_
      walk_at "lyS"
      have nlf : ll ≠ lf := fun z => n12 z.symm
      refine x_rapp (by rw [upd_ne n12]; exact hg) (by rw [List.length_map]; omega) ?_
      refine ⟨g ++ [a], r, _, rfl, R.mut (R.mut r0 nl0) nf, ?_, ?_, ?_, hi, hf2, hp⟩
      · rw [upd_same, List.map_append]; rfl
      · rw [upd_ne nlf, upd_same]
      · rw [List.length_append, hgi]; rfl
    · rw [k3]
      rw [hgi, k2] at hp
      dsimp only at hp
      refine (if_pos rfl).mpr ?_
      walk_at "lyS"
      refine x_bmE ?_
      walk_at "lyS"
      refine ⟨tyL hg, ?_⟩
      walk_at "lyS"
      refine x_dget ?_
      walk_at "lyS"
      refine ⟨pd, _, rfl, k3 ▸ DGet.k (k := Sum.inl (i : Int)) k1, ?_⟩
      walk_at "lyS"
      have hpo : PlOk g.length p := hgi ▸ plan_ok hd hn k2
      refine ⟨p, g, _, _, rfl, k4, ints_dp hg, hpo, fun j H4 ht e4 => ?_, fun ht H4 e4 => ?_⟩
      · rw [ht] at hp
        dsimp only at hp
        walk_at "lyS"
        have hg4 : H4 lf = some (.lst (g.map V.int)) := e4.keep lf _ (by simp) hg
        have hl4 : H4 ll = some (.lst (left.map V.int)) := e4.keep ll _ (by simp) hl
        refine x_rapp hg4 (by rw [List.length_map]; omega) ?_
        refine ⟨g ++ [j], left, _, rfl, R.mut (r0.trans e4) nf, ?_, ?_, ?_, hi, fits_own hfi (planAt_some k2).1, hp⟩
        · rw [upd_same, List.map_append]; rfl
        · rw [upd_ne (fun z => n12 z.symm)]; exact hl4
        · rw [List.length_append, hgi]; rfl
      · rw [ht] at hp
        exact q2 hp.symm _ (r0.trans e4)
  · intro σ' H' ⟨g, left, o, hs, r0, hg, hl, hgi, _, hfi, hp⟩
    subst hs
    have := fits_end hfi
    subst this
    rw [Nat.sub_self] at hp
    walk_at "lyS"
    exact q1 g hp.symm lf H' r0 nf hg
def sp_played (C : Addr) (K : PySem.W.Frag) : Sp := fun vs H Q E => ∃ (f : Pre) (d : Df) (ns : List Int) (v u z : V), vs = [v, u, z] ∧ Dp K H v (eX f) ∧ Dp K H u (eD d) ∧ Dp K H z (eI ns) ∧ DfD f d ∧ f.1.length ≤ 3 ∧ ns.length = (ownF 0 (!d.1) f.1).length ∧ (ns.map PyData.int).all okN = true ∧
  (∀ g, playD f d ns = some g → ∀ x H', Ex H H' → Dp K H' x (.tuple (g.map PyData.int)) → Q x H') ∧ (playD f d ns = none → ∀ H', Ex H H' → E (.ref C) none H')
theorem cal_played (T : Top K w mg) {C : Addr} (N : ExcOk K mg "NotDefended" C) : CalX P w K mg base "played" ["prenex", "defence", "answers"] 10 (sp_played C K) := by
  refine calX_of T.f_played sc_played ?len (fun _ _ _ _ _ _ us hl => match us, hl with | [_, _, _], _ => rfl) (fun f cdv A outer s H vs Q E hr h => ⟨_, (pss_cons (ps_expr (pe_def (cal_want_played T) (hr.mono (by omega)) (pa_cons (pv 0) (pa_cons (pv 1) pa_nil))))
      (pss_cons (ps_expr (pe_def (cal_want_answers T) (hr.mono (by omega)) (pa_cons (pv 0) (pa_cons (pe_ix ix_tupK (pv 1) pe_int (fun _ _ => rfl)) (pa_cons (pv 2) pa_nil)))))
      (pss_one (ps_ret (pe_callTy call_tupleK rfl T.b_tuple (by decide +kernel) (pa_cons (pe_defX (cal_all_numbers T N) passE (hr.mono (by omega)) (pa_cons (pv 0) (pa_cons (pe_def (cal_plans_by_variable T) (hr.mono (by omega)) (pa_cons (pv 0) (pa_cons (pv 1) pa_nil))) (pa_cons (pv 2) pa_nil)))) pa_nil)))))), ?_⟩)
  case len => intro vs H Q E h; obtain ⟨_, _, _, _, _, _, rfl, _⟩ := h; rfl
  obtain ⟨f, ⟨b, ps⟩, ns, v, u, z, rfl, hv, hu, hz, hd, hn, hl, ho, q1, q2⟩ := h
  walk_at "lyS"
  refine ⟨_, _, f, (b, ps), rfl, hv, hu, hd, hn, fun H1 e1 => ?_⟩
  walk_at "lyS"
  have hu1 : Dp K H1 u (.tuple [.str "defence", .str (sS b), .tuple (ps.map eP)]) := R.xp e1 _ _ hu
  refine ⟨_, _, b, f, ns, rfl, R.xp e1 _ _ hv, R.xp e1 _ _ hz, by omega, hl, ho, fun H2 e2 => ?_⟩
  have e12 : Ex H H2 := e1.trans e2
  walk_at "lyS"
  refine ⟨_, _, f, (b, ps), rfl, R.xp e12 _ _ hv, R.xp e12 _ _ hu, hd, hn, fun a H3 na e3 hp => ?_⟩
  have e13 : Ex H H3 := e12.trans e3
  walk_at "lyS"
  refine ⟨f, (b, ps), ns, v, z, a, rfl, R.xp e13 _ _ hv, hp, R.xp e13 _ _ hz, hd, hn, fits_0 hl, fun g hg l H4 e4 n4 t4 => ?_, fun hg H4 e4 => q2 hg _ (e13.trans e4)⟩
  walk_at "lyS"
  refine x_tupleD (.inr (ints_dp t4)) ?_
  intro x H5 e5 hx
  walk_at "lyS"
  exact q1 g hg x H5 (e13.trans (e4.trans e5)) hx
end
end K85

/-! ### text M2 -/
namespace K85
open PySem PySem.Spec PyProof.Rows L2 Lay RZ


/-! the class Match -/
def mfs (vf vd : V) (pd mt : Addr) : List (Str × V) := [("prenex", vf), ("defence", vd), ("plans", .ref pd), ("told", .ref mt)]
structure MtA where
  m : Addr
  dx : Addr
  mt : Addr
  pd : Addr
  vf : V
  vd : V
structure MtAt (K : PySem.W.Frag) (C : Addr) (H : Hp) (μ : MtA) (f : Pre) (d : Df) (ns : List Int) : Prop where
  ins : H μ.m = some (.ins C μ.dx (mfs μ.vf μ.vd μ.pd μ.mt))
  vf : Dp K H μ.vf (eX f)
  vd : Dp K H μ.vd (eD d)
  pl : PlanD K H μ.pd (ownB f d.1) d.2
  told : H μ.mt = some (.lst (ns.map V.int))
structure MtOk (K : PySem.W.Frag) (mg : Str → Option Value) (C : Addr) : Prop where
  cl : Cls K C
  nP : NoAttr K C "prenex"
  nD : NoAttr K C "defence"
  nL : NoAttr K C "plans"
  nT : NoAttr K C "told"
  m : mg "Match" = some (.ref C)
  f_init : ∃ f fd, Mk K C f ∧ Fun K "__init__" "Match.__init__" s_Match___init__ f fd
  f_numbers : ∃ f fd, Meth K C "numbers" f ∧ Fun K "numbers" "Match.numbers" s_Match_numbers f fd
  f_is_over : ∃ f fd, Meth K C "is_over" f ∧ Fun K "is_over" "Match.is_over" s_Match_is_over f fd
  f_turn : ∃ f fd, Meth K C "turn" f ∧ Fun K "turn" "Match.turn" s_Match_turn f fd
  f_go : ∃ f fd, Meth K C "go" f ∧ Fun K "go" "Match.go" s_Match_go f fd
  f_go_on : ∃ f fd, Meth K C "go_on" f ∧ Fun K "go_on" "Match.go_on" s_Match_go_on f fd
  f_say : ∃ f fd, Meth K C "say" f ∧ Fun K "say" "Match.say" s_Match_say f fd
  f_back : ∃ f fd, Meth K C "back" f ∧ Fun K "back" "Match.back" s_Match_back f fd
  f_winner : ∃ f fd, Meth K C "winner" f ∧ Fun K "winner" "Match.winner" s_Match_winner f fd
theorem st_pd : (("defence" : Str) == ("prenex" : Str)) = false := by decide +kernel
theorem st_lp : (("plans" : Str) == ("prenex" : Str)) = false := by decide +kernel
theorem st_ld : (("plans" : Str) == ("defence" : Str)) = false := by decide +kernel
theorem st_tp : (("told" : Str) == ("prenex" : Str)) = false := by decide +kernel
theorem st_td : (("told" : Str) == ("defence" : Str)) = false := by decide +kernel
theorem st_tl : (("told" : Str) == ("plans" : Str)) = false := by decide +kernel
section
variable {K : PySem.W.Frag} {H H' : Hp} {C : Addr} {μ : MtA} {f : Pre} {d : Df} {ns : List Int} {vf vd : V} {pd mt l : Addr}
theorem lk_p : (mfs vf vd pd mt).lookup ("prenex" : Str) = some vf := by simp [mfs, List.lookup]
theorem lk_d : (mfs vf vd pd mt).lookup ("defence" : Str) = some vd := by simp [mfs, List.lookup, st_pd]
theorem lk_l : (mfs vf vd pd mt).lookup ("plans" : Str) = some (.ref pd) := by simp [mfs, List.lookup, st_lp, st_ld]
theorem lk_t : (mfs vf vd pd mt).lookup ("told" : Str) = some (.ref mt) := by simp [mfs, List.lookup, st_tp, st_td, st_tl]
def noF (m : Str) : Bool := !(m == ("prenex" : Str)) && !(m == ("defence" : Str)) && !(m == ("plans" : Str)) && !(m == ("told" : Str))
theorem lk_no {m : Str} (h : noF m = true) : (mfs vf vd pd mt).lookup m = none := by
  unfold noF at h
  simp only [Bool.and_eq_true, Bool.not_eq_true'] at h
  obtain ⟨⟨⟨h1, h2⟩, h3⟩, h4⟩ := h
  simp [mfs, List.lookup, h1, h2, h3, h4]
theorem put_ne {f g : Str} {y v : V} {r : List (Str × V)} (h : (f == g) = false) : putF f y ((g, v) :: r) = (g, v) :: putF f y r := by
  have : ¬ g = f := fun z => by rw [z] at h; simp at h
  show (if g = f then _ else _) = _
  rw [if_neg this]
theorem put_eq {f : Str} {y v : V} {r : List (Str × V)} : putF f y ((f, v) :: r) = (f, y) :: r := by
  show (if f = f then _ else _) = _
  rw [if_pos rfl]
theorem put_t : putF "told" (.ref l) (mfs vf vd pd mt) = mfs vf vd pd l := by
  unfold mfs
  rw [put_ne st_tp, put_ne st_td, put_ne st_tl, put_eq]
theorem MtAt.keep (h : MtAt K C H μ f d ns) (k : ∀ a o, (a = μ.m ∨ a = μ.mt ∨ a = μ.pd) → H a = some o → (∀ ps, o ≠ .tbl ps) → H' a = some o) (t : ∀ a xs, SqT K H a xs → SqT K H' a xs) : MtAt K C H' μ f d ns := by
  obtain ⟨ws, w1, w2⟩ := h.pl
  exact ⟨k _ _ (.inl rfl) h.ins (fun ps z => by cases z), im_keep t _ _ (im_X f) h.vf, im_keep t _ _ (im_D d) h.vd, ⟨ws, ims_keep t _ _ (ims_Ps _) w1, k _ _ (.inr (.inr rfl)) w2 (fun ps z => by cases z)⟩, k _ _ (.inr (.inl rfl)) h.told (fun ps z => by cases z)⟩
theorem MtAt.ex (h : MtAt K C H μ f d ns) (e : Ex H H') : MtAt K C H' μ f d ns := h.keep (fun a o _ q _ => e.keep a o (by simp) q) fun _ _ => e.sqt
theorem MtAt.ne1 (h : MtAt K C H μ f d ns) : μ.mt ≠ μ.m := ne_of h.told h.ins fun z => by cases z
theorem MtAt.ne2 (h : MtAt K C H μ f d ns) : μ.mt ≠ μ.pd := by
  obtain ⟨ws, w1, w2⟩ := h.pl
  exact ne_of h.told w2 fun z => by cases z
theorem MtAt.ne3 (h : MtAt K C H μ f d ns) : μ.pd ≠ μ.m := by
  obtain ⟨ws, w1, w2⟩ := h.pl
  exact ne_of w2 h.ins fun z => by cases z
/-- the told list is written -/
theorem MtAt.tell {ms : List Int} (h : MtAt K C H μ f d ns) (r : RW [μ.mt] H H') (t : H' μ.mt = some (.lst (ms.map V.int))) : MtAt K C H' μ f d ms := by
  obtain ⟨ws, w1, w2⟩ := h.pl
  exact ⟨r.keep _ _ (by simpa using h.ne1.symm) h.ins, r.dp h.vf (im_X f), r.dp h.vd (im_D d), ⟨ws, r.dps w1 (ims_Ps _), r.keep _ _ (by simpa using h.ne2.symm) w2⟩, t⟩
/-- another told list -/
theorem MtAt.swap {ms : List Int} (h : MtAt K C H μ f d ns) (r : RW [μ.m] H H') (i : H' μ.m = some (.ins C μ.dx (mfs μ.vf μ.vd μ.pd l))) (t : H' l = some (.lst (ms.map V.int))) : MtAt K C H' { μ with mt := l } f d ms := by
  obtain ⟨ws, w1, w2⟩ := h.pl
  exact ⟨i, r.dp h.vf (im_X f), r.dp h.vd (im_D d), ⟨ws, r.dps w1 (ims_Ps _), r.keep _ _ (by simpa using h.ne3) w2⟩, t⟩
variable {mg : Str → Option Value} {σ : L2.St} {Q : VK} {i : Nat}
theorem x_told (M : MtOk K mg C) (h : MtAt K C H μ f d ns) (hs : σ[i]? = some (some (.ref μ.m))) (q : Q (.ref μ.mt) H) : tFld K (tVar i) "told" σ H Q := ⟨_, hs, _, C, _, _, _, rfl, h.ins, M.cl, M.nT, lk_t, q⟩
theorem x_pren (M : MtOk K mg C) (h : MtAt K C H μ f d ns) (hs : σ[i]? = some (some (.ref μ.m))) (q : ∀ v, Dp K H v (eX f) → Q v H) : tFld K (tVar i) "prenex" σ H Q := ⟨_, hs, _, C, _, _, _, rfl, h.ins, M.cl, M.nP, lk_p, q _ h.vf⟩
theorem x_plans (M : MtOk K mg C) (h : MtAt K C H μ f d ns) (hs : σ[i]? = some (some (.ref μ.m))) (q : Q (.ref μ.pd) H) : tFld K (tVar i) "plans" σ H Q := ⟨_, hs, _, C, _, _, _, rfl, h.ins, M.cl, M.nL, lk_l, q⟩
theorem x_lenA {p : Addr} {xs : List V} (h : H p = some (.lst xs)) (q : Q (.int (xs.length : Int)) H) : rLenK K [.ref p] H Q := x_lenR h q
/-- who tells a variable -/
def turnD (f : Pre) (n : Nat) : PyData := match f.1[n]? with
  | some k => .str (sS k)
  | none => .none
def winD (f : Pre) (ns : List Int) : PyData := if ns.length = f.1.length then .str (sS (fh ns f.2)) else .none
end
def sp_minit (C : Addr) (K : PySem.W.Frag) : Sp := fun vs H Q _ => ∃ (f : Pre) (d : Df) (m dx : Addr) (v u : V), vs = [.ref m, v, u] ∧ H m = some (.ins C dx []) ∧ Dp K H v (eX f) ∧ Dp K H u (eD d) ∧ DfD f d ∧ f.1.length ≤ 3 ∧
  ∀ μ H', μ.m = m → H μ.mt = none → H μ.pd = none → RW [m] H H' → MtAt K C H' μ f d [] → Q .non H'
def sp_mnum (C : Addr) (K : PySem.W.Frag) : Sp := fun vs H Q _ => ∃ (μ : MtA) (f : Pre) (d : Df) (ns : List Int), vs = [.ref μ.m] ∧ MtAt K C H μ f d ns ∧ ∀ x H', Ex H H' → Dp K H' x (.tuple (ns.map PyData.int)) → Q x H'
def sp_mover (C : Addr) (K : PySem.W.Frag) : Sp := fun vs H Q _ => ∃ (μ : MtA) (f : Pre) (d : Df) (ns : List Int), vs = [.ref μ.m] ∧ MtAt K C H μ f d ns ∧ Q (.bl (decide (ns.length = f.1.length))) H
def sp_mturn (C : Addr) (K : PySem.W.Frag) : Sp := fun vs H Q _ => ∃ (μ : MtA) (f : Pre) (d : Df) (ns : List Int), vs = [.ref μ.m] ∧ MtAt K C H μ f d ns ∧ ns.length ≤ f.1.length ∧ ∀ x H', Ex H H' → Dp K H' x (turnD f ns.length) → Q x H'
def sp_mwin (C : Addr) (K : PySem.W.Frag) : Sp := fun vs H Q _ => ∃ (μ : MtA) (f : Pre) (d : Df) (ns : List Int), vs = [.ref μ.m] ∧ MtAt K C H μ f d ns ∧ FmOk f.1.length f.2 ∧ f.2.deep ≤ 2 ∧ ∀ x H', Ex H H' → Dp K H' x (winD f ns) → Q x H'
def sp_mgo (C ND : Addr) (K : PySem.W.Frag) : Sp := fun vs H Q E => ∃ (μ : MtA) (f : Pre) (d : Df) (ns : List Int), vs = [.ref μ.m] ∧ MtAt K C H μ f d ns ∧ DfD f d ∧ f.1.length ≤ 3 ∧ ns.length ≤ f.1.length ∧
  (planAt f.1 d.1 d.2 ns.length = none → Q .non H) ∧ ∀ p, planAt f.1 d.1 d.2 ns.length = some p → (∀ i, tnum ns p = some i → ∀ H', RW [μ.mt] H H' → H' μ.mt = some (.lst ((ns ++ [i]).map V.int)) → Q (.int i) H') ∧ (tnum ns p = none → ∀ H', Ex H H' → E (.ref ND) none H')
def sp_mgoon (C ND : Addr) (K : PySem.W.Frag) : Sp := fun vs H Q E => ∃ (μ : MtA) (f : Pre) (d : Df) (ns : List Int), vs = [.ref μ.m] ∧ MtAt K C H μ f d ns ∧ DfD f d ∧ f.1.length ≤ 3 ∧ ns.length ≤ f.1.length ∧
  (∀ g, goOn (planAt f.1 d.1 d.2) (f.1.length - ns.length) ns = some g → ∀ H' l, H l = none → RW [μ.m] H H' → H' μ.m = some (.ins C μ.dx (mfs μ.vf μ.vd μ.pd l)) → H' l = some (.lst (g.map V.int)) → Q (.int ((g.length : Int) - ns.length)) H') ∧
  (goOn (planAt f.1 d.1 d.2) (f.1.length - ns.length) ns = none → ∀ H', Ex H H' → E (.ref ND) none H')
/-- the number that say lets -/
def letN (f : Pre) (d : Df) (ns : List Int) (n : PyData) : Option Int := if ns.length < f.1.length ∧ planAt f.1 d.1 d.2 ns.length = none then (match n with
  | .int i => if okN (.int i) = true then some i else none
  | _ => none) else none
def sp_msay (C IN : Addr) (K : PySem.W.Frag) : Sp := fun vs H Q E => ∃ (μ : MtA) (f : Pre) (d : Df) (ns : List Int) (u : V) (n : PyData), vs = [.ref μ.m, u] ∧ MtAt K C H μ f d ns ∧ Dp K H u n ∧ DfD f d ∧ f.1.length ≤ 3 ∧ ns.length ≤ f.1.length ∧
  (∀ i, letN f d ns n = some i → ∀ H', RW [μ.mt] H H' → H' μ.mt = some (.lst ((ns ++ [i]).map V.int)) → Q (.int ((ns.length : Int) + 1)) H') ∧ (letN f d ns n = none → ∀ H' dd, Ex H H' → H' dd = some (.xd [("value", u)]) → E (.ref IN) (some dd) H')
def sp_mback (C NU : Addr) (K : PySem.W.Frag) : Sp := fun vs H Q E => ∃ (μ : MtA) (f : Pre) (d : Df) (ns : List Int), vs = [.ref μ.m] ∧ MtAt K C H μ f d ns ∧ ns.length ≤ 3 ∧
  (ns = [] → ∀ H', Ex H H' → E (.ref NU) none H') ∧ ∀ r i, ns = r ++ [i] → ∀ H', RW [μ.mt] H H' → H' μ.mt = some (.lst (r.map V.int)) → Q (.int i) H'
theorem x_over {K : PySem.W.Frag} {H : Hp} {C : Addr} {μ : MtA} {f : Pre} {d : Df} {ns : List Int} {mg : Str → Option Value} {σ : L2.St} {Q : VK} {E : XK} {i : Nat} (M : MtOk K mg C) (h : MtAt K C H μ f d ns) (hs : σ[i]? = some (some (.ref μ.m))) (q : Q (.bl (decide (ns.length = f.1.length))) H) : tMeth C "is_over" (sp_mover C K) [] E (tVar i) tNil σ H Q :=
  ⟨_, hs, _, _, _, rfl, h.ins, lk_no (by decide +kernel), μ, f, d, ns, rfl, h, q⟩
theorem x_sfldE {K : PySem.W.Frag} {ta tv : TE} {f : Str} {D : Ends} {σ : L2.St} {H : Hp} (q : tv σ H fun y H1 => ta σ H1 fun x H2 => ∃ a C dx fs, x = .ref a ∧ H2 a = some (.ins C dx fs) ∧ Cls K C ∧ NoAttr K C f ∧ fs.length < 1000 ∧ D.nx σ (upd H2 a (.ins C dx (putF f y fs)))) : sFld K ta tv f D σ H := q

end K85
/-! ### macros MacM -/
local macro_rules | `(tactic| walk_at "lyM1") => `(tactic| first
  | ((with_reducible refine x_told (mg := ?lya) (C := ?lyb) (μ := ?lyc) (f := ?lyd) (d := ?lye) (ns := ?lyf) ?lym ?lyh ?lys ?lyq); (case lym => with_reducible assumption); (case lyh => with_reducible assumption); (case lys => rfl))
  | ((with_reducible refine x_pren (mg := ?lya) (C := ?lyb) (μ := ?lyc) (f := ?lyd) (d := ?lye) (ns := ?lyf) ?lym ?lyh ?lys ?lyq); (case lym => with_reducible assumption); (case lyh => with_reducible assumption); (case lys => rfl); intro ly_w ly_h)
  | ((with_reducible refine x_plans (mg := ?lya) (C := ?lyb) (μ := ?lyc) (f := ?lyd) (d := ?lye) (ns := ?lyf) ?lym ?lyh ?lys ?lyq); (case lym => with_reducible assumption); (case lyh => with_reducible assumption); (case lys => rfl))
  | ((with_reducible refine x_over (mg := ?lya) (C := ?lyb) (μ := ?lyc) (f := ?lyd) (d := ?lye) (ns := ?lyf) ?lym ?lyh ?lys ?lyq); (case lym => with_reducible assumption); (case lyh => with_reducible assumption); (case lys => rfl))
  | with_reducible refine x_sfldE ?_ | with_reducible refine x_bmE ?_ | with_reducible refine x_bm0E ?_ | with_reducible refine x_dinE ?_ | with_reducible refine x_dniE ?_ | with_reducible refine x_dget ?_
  | walk_at "lyS1")
local macro_rules | `(tactic| walk_at "lyM") => `(tactic| ((try dsimp only [cxOf, Cx.nox, Cx.wish]); repeat walk_at "lyM1"))
namespace K85
open PySem PySem.Spec PyProof.Rows L2 Lay RZ

section
variable {P : Program} {w : World} {K : PySem.W.Frag} {mg : Str → Option Value} {base : Heap} {C : Addr}
theorem cal_m_over (T : Top K w mg) (M : MtOk K mg C) : CalM P w K mg base CX0 (Meth K C "is_over") ["self"] 1 (sp_mover C K) := by
  refine calM_of M.f_is_over sc_Match_is_over ?len (fun _ _ _ _ _ _ us hl => match us, hl with | [_], _ => rfl) (fun f cdv A outer s H vs Q E hr h => ⟨_, (pss_one (ps_ret (pe_cmpR op_eq (pe_callB call_lenK rfl T.b_len PySem.boot_len (pa_cons (pe_fld (pv 0) rfl) pa_nil)) (pe_callB call_lenK rfl T.b_len PySem.boot_len (pa_cons (pe_ix ix_tupK (pe_fld (pv 0) rfl) pe_int (fun _ _ => rfl)) pa_nil)) (nomark _)))), ?_⟩)
  case len => intro vs H Q E h; obtain ⟨_, _, _, _, rfl, _⟩ := h; rfl
  obtain ⟨μ, f, d, ns, rfl, hm, q⟩ := h
  walk_at "lyM"
  refine x_lenA hm.told ?_
  walk_at "lyM"
  have e : decide (((ns.map V.int).length : Int) = (((f.1.map fun b => PyData.str (kS b)).length : Nat) : Int)) = decide (ns.length = f.1.length) := by
    rw [List.length_map, List.length_map]
    exact decide_eq_decide.mpr ⟨fun z => by omega, fun z => by omega⟩
  rw [e]
  exact q
theorem cal_m_numbers (T : Top K w mg) (M : MtOk K mg C) : CalM P w K mg base CX0 (Meth K C "numbers") ["self"] 1 (sp_mnum C K) := by
  refine calM_of M.f_numbers sc_Match_numbers ?len (fun _ _ _ _ _ _ us hl => match us, hl with | [_], _ => rfl) (fun f cdv A outer s H vs Q E hr h => ⟨_, (pss_one (ps_ret (pe_callTy call_tupleK rfl T.b_tuple (by decide +kernel) (pa_cons (pe_fld (pv 0) rfl) pa_nil)))), ?_⟩)
  case len => intro vs H Q E h; obtain ⟨_, _, _, _, rfl, _⟩ := h; rfl
  obtain ⟨μ, f, d, ns, rfl, hm, q⟩ := h
  walk_at "lyM"
  refine x_tupleD (.inr (ints_dp hm.told)) ?_
  intro x H5 e5 hx
  walk_at "lyM"
  exact q x H5 e5 hx
end
end K85

/-! ### text M3 -/
namespace K85
open PySem PySem.Spec PyProof.Rows L2 Lay RZ



section
variable {P : Program} {w : World} {K : PySem.W.Frag} {mg : Str → Option Value} {base : Heap} {C : Addr}
theorem sh_eI (ns : List Int) : Sh 64 (eI ns) := (Sh.lst (n := 0) fun d hd => by
  obtain ⟨t, _, rfl⟩ := List.mem_map.mp hd
  exact .int).mono (by decide)
theorem cal_m_turn (T : Top K w mg) (M : MtOk K mg C) : CalM P w K mg base CX0 (Meth K C "turn") ["self"] 2 (sp_mturn C K) := by
  refine calM_of M.f_turn sc_Match_turn ?len (fun _ _ _ _ _ _ us hl => match us, hl with | [_], _ => rfl) (fun f cdv A outer s H vs Q E hr h => ⟨_, (pss_cons (ps_if (pt_val (pe_mth0 (cal_m_over T M) M.cl pass0 (hr.mono (by omega)) (pv 0))) (pss_one (ps_ret pe_non)) pss_nil)
      (pss_cons (ps_set (i := 1) sc_Match_turn.nd rfl (by first | exact Or.inl rfl | exact Or.inr rfl) (pe_ix ix_tupK (pe_ix ix_tupK (pe_fld (pv 0) rfl) pe_int (fun _ _ => rfl)) (pe_callB call_lenK rfl T.b_len PySem.boot_len (pa_cons (pe_fld (pv 0) rfl) pa_nil)) (fun _ _ => rfl)))
      (pss_one (ps_ret (pe_ifExp (pt_cmpR op_eq (pe_ix ix_kdictK (pe_gkd T.c_KINDS) pe_str (fun _ _ => rfl)) (pv 1) (nomark _)) pe_str pe_str))))), ?_⟩)
  case len => intro vs H Q E h; obtain ⟨_, _, _, _, rfl, _⟩ := h; rfl
  obtain ⟨μ, f, d, ns, rfl, hm, hl, q⟩ := h
  walk_at "lyM"
  by_cases c : ns.length = f.1.length
  · refine x_ifdT c ?_
    walk_at "lyM"
    have e : turnD f ns.length = .none := by
      unfold turnD
      rw [List.getElem?_eq_none (show f.1.length ≤ ns.length by omega)]
    exact q _ _ (R.refl _) (e ▸ .non)
  · refine x_ifdF c ?_
    walk_at "lyM"
    refine x_lenA hm.told ?_
    rw [List.length_map]
    have hi : ns.length < f.1.length := by omega
    have ei := List.getElem?_eq_getElem hi
    refine x_ixT (ds := f.1.map fun b => PyData.str (kS b)) (d := .str (kS f.1[ns.length])) (by assumption) (atI_nat (by rw [List.getElem?_map, ei]; rfl)) ?_
    walk_at "lyV"
    walk_at "lyM"
    refine x_kd fun a ha => ?_
    walk_at "lyM"
    refine x_ixKD ha.1 ?_
    walk_at "lyM"
    have e : turnD f ns.length = .str (sS f.1[ns.length]) := by
      unfold turnD
      rw [ei]
    cases h1 : f.1[ns.length] with
    | true =>
      rw [h1] at e
      refine x_ifdT (by decide +kernel) ?_
      walk_at "lyM"
      exact q _ _ (R.refl _) (e ▸ .str _)
    | false =>
      rw [h1] at e
      refine x_ifdF (by decide +kernel) ?_
      walk_at "lyM"
      exact q _ _ (R.refl _) (e ▸ .str _)
theorem cal_m_winner (T : Top K w mg) (M : MtOk K mg C) : CalM P w K mg base CX0 (Meth K C "winner") ["self"] 7 (sp_mwin C K) := by
  refine calM_of M.f_winner sc_Match_winner ?len (fun _ _ _ _ _ _ us hl => match us, hl with | [_], _ => rfl) (fun f cdv A outer s H vs Q E hr h => ⟨_, (pss_cons (ps_if (pt_not (pt_val (pe_mth0 (cal_m_over T M) M.cl pass0 (hr.mono (by omega)) (pv 0)))) (pss_one (ps_ret pe_non)) pss_nil)
      (pss_one (ps_ret (pe_ifExp (pt_val (pe_def (cal_matrix_holds T) (hr.mono (by omega)) (pa_cons (pe_fld (pv 0) rfl) (pa_cons (pe_fld (pv 0) rfl) pa_nil)))) pe_str pe_str)))), ?_⟩)
  case len => intro vs H Q E h; obtain ⟨_, _, _, _, rfl, _⟩ := h; rfl
  obtain ⟨μ, f, d, ns, rfl, hm, hf, hdp, q⟩ := h
  walk_at "lyM"
  by_cases c : ns.length = f.1.length
  · refine x_ifnT c ?_
    walk_at "lyM"
    have e : winD f ns = .str (sS (fh ns f.2)) := by
      unfold winD
      rw [if_pos c]
    have hX : ∀ {v : V}, Dp K H v (eX f) → Dp K H v (.tuple [.str "prenex", .int 0, .tuple (f.1.map fun b => .str (kS b)), eF f.2]) := fun h => h
    refine ⟨_, _, _, f.2, ns, rfl, hX (by assumption), .inr (ints_dp hm.told), c ▸ hf, hdp, fun H1 e1 => ⟨_, rfl, ?_⟩⟩
    cases h1 : fh ns f.2 with
    | true =>
      rw [h1] at e
      refine (if_pos rfl).mpr ?_
      walk_at "lyM"
      exact q _ _ e1 (e ▸ .str _)
    | false =>
      rw [h1] at e
      refine (if_neg (by simp)).mpr ?_
      walk_at "lyM"
      exact q _ _ e1 (e ▸ .str _)
  · refine x_ifnF c ?_
    walk_at "lyM"
    have e : winD f ns = .none := by
      unfold winD
      rw [if_neg c]
    exact q _ _ (R.refl _) (e ▸ .non)
theorem cal_m_back (T : Top K w mg) (M : MtOk K mg C) {NU : Addr} (N : ExcOk K mg "NothingToUndo" NU) : CalM P w K mg base (L2.CX P w) (Meth K C "back") ["self"] 1 (sp_mback C NU K) := by
  refine calMX_of M.f_back sc_Match_back ?len (fun _ _ _ _ _ _ us hl => match us, hl with | [_], _ => rfl) (fun f cdv A outer s H vs Q E hr h => ⟨_, (pss_cons (ps_if (pt_cmpR (op_eqDK hr.units) (pe_fld (pv 0) rfl) (pe_lst pa_nil) (nomark _)) (pss_one (ps_raise rfl takesE (pmk_own0 PySem.F.excBase_RuntimeError N.q N.m N.k (raises_own N.sub N.ty) rfl))) pss_nil)
      (pss_one (ps_ret (pe_bm0 PySem.F.plainAttrs_list PySem.F.slot_list_pop PySem.F.type_list_pop mt_pop (pe_fld (pv 0) rfl))))), ?_⟩)
  case len => intro vs H Q E h; obtain ⟨_, _, _, _, rfl, _⟩ := h; rfl
  obtain ⟨μ, f, d, ns, rfl, hm, hl, q0, q1⟩ := h
  walk_at "lyM"
  rename_i l H1 e1 n1 t1 c1
  have hm1 := hm.ex e1
  refine ⟨eI ns, .list [], ints_dp hm1.told, by walk_at "lyD", (sh_eI ns).ok, (sh_eI []).ok, _, rfl, ?_⟩
  rcases List.eq_nil_or_concat ns with c | ⟨r, i, c⟩
  · subst c
    refine (if_pos rfl).mpr ?_
    exact q0 rfl _ e1
  · have c' : ns = r ++ [i] := by rw [c, List.concat_eq_append]
    subst c'
    have en : PyData.eqv (eI (r ++ [i])) (.list []) = false := by cases r <;> simp [eI, PyData.eqv, PyData.eqvAll]
    rw [en]
    refine (if_neg (by simp)).mpr ?_
    walk_at "lyM"
    refine ⟨tyL hm1.told, μ.mt, (r ++ [i]).map V.int, .int i, rfl, rfl, hm1.told, by simp, ?_⟩
    have ed : ((r ++ [i]).map V.int).dropLast = r.map V.int := by simp
    rw [ed]
    have ro : RW [μ.mt] H (upd H1 μ.mt (.lst (r.map V.int))) := (RW.ofEx e1).trans (RW.lst hm1.told)
    exact q1 r i rfl _ ro upd_same
theorem cal_m_go (T : Top K w mg) (M : MtOk K mg C) {ND : Addr} (N : ExcOk K mg "NotDefended" ND) : CalM P w K mg base (L2.CX P w) (Meth K C "go") ["self"] 9 (sp_mgo C ND K) := by
  refine calMX_of M.f_go sc_Match_go ?len (fun _ _ _ _ _ _ us hl => match us, hl with | [_], _ => rfl) (fun f cdv A outer s H vs Q E hr h => ⟨_, (pss_cons (ps_if (PW.pt (pw_or (pt_val (pe_mth0 (cal_m_over T M) M.cl pass0 (hr.mono (by omega)) (pv 0))) (pw_or1 (pt_cmp (pc_dnotin (hu_of hr) (pe_callB call_lenK rfl T.b_len PySem.boot_len (pa_cons (pe_fld (pv 0) rfl) pa_nil)) (pe_fld (pv 0) rfl)))))) (pss_one (ps_ret pe_non)) pss_nil)
      (pss_cons (ps_expr (pe_bm PySem.F.plainAttrs_list PySem.F.slot_list_append PySem.F.type_list_append mt_append (pe_fld (pv 0) rfl) (pa_cons (pe_defX (cal_told_number T N) passE (hr.mono (by omega)) (pa_cons (pe_dget (hu_of hr) (pe_fld (pv 0) rfl) (pe_callB call_lenK rfl T.b_len PySem.boot_len (pa_cons (pe_fld (pv 0) rfl) pa_nil)) (fun _ _ => rfl)) (pa_cons (pe_fld (pv 0) rfl) pa_nil))) pa_nil)))
      (pss_one (ps_ret (pe_ix ix_listK (pe_fld (pv 0) rfl) (pe_un un_neg pe_int) (fun _ _ => rfl)))))), ?_⟩)
  case len => intro vs H Q E h; obtain ⟨_, _, _, _, rfl, _⟩ := h; rfl
  obtain ⟨μ, f, d, ns, rfl, hm, hd, hn, hl, q0, q1⟩ := h
  walk_at "lyM"
  by_cases c : ns.length = f.1.length
  · refine x_ifdT c ?_
    walk_at "lyM"
    refine q0 ?_
    unfold planAt
    rw [if_neg (by rw [List.getElem?_eq_none (show f.1.length ≤ ns.length by omega)]; simp)]
  · refine x_ifdF c ?_
    walk_at "lyM"
    refine x_lenA hm.told ?_
    rw [List.length_map]
    walk_at "lyM"
    have hi : ns.length < f.1.length := by omega
    obtain ⟨kvs, k1, k2⟩ := planD_get hm.pl hd.1 hi
    refine ⟨μ.pd, _, rfl, DGet.k (k := Sum.inl (ns.length : Int)) k1, _, rfl, ?_⟩
    rcases k2 with ⟨k2, k3⟩ | ⟨p, x, k2, k3, k4⟩
    · rw [k3]
      refine (if_pos rfl).mpr ?_
      walk_at "lyM"
      exact q0 k2
    · rw [k3]
      refine (if_neg (by simp)).mpr ?_
      walk_at "lyM"
      refine ⟨tyL hm.told, ?_⟩
      walk_at "lyM"
      refine x_lenA hm.told ?_
      rw [List.length_map]
      refine ⟨μ.pd, _, rfl, k3 ▸ DGet.k (k := Sum.inl (ns.length : Int)) k1, ?_⟩
      walk_at "lyM"
      obtain ⟨q1, q2⟩ := q1 p k2
      refine ⟨p, ns, _, _, rfl, k4, ints_dp hm.told, plan_ok hd hn k2, fun j H4 ht e4 => ?_, fun ht H4 e4 => q2 ht _ e4⟩
      walk_at "lyM"
      have hm4 := hm.ex e4
      refine x_rapp hm4.told (by rw [List.length_map]; omega) ?_
      have ro : RW [μ.mt] H (upd H4 μ.mt (.lst (ns.map V.int ++ [V.int j]))) := (RW.ofEx e4).trans (RW.lst hm4.told)
      have et : ns.map V.int ++ [V.int j] = (ns ++ [j]).map V.int := by rw [List.map_append]; rfl
      rw [et] at ro ⊢
      have hm5 := hm4.tell (ms := ns ++ [j]) (RW.lst hm4.told) upd_same
      walk_at "lyM"
      refine x_ixL (ds := (ns ++ [j]).map PyData.int) (ints_dp upd_same) (by rw [List.map_append]; exact atI_last _ _) ?_
      walk_at "lyV"
      exact q1 j ht _ ro upd_same
end
end K85

/-! ### text M4 -/
namespace K85
open PySem PySem.Spec PyProof.Rows L2 Lay RZ



/-- InvalidNumbers -/
def sp_inum (IN : Addr) : Sp := fun vs H Q _ => ∃ (a : Addr) (u : V), vs = [.ref a, u] ∧ H a = some (exo a IN none) ∧ ∀ dx, H dx = none → dx ≠ a → Q .non (upd (upd H dx (exd dx [("value", u)])) a (exo a IN (some dx)))
structure InvOk (P : Program) (w : World) (K : PySem.W.Frag) (mg : Str → Option Value) (base : Heap) (IN : Addr) (fI : Addr) (fd : FuncData) : Prop where
  o : OexC K IN
  m : mg "InvalidNumbers" = some (.ref IN)
  i : PySem.W.findIn K (.ref IN) "__init__" = some (some (.ref fI))
  t : PySem.W.typeIn K (.ref fI) = some (.type "function")
  F : FnOk P w K mg base CX0 1 fI fd ["self", "value"] (sp_inum IN)
  b : Binds K fd ["self", "value"] []
theorem x_mkO {IN : Addr} {ta : TA} {σ : L2.St} {H : Hp} {Q : XK} {u : V} (h : ta σ H fun vs H1 => vs = [u] ∧ H1 = H) (mono : ∀ (Q Q' : List V → Hp → Prop), (∀ vs H, Q vs H → Q' vs H) → ta σ H Q → ta σ H Q')
    (q : ∀ dd H', Ex H H' → H' dd = some (.xd [("value", u)]) → Q (.ref IN) (some dd) H') : tMkO IN (sp_inum IN) [] ta σ H Q := by
  refine mono _ _ (fun vs H1 z => ?_) h
  obtain ⟨rfl, rfl⟩ := z
  refine ⟨by show 1 ≤ 1000; decide, fun a na => ⟨a, u, rfl, upd_same, fun dx nd nx => ⟨rfl, dx, [("value", u)], upd_same, ?_, ?_, ?_⟩⟩⟩
  · rw [upd_ne nx, upd_same]
  · rw [upd_ne nx] at nd
    exact nd
  · rw [upd_ne nx] at nd
    have k : ∀ b o, H1 b = some o → upd (del (upd (upd (upd H1 a (exo a IN none)) dx (exd dx [("value", u)])) a (exo a IN (some dx))) a) dx (.xd [("value", u)]) b = some o := fun b o e => by
      have n1 : b ≠ dx := ne_of_none e nd
      have n2 : b ≠ a := ne_of_none e na
      rw [upd_ne n1, del_ne n2, upd_ne n2, upd_ne n1, upd_ne n2]
      exact e
    exact q dx _ ⟨fun b o _ e => k b o e, fun b xs e => k b _ e, fun b o u e => k b _ e, fun _ h => absurd h (by simp)⟩ upd_same
section
variable {P : Program} {w : World} {K : PySem.W.Frag} {mg : Str → Option Value} {base : Heap} {C : Addr}
theorem cal_m_init (T : Top K w mg) (M : MtOk K mg C) : CalM P w K mg base CX0 (Mk K C) ["self", "prenex", "defence"] 9 (sp_minit C K) := by
  refine calM_of M.f_init sc_Match___init__ ?len (fun _ _ _ _ _ _ us hl => match us, hl with | [_, _, _], _ => rfl) (fun f cdv A outer s H vs Q E hr h => ⟨_, (pss_cons (ps_expr (pe_def (cal_want_played T) (hr.mono (by omega)) (pa_cons (pv 1) (pa_cons (pv 2) pa_nil))))
      (pss_cons (ps_fld (pv 0) (pv 1) rfl)
      (pss_cons (ps_fld (pv 0) (pv 2) rfl)
      (pss_cons (ps_fld (pv 0) (pe_def (cal_plans_by_variable T) (hr.mono (by omega)) (pa_cons (pv 1) (pa_cons (pv 2) pa_nil))) rfl)
      (pss_one (ps_fld (pv 0) (pe_lst pa_nil) rfl)))))), ?_⟩)
  case len => intro vs H Q E h; obtain ⟨_, _, _, _, _, _, rfl, _⟩ := h; rfl
  obtain ⟨f, d, m, dx, v, u, rfl, hm, hv, hu, hd, hn, q⟩ := h
  walk_at "lyM"
  refine ⟨_, _, f, d, rfl, hv, hu, hd, hn, fun H1 e1 => ?_⟩
  have hm1 := e1.keep m _ (by simp) hm
  walk_at "lyM"
  refine ⟨m, C, dx, [], rfl, hm1, M.cl, M.nP, by decide, ?_⟩
  walk_at "lyM"
  refine ⟨m, C, dx, _, rfl, upd_same, M.cl, M.nD, by show 1 < 1000; decide, ?_⟩
  rw [upd_upd]
  walk_at "lyM"
  have r2 : RW [m] H1 (upd H1 m (.ins C dx (putF "defence" u (putF "prenex" v [])))) := RW.ins hm1
  have hv2 := r2.dp (R.xp e1 _ _ hv) (im_X f)
  have hu2 := r2.dp (R.xp e1 _ _ hu) (im_D d)
  refine ⟨_, _, f, d, rfl, hv2, hu2, hd, hn, fun pd H3 np e3 hp => ?_⟩
  have hm3 := e3.keep m _ (by simp) upd_same
  walk_at "lyM"
  refine ⟨m, C, dx, _, rfl, hm3, M.cl, M.nL, by show 2 < 1000; decide, ?_⟩
  walk_at "lyM"
  rename_i l H4 e4 nl tl cl
  have hm4 := e4.keep m _ (by simp) upd_same
  refine ⟨m, C, dx, _, rfl, hm4, M.cl, M.nT, by show 3 < 1000; decide, ?_⟩
  have ef : putF "told" (V.ref l) (putF "plans" (V.ref pd) (putF "defence" u (putF "prenex" v []))) = mfs v u pd l := by
    have h1 : putF "prenex" v [] = [(("prenex" : Str), v)] := rfl
    rw [h1, put_ne st_pd]
    have h2 : putF "defence" u [] = [(("defence" : Str), u)] := rfl
    rw [h2, put_ne st_lp, put_ne st_ld]
    have h3 : putF "plans" (V.ref pd) [] = [(("plans" : Str), V.ref pd)] := rfl
    rw [h3, put_ne st_tp, put_ne st_td, put_ne st_tl]
    rfl
  rw [ef]
  have r3 : RW [m] H H3 := (RW.ofEx e1).trans (r2.trans (RW.ofEx e3))
  have r4 : RW [m] H H4 := r3.trans ((RW.ins hm3).trans (RW.ofEx e4))
  have r5 : RW [m] H (upd H4 m (.ins C dx (mfs v u pd l))) := r4.trans (RW.ins hm4)
  have nml : l ≠ m := fun z => by rw [z, upd_same] at nl; cases nl
  have npm : pd ≠ m := fun z => by rw [z, upd_same] at np; cases np
  have nl3 : H3 l = none := by rw [upd_ne nml] at nl; exact nl
  have np2 : H1 pd = none := by rw [upd_ne npm] at np; exact np
  obtain ⟨ws, w1, w2⟩ := hp
  have r35 : RW [m] H3 (upd H4 m (.ins C dx (mfs v u pd l))) := (RW.ins hm3).trans ((RW.ofEx e4).trans (RW.ins hm4))
  refine q ⟨m, dx, l, pd, v, u⟩ _ rfl (r3.free nl3 (by simpa using nml)) (R.exfree e1 np2) r5 ⟨upd_same, r5.dp hv (im_X f), r5.dp hu (im_D d), ⟨ws, r35.dps w1 (ims_Ps _), r35.keep pd _ (by simpa using npm) w2⟩, ?_⟩
  show upd H4 m _ l = _
  rw [upd_ne nml]
  exact tl
theorem goon_exit (T : Top K w mg) (M : MtOk K mg C) {μ : MtA} {f : Pre} {d : Df} {ns g : List Int} {H' : Hp} {l : Addr} {o : Option V} {D : Ends} (hm : MtAt K C H' μ f d ns) (hl : H' l = some (.lst (g.map V.int))) 
    (q : ∀ H2, RW [μ.m] H' H2 → H2 μ.m = some (.ins C μ.dx (mfs μ.vf μ.vd μ.pd l)) → H2 l = some (.lst (g.map V.int)) → D.rt (.int ((g.length : Int) - ns.length)) H2) :
    tSeq (tAsg (tTup (tCons (tOp (rI0 fun i j => V.int (i - j)) (tCB (rLenK K) (tCons (tVar 1) tNil)) (tCB (rLenK K) (tCons (tFld K (tVar 0) "told") tNil))) (tCons (tVar 1) tNil))) (gTup K 2 (gCons (gName 2) (gCons (gFld K (tVar 0) "told") gNil)))) (tRet (tVar 2)) D [some (.ref μ.m), some (.ref l), o] H' := by
  walk_at "lyM"
  refine x_lenA hl ?_
  rw [List.length_map]
  walk_at "lyM"
  refine x_lenA hm.told ?_
  rw [List.length_map]
  walk_at "lyM"
  refine ⟨by show 2 ≤ sizeLine; decide, fun p np => ⟨p, _, rfl, SqT.of upd_same, rfl, ?_⟩⟩
  walk_at "lyM"
  have e1 : Ex H' (upd H' p (.tup [V.int ((g.length : Int) - ns.length), V.ref l])) := R.new np
  have hm1 := hm.ex e1
  have hl1 := e1.keep l _ (by simp) hl
  refine ⟨_, rfl, μ.m, C, μ.dx, _, rfl, hm1.ins, M.cl, M.nT, by show 4 < 1000; decide, ?_⟩
  rw [put_t]
  walk_at "lyM"
  have nlm : l ≠ μ.m := ne_of hl1 hm1.ins fun z => by cases z
  exact q _ ((RW.ofEx e1).trans (RW.ins hm1.ins)) upd_same (by rw [upd_ne nlm]; exact hl1)
theorem cal_m_go_on (T : Top K w mg) (M : MtOk K mg C) {ND : Addr} (N : ExcOk K mg "NotDefended" ND) : CalM P w K mg base (L2.CX P w) (Meth K C "go_on") ["self"] 9 (sp_mgoon C ND K) := by
  refine calMX_of M.f_go_on sc_Match_go_on ?len (fun _ _ _ _ _ _ us hl => match us, hl with | [_], _ => rfl) (fun f cdv A outer s H vs Q E hr h => ⟨_, (pss_cons (ps_set (i := 1) sc_Match_go_on.nd rfl (by first | exact Or.inl rfl | exact Or.inr rfl) (pe_callTy call_listK rfl T.b_list (by decide +kernel) (pa_cons (pe_fld (pv 0) rfl) pa_nil)))
      (pss_cons (ps_while (passes_of rfl) (PW.pt (pw_and (pt_cmpR op_lt (pe_callB call_lenK rfl T.b_len PySem.boot_len (pa_cons (pv 1) pa_nil)) (pe_callB call_lenK rfl T.b_len PySem.boot_len (pa_cons (pe_ix ix_tupK (pe_fld (pv 0) rfl) pe_int (fun _ _ => rfl)) pa_nil)) (nomark _)) (pw_and1 (pt_cmp (pc_din (hu_of hr) (pe_callB call_lenK rfl T.b_len PySem.boot_len (pa_cons (pv 1) pa_nil)) (pe_fld (pv 0) rfl)))))) (pss_one (ps_expr (pe_bm PySem.F.plainAttrs_list PySem.F.slot_list_append PySem.F.type_list_append mt_append (pv 1) (pa_cons (pe_defX (cal_told_number T N) passE (hr.mono (by omega)) (pa_cons (pe_dget (hu_of hr) (pe_fld (pv 0) rfl) (pe_callB call_lenK rfl T.b_len PySem.boot_len (pa_cons (pv 1) pa_nil)) (fun _ _ => rfl)) (pa_cons (pv 1) pa_nil))) pa_nil)))))
      (pss_cons (ps_asg (pe_tup (pa_cons (pe_op op_sub (pe_callB call_lenK rfl T.b_len PySem.boot_len (pa_cons (pv 1) pa_nil)) (pe_callB call_lenK rfl T.b_len PySem.boot_len (pa_cons (pe_fld (pv 0) rfl) pa_nil))) (pa_cons (pv 1) pa_nil))) (pg_tup rfl (pgs_cons (pg_name (i := 2) sc_Match_go_on.nd rfl (Or.inl rfl)) (pgs_cons (pg_fld (pv 0)) pgs_nil))))
      (pss_one (ps_ret (pv 2)))))), ?_⟩)
  case len => intro vs H Q E h; obtain ⟨_, _, _, _, rfl, _⟩ := h; rfl
  obtain ⟨μ, f, d, ns, rfl, hm, hd, hn, hl, q0, q1⟩ := h
  walk_at "lyM"
  refine x_listD (.inr (ints_dp hm.told)) ?_
  intro l xs H1 e1 nl tl hxs
  obtain rfl := dps_ints hxs
  walk_at "lyM"
  refine x_whE ⟨fun k σ' H' => ∃ g, σ' = [some (.ref μ.m), some (.ref l), none] ∧ R [] H H' ∧ H' l = some (.lst (g.map V.int)) ∧ k = f.1.length - g.length ∧ ns.length ≤ g.length ∧ g.length ≤ f.1.length ∧ goOn (planAt f.1 d.1 d.2) (f.1.length - g.length) g = goOn (planAt f.1 d.1 d.2) (f.1.length - ns.length) ns,
    ⟨_, ns, rfl, e1, tl, rfl, Nat.le_refl _, hl, rfl⟩, ?_⟩
  intro k σ' H' ⟨g, hs, r0, hg, hk, hg1, hg2, hp⟩
  subst hs
  have r0' : Ex H H' := r0
  have hm1 := hm.ex r0
  have fin : ∀ (H2 : Hp), goOn (planAt f.1 d.1 d.2) (f.1.length - ns.length) ns = some g → RW [μ.m] H' H2 → H2 μ.m = some (.ins C μ.dx (mfs μ.vf μ.vd μ.pd l)) → H2 l = some (.lst (g.map V.int)) → Q (.int ((g.length : Int) - ns.length)) H2 := fun H2 hh r2 h1 h2 => q0 g hh H2 l nl ((RW.ofEx r0).trans r2) h1 h2
  walk_at "lyM"
  refine x_lenA hg ?_
  rw [List.length_map]
  walk_at "lyM"
  have elen : ((f.1.map fun b => PyData.str (kS b)).length : Int) = (f.1.length : Int) := by rw [List.length_map]
  rw [elen]
  by_cases c : g.length < f.1.length
  · refine x_ifdT (by omega) ?_
    walk_at "lyM"
    refine x_lenA hg ?_
    rw [List.length_map]
    walk_at "lyM"
    obtain ⟨kvs, k1, k2⟩ := planD_get hm1.pl hd.1 c
    refine ⟨μ.pd, _, rfl, DGet.k (k := Sum.inl (g.length : Int)) k1, _, rfl, ?_⟩
    have em : f.1.length - g.length = (f.1.length - (g.length + 1)) + 1 := by omega
    rw [em, goOn_succ] at hp
    rcases k2 with ⟨k2, k3⟩ | ⟨p, x, k2, k3, k4⟩
    · rw [k3]
      rw [k2] at hp
      refine (if_neg (by simp)).mpr ?_
      exact goon_exit T M hm1 hg fun H2 r2 h1 h2 => fin H2 hp.symm r2 h1 h2
    · rw [k3]
      rw [k2] at hp
      dsimp only at hp
      refine (if_pos rfl).mpr ?_
      refine ⟨fun σ' H' => ∃ g', g'.length = g.length + 1 ∧ σ' = [some (.ref μ.m), some (.ref l), none] ∧ R [] H H' ∧ H' l = some (.lst (g'.map V.int)) ∧ goOn (planAt f.1 d.1 d.2) (f.1.length - g'.length) g' = goOn (planAt f.1 d.1 d.2) (f.1.length - ns.length) ns,
        fun σ2 H2 ⟨g', h1, h2, h3, h4, h5⟩ => ⟨f.1.length - g'.length, by omega, g', h2, h3, h4, rfl, by omega, by omega, h5⟩, ?_⟩
      walk_at "lyM"
      refine ⟨tyL hg, ?_⟩
      walk_at "lyM"
      refine x_lenA hg ?_
      rw [List.length_map]
      refine ⟨μ.pd, _, rfl, k3 ▸ DGet.k (k := Sum.inl (g.length : Int)) k1, ?_⟩
      walk_at "lyM"
      refine ⟨p, g, _, _, rfl, k4, ints_dp hg, plan_ok hd hn k2, fun j H4 ht e4 => ?_, fun ht H4 e4 => ?_⟩
      · rw [ht] at hp
        dsimp only at hp
        walk_at "lyM"
        have hg4 := e4.keep l _ (by simp) hg
        refine x_rapp hg4 (by rw [List.length_map]; omega) ?_
        refine ⟨g ++ [j], by simp, rfl, R.mut (r0.trans e4) nl, by rw [upd_same, List.map_append]; rfl, ?_⟩
        rw [show (g ++ [j]).length = g.length + 1 by simp]
        exact hp
      · rw [ht] at hp
        exact q1 hp.symm _ (r0.trans e4)
  · refine x_ifdF (by omega) ?_
    refine (if_neg (by simp)).mpr ?_
    have e0 : f.1.length - g.length = 0 := by omega
    rw [e0, goOn_zero] at hp
    exact goon_exit T M hm1 hg fun H2 r2 h1 h2 => fin H2 hp.symm r2 h1 h2
theorem cal_m_say (T : Top K w mg) (M : MtOk K mg C) {INa fI : Addr} {fdI : FuncData} (IN : InvOk P w K mg base INa fI fdI) : CalM P w K mg base (L2.CX P w) (Meth K C "say") ["self", "number"] 4 (sp_msay C INa K) := by
  refine calMX_of M.f_say sc_Match_say ?len (fun _ _ _ _ _ _ us hl => match us, hl with | [_, _], _ => rfl) (fun f cdv A outer s H vs Q E hr h => ⟨_, (pss_cons (ps_if (PW.pt (pw_or (pt_val (pe_mth0 (cal_m_over T M) M.cl pass0 (hr.mono (by omega)) (pv 0))) (pw_or (pt_cmp (pc_din (hu_of hr) (pe_callB call_lenK rfl T.b_len PySem.boot_len (pa_cons (pe_fld (pv 0) rfl) pa_nil)) (pe_fld (pv 0) rfl))) (pw_or1 (pt_not (pt_val (pe_def (cal_are_numbers T) (hr.mono (by omega)) (pa_cons (pe_tup (pa_cons (pv 1) pa_nil)) (pa_cons pe_int pa_nil))))))))) (pss_one (ps_raise rfl takesE (pmk_oex IN.o IN.i IN.t IN.F (hr.mono (by omega)) IN.b .nil pass0 rfl IN.m (pa_cons (pv 1) pa_nil)))) pss_nil)
      (pss_cons (ps_expr (pe_bm PySem.F.plainAttrs_list PySem.F.slot_list_append PySem.F.type_list_append mt_append (pe_fld (pv 0) rfl) (pa_cons (pv 1) pa_nil)))
      (pss_one (ps_ret (pe_callB call_lenK rfl T.b_len PySem.boot_len (pa_cons (pe_fld (pv 0) rfl) pa_nil)))))), ?_⟩)
  case len => intro vs H Q E h; obtain ⟨_, _, _, _, _, _, rfl, _⟩ := h; rfl
  obtain ⟨μ, f, d, ns, u, n, rfl, hm, hu, hd, hn, hl, q0, q1⟩ := h
  have bad : ∀ H1, Ex H H1 → letN f d ns n = none → tMkO INa (sp_inum INa) [] (tCons (tVar 1) tNil) [some (.ref μ.m), some u] H1 (fun cls d H' => E cls d H') := fun H1 e1 hl => by
    refine x_mkO (u := u) (by walk_at "lyM"; exact ⟨rfl, rfl⟩) (fun Q Q' h z => ?_) fun dd H' e2 hx => q1 hl _ _ (e1.trans e2) hx
    obtain ⟨v, hv, z⟩ := z
    exact ⟨v, hv, h _ _ z⟩
  walk_at "lyM"
  by_cases c : ns.length = f.1.length
  · refine x_ifdT c ?_
    refine (if_pos rfl).mpr ?_
    exact bad _ (R.refl _) (by unfold letN; rw [if_neg (by omega)])
  · refine x_ifdF c ?_
    walk_at "lyM"
    refine x_lenA hm.told ?_
    rw [List.length_map]
    walk_at "lyM"
    have hi : ns.length < f.1.length := by omega
    obtain ⟨kvs, k1, k2⟩ := planD_get hm.pl hd.1 hi
    refine ⟨μ.pd, _, rfl, DGet.k (k := Sum.inl (ns.length : Int)) k1, _, rfl, ?_⟩
    rcases k2 with ⟨k2, k3⟩ | ⟨p, x, k2, k3, k4⟩
    · rw [k3]
      refine (if_neg (by simp)).mpr ?_
      walk_at "lyM"
      rename_i tp H1 e1 ht1
      refine ⟨_, [n], 1, rfl, .inl ht1, by show 1 ≤ 1000; decide, fun H2 e2 => ⟨_, rfl, ?_⟩⟩
      have e12 : Ex H H2 := e1.trans e2
      have hm2 := hm.ex e12
      have eb : (decide ((([n] : List PyData).length : Int) = 1) && [n].all okN) = okN n := by simp
      rw [eb]
      cases ho : okN n with
      | true =>
        obtain ⟨i, rfl⟩ : ∃ i, n = .int i := by
          cases n with
          | int i => exact ⟨i, rfl⟩
          | _ => cases ho
        obtain rfl := Dp.int_inv hu
        have el : letN f d ns (.int i) = some i := by
          unfold letN
          rw [if_pos ⟨hi, k2⟩]
          dsimp only
          rw [if_pos ho]
        refine (if_neg (by simp)).mpr ?_
        walk_at "lyM"
        refine ⟨tyL hm2.told, ?_⟩
        walk_at "lyM"
        refine x_rapp hm2.told (by rw [List.length_map]; omega) ?_
        have et : ns.map V.int ++ [V.int i] = (ns ++ [i]).map V.int := by rw [List.map_append]; rfl
        rw [et]
        have hm3 := hm2.tell (ms := ns ++ [i]) (RW.lst hm2.told) upd_same
        walk_at "lyM"
        refine x_lenA upd_same ?_
        have e2 : (((ns ++ [i]).map V.int).length : Int) = (ns.length : Int) + 1 := by simp
        rw [e2]
        exact q0 i el _ ((RW.ofEx e12).trans (RW.lst hm2.told)) upd_same
      | false =>
        have el : letN f d ns n = none := by
          unfold letN
          rw [if_pos ⟨hi, k2⟩]
          cases n with
          | int i => dsimp only; rw [if_neg (by rw [ho]; simp)]
          | _ => rfl
        refine (if_pos rfl).mpr ?_
        exact bad _ e12 el
    · rw [k3]
      refine (if_pos rfl).mpr ?_
      refine (if_pos rfl).mpr ?_
      exact bad _ (R.refl _) (by unfold letN; rw [if_neg (by rw [k2]; simp)])
end
end K85

/-! ### text L1 -/
namespace K85
open PySem PySem.Spec PyProof.Rows L2 Lay RZ



section
variable {P : Program} {w : World} {K : PySem.W.Frag} {mg : Str → Option Value} {base : Heap}
def isLi : PyData → Bool
  | .list _ => true
  | _ => false
theorem x_isiLi {H : Hp} {v : V} {Q : VK} {d : PyData} (h : Dp K H v d) (q : Q (.bl (isLi d)) H) : rIsi K [v, .ty "list"] H Q := by
  refine ⟨v, .ty "list", _, _, isLi d, rfl, .ty _, tyx h, kit_ty ?_, q⟩
  cases d <;> (first | exact (by decide +kernel : kitB "NoneType" "list" = some false) | exact (by decide +kernel : kitB "bool" "list" = some false) | exact (by decide +kernel : kitB "int" "list" = some false) | exact (by decide +kernel : kitB "str" "list" = some false) | exact (by decide +kernel : kitB "list" "list" = some true) | exact (by decide +kernel : kitB "tuple" "list" = some false) | exact (by decide +kernel : kitB "dict" "list" = some false))
theorem rw2 {H : Hp} {p a b : Addr} {xs : List V} {u : HO} (h : p = a ∨ p = b) (e : H p = some (.lst xs)) : RW [a, b] H (upd H p u) :=
  have r := RW.lst (u := u) e
  ⟨fun c o n q => r.keep c o (fun z => n (by rcases h with h | h <;> (subst h; simp at z; simp [z]))) q, r.tups, r.frzs⟩
def playO : Option (List Int) → PyData
  | some g => .tuple (g.map PyData.int)
  | none => .none
def sp_lplay (K : PySem.W.Frag) : Sp := fun vs H Q _ => ∃ (f : Pre) (d : Df) (ns : List Int) (v u z : V), vs = [v, u, z] ∧ Dp K H v (eX f) ∧ Dp K H u (eD d) ∧ Dp K H z (eI ns) ∧ DfD f d ∧ f.1.length ≤ 3 ∧ fits f.1 d.1 0 ns ∧ ∀ x H', Ex H H' → Dp K H' x (playO (playD f d ns)) → Q x H'
theorem cal__law_play (T : Top K w mg) : Cal P w K mg base "_law_play" ["form", "defence", "answers"] 5 (sp_lplay K) := by
  refine cal_of T.f__law_play sc__law_play ?len (fun _ _ _ _ _ _ us hl => match us, hl with | [_, _, _], _ => rfl) (fun f cdv A outer s H vs Q E hr h => ⟨_, (pss_cons (ps_par3 (i := 4) (j := 5) (l := 6) rfl sc__law_play.nd rfl rfl rfl  (by decide) (by decide) (by decide) rfl rfl rfl  (pa_cons (pe_callTy (call_dictP rfl) rfl T.b_dict (by decide +kernel) (pa_cons (pe_listZip rfl (pa_cons (pe_def (cal__law_own T) (hr.mono (by omega)) (pa_cons (pv 0) (pa_cons (pe_ix ix_tupK (pv 1) pe_int (fun _ _ => rfl)) pa_nil))) (pa_cons (pe_ix ix_tupK (pv 1) pe_int (fun _ _ => rfl)) pa_nil)) rfl T.b_list rfl T.b_zip) pa_nil)) (pa_cons (pe_lst pa_nil) (pa_cons (pe_callTy call_listK rfl T.b_list (by decide +kernel) (pa_cons (pv 2) pa_nil)) pa_nil))) rfl)
      (pss_cons (ps_for PassesOwn.never rfl (pi_range1 rfl T.b_range (pa_cons (pe_callB call_lenK rfl T.b_len PySem.boot_len (pa_cons (pe_ix ix_tupK (pv 0) pe_int (fun _ _ => rfl)) pa_nil)) pa_nil)) (pg_name (i := 3) sc__law_play.nd rfl (by first | exact Or.inl rfl | exact Or.inr rfl)) (pss_cons (ps_set (i := 7) sc__law_play.nd rfl (by first | exact Or.inl rfl | exact Or.inr rfl) (pe_ifExp (pt_cmp (pc_din (hu_of hr) (pv 3) (pv 4))) (pe_def (cal__law_told T) (hr.mono (by omega)) (pa_cons (pe_dget (hu_of hr) (pv 4) (pv 3) (fun _ _ => rfl)) (pa_cons (pv 5) pa_nil))) (pe_bm PySem.F.plainAttrs_list PySem.F.slot_list_pop PySem.F.type_list_pop mt_popAt (pv 6) (pa_cons pe_int pa_nil))))
      (pss_cons (ps_if (pt_cmpR op_isN (pv 7) pe_non (nomark _)) (pss_one (ps_ret pe_non)) pss_nil)
      (pss_one (ps_expr (pe_bm PySem.F.plainAttrs_list PySem.F.slot_list_append PySem.F.type_list_append mt_append (pv 5) (pa_cons (pv 7) pa_nil)))))))
      (pss_one (ps_ret (pe_callTy call_tupleK rfl T.b_tuple (by decide +kernel) (pa_cons (pv 5) pa_nil)))))), ?_⟩)
  case len => intro vs H Q E h; obtain ⟨_, _, _, _, _, _, rfl, _⟩ := h; rfl
  obtain ⟨f, ⟨b, ps⟩, ns, v, u, z, rfl, hv, hu, hz, hd, hn, hf, q⟩ := h
  have hlen : ps.length = (ownF 0 b f.1).length := hd.1
  have hol := ownF_len b f.1 0
  have hu' : Dp K H u (.tuple [.str "defence", .str (sS b), .tuple (ps.map eP)]) := hu
  clear hu
  walk_at "lyM"
  refine x_par3E ?_
  walk_at "lyM"
  refine x_lz ?_
  walk_at "lyM"
  refine ⟨f, b, _, _, rfl, hv, rfl, by omega, fun a acc H1 e1 n1 n2 n3 => ?_⟩
  walk_at "lyM"
  rename_i u2 hu2
  obtain rfl := dps_ints n3
  obtain ⟨b2, ys, rfl, q2, d2⟩ := Dp.tup_inv hu2
  refine ⟨a, b2, _, ys, rfl, SqL.of n2, q2, by rw [List.length_map]; omega, fun H3 l ts ke hl hlt hp => ?_⟩
  have e3 : Ex H1 H3 := ex_all ke
  walk_at "lyM"
  refine ⟨l, ts, _, rfl, SqL.of hlt, pair_kv _ hp, fun pd npd => ?_⟩
  have e4 : Ex H3 (upd H3 pd (.dK (mergeK [] ((((ownF 0 b f.1)).zip ys).map fun q => (Sum.inl q.1, q.2))))) := R.new npd
  have hpd : PlanD K (upd H3 pd (.dK (mergeK [] ((((ownF 0 b f.1)).zip ys).map fun q => (Sum.inl q.1, q.2))))) pd (ownF 0 b f.1) ps := ⟨ys, R.xps (e3.trans e4) _ _ d2, upd_same⟩
  have e14 : Ex H _ := e1.trans (e3.trans e4)
  revert hpd e14
  generalize upd H3 pd (.dK (mergeK [] ((((ownF 0 b f.1)).zip ys).map fun q => (Sum.inl q.1, q.2)))) = H4
  intro hpd e14
  walk_at "lyM"
  rename_i lf H5 e5 nf tf cf
  have hz5 : Dp K H5 z (eI ns) := R.xp (e14.trans e5) _ _ hz
  refine x_listD (.inr hz5) ?_
  intro ll xs H6 e6 nl tl hxs
  obtain rfl := dps_ints hxs
  refine ⟨_, _, _, rfl, ?_⟩
  walk_at "lyM"
  refine ⟨_, rfl, by rw [List.length_map]; omega, by rw [List.length_map]; omega, ?_⟩
  rw [Int.toNat_natCast, List.length_map]
  have n12 : lf ≠ ll := ne_of_none tf nl
  have e16 : Ex H H6 := e14.trans (e5.trans e6)
  have nf0 : H lf = none := R.exfree e14 nf
  have nl0 : H ll = none := R.exfree (e14.trans e5) nl
  have tf6 : H6 lf = some (.lst []) := e6.keep lf _ (by simp) tf
  have hpd6 : PlanD K H6 pd (ownF 0 b f.1) ps := by
    obtain ⟨ws, w1, w2⟩ := hpd
    exact ⟨ws, R.xps (e5.trans e6) _ _ w1, (e5.trans e6).keep pd _ (by simp) w2⟩
  have npf : pd ≠ lf := by
    obtain ⟨ws, w1, w2⟩ := hpd
    exact ne_of_none w2 nf
  have npl : pd ≠ ll := by
    obtain ⟨ws, w1, w2⟩ := hpd
    exact ne_of_none (e5.keep pd _ (by simp) w2) nl
  refine for_range (lo := 0) (n := f.1.length) (fun i σ H' => ∃ g left o o2, σ = [some v, some u, some z, o, some (.ref pd), some (.ref lf), some (.ref ll), o2] ∧ R [] H H' ∧ RW [lf, ll] H6 H' ∧ H' lf = some (.lst (g.map V.int)) ∧ H' ll = some (.lst (left.map V.int)) ∧ g.length = i ∧ i ≤ f.1.length ∧ fits f.1 b i left ∧
    playN (planAt f.1 b ps) (f.1.length - i) g left = playD f (b, ps) ns) ⟨[], ns, none, none, rfl, e16, .ofEx (R.refl _), tf6, tl, rfl, Nat.zero_le _, hf, rfl⟩ ?_ ?_
  · intro i σ' H' hi ⟨g, left, o, o2, hs, r0, r6, hg, hl, hgi, _, hfi, hp⟩
    subst hs
    rw [Int.zero_add]
    have hpd' : PlanD K H' pd (ownF 0 b f.1) ps := by
      obtain ⟨ws, w1, w2⟩ := hpd6
      exact ⟨ws, r6.dps w1 (ims_Ps _), r6.keep pd _ (by simpa using ⟨npf, npl⟩) w2⟩
    obtain ⟨kvs, k1, k2⟩ := planD_get hpd' hlen hi
    walk_at "lyM"
    refine ⟨pd, _, rfl, DGet.k (k := Sum.inl (i : Int)) k1, _, rfl, ?_⟩
    have em : f.1.length - i = (f.1.length - (i + 1)) + 1 := by omega
    rw [em] at hp
    unfold playN at hp
    rcases k2 with ⟨k2, k3⟩ | ⟨p, x, k2, k3, k4⟩
    · rw [k3]
      rw [hgi, k2] at hp
      dsimp only at hp
      have hk := planAt_none hlen k2
      obtain ⟨a, r, rfl, hf2⟩ := fits_other hfi hi hk
      dsimp only at hp
      refine (if_neg (by simp)).mpr ?_
      walk_at "lyM"
      refine ⟨tyL hl, ?_⟩
      walk_at "lyM"
      refine x_pop0 hl ?_
      walk_at "lyM"
      refine ⟨rfl, ?_⟩
      walk_at "lyM"
      have nlf : ll ≠ lf := fun z => n12 z.symm
      have hg2 : upd H' ll (.lst (r.map V.int)) lf = some (.lst (g.map V.int)) := by rw [upd_ne n12]; exact hg
      walk_at "lyM"
      refine ⟨tyL hg2, ?_⟩
      walk_at "lyM"
      refine x_rapp hg2 (by rw [List.length_map]; omega) ?_
      refine ⟨g ++ [a], r, _, _, rfl, R.mut (R.mut r0 nl0) nf0, ?_, ?_, ?_, ?_, hi, hf2, hp⟩
      · exact (r6.trans (rw2 (.inr rfl) hl)).trans (rw2 (.inl rfl) hg2)
      · rw [upd_same, List.map_append]; rfl
      · rw [upd_ne nlf, upd_same]
      · rw [List.length_append, hgi]; rfl
    · rw [k3]
      rw [hgi, k2] at hp
      dsimp only at hp
      refine (if_pos rfl).mpr ?_
      walk_at "lyM"
      refine ⟨pd, _, rfl, k3 ▸ DGet.k (k := Sum.inl (i : Int)) k1, ?_⟩
      walk_at "lyM"
      have hpo : PlOk g.length p := hgi ▸ plan_ok hd hn k2
      refine x_spG (a := (p, g)) (.cons k4 (.cons (ints_dp hg) .nil)) hpo ?_
      intro z4 H7 e7 hz4
      walk_at "lyM"
      refine ⟨rfl, ?_⟩
      dsimp only at hz4
      have hg7 := e7.keep lf _ (by simp) hg
      have hl7 := e7.keep ll _ (by simp) hl
      cases ht : tnum g p with
      | none =>
        rw [ht] at hp hz4
        obtain rfl := Dp.non_inv hz4
        walk_at "lyM"
        exact q _ _ (r0.trans e7) (hp ▸ .non)
      | some j =>
        rw [ht] at hp hz4
        obtain rfl := Dp.int_inv hz4
        walk_at "lyM"
        refine ⟨tyL hg7, ?_⟩
        walk_at "lyM"
        refine x_rapp hg7 (by rw [List.length_map]; omega) ?_
        refine ⟨g ++ [j], left, _, _, rfl, R.mut (r0.trans e7) nf0, ?_, ?_, ?_, ?_, hi, fits_own hfi (planAt_some k2).1, hp⟩
        · exact (r6.trans (.ofEx e7)).trans (rw2 (.inl rfl) hg7)
        · rw [upd_same, List.map_append]; rfl
        · rw [upd_ne (fun z => n12 z.symm)]; exact hl7
        · rw [List.length_append, hgi]; rfl
  · intro σ' H' ⟨g, left, o, o2, hs, r0, r6, hg, hl, hgi, _, hfi, hp⟩
    subst hs
    have := fits_end hfi
    subst this
    rw [Nat.sub_self] at hp
    walk_at "lyM"
    refine x_tupleD (.inr (ints_dp hg)) ?_
    intro x H7 e7 hx
    walk_at "lyM"
    have hp' : playD f (b, ps) ns = some g := hp.symm
    exact q _ _ (r0.trans e7) (hp' ▸ hx)
/-- what a defence tells next -/
def nextD (pl : Nat → Option Pl) (g : List Int) : PyData := match pl g.length with
  | some p => (match tnum g p with
    | some i => .int i
    | none => .list [.str "not defended", .bool true])
  | none => .none
def sp_lnext (K : PySem.W.Frag) : Sp := fun vs H Q _ => ∃ (f : Pre) (d : Df) (g : List Int) (v u : V) (pd : Addr), vs = [v, .ref pd, u] ∧ Dp K H v (eX f) ∧ PlanD K H pd (ownB f d.1) d.2 ∧ Dp K H u (eI g) ∧ DfD f d ∧ f.1.length ≤ 3 ∧ g.length ≤ f.1.length ∧ ∀ x H', Ex H H' → Dp K H' x (nextD (planAt f.1 d.1 d.2) g) → Q x H'
theorem cal__law_next (T : Top K w mg) : Cal P w K mg base "_law_next" ["form", "plans", "gone"] 5 (sp_lnext K) := by
  refine cal_of T.f__law_next sc__law_next ?len (fun _ _ _ _ _ _ us hl => match us, hl with | [_, _, _], _ => rfl) (fun f cdv A outer s H vs Q E hr h => ⟨_, (pss_cons (ps_if (PW.pt (pw_or (pt_cmpR op_eq (pe_callB call_lenK rfl T.b_len PySem.boot_len (pa_cons (pv 2) pa_nil)) (pe_callB call_lenK rfl T.b_len PySem.boot_len (pa_cons (pe_ix ix_tupK (pv 0) pe_int (fun _ _ => rfl)) pa_nil)) (nomark _)) (pw_or1 (pt_cmp (pc_dnotin (hu_of hr) (pe_callB call_lenK rfl T.b_len PySem.boot_len (pa_cons (pv 2) pa_nil)) (pv 1)))))) (pss_one (ps_ret pe_non)) pss_nil)
      (pss_cons (ps_set (i := 3) sc__law_next.nd rfl (by first | exact Or.inl rfl | exact Or.inr rfl) (pe_def (cal__law_told T) (hr.mono (by omega)) (pa_cons (pe_dget (hu_of hr) (pv 1) (pe_callB call_lenK rfl T.b_len PySem.boot_len (pa_cons (pv 2) pa_nil)) (fun _ _ => rfl)) (pa_cons (pv 2) pa_nil))))
      (pss_one (ps_ret (pe_ifExp (pt_cmpR op_isN (pv 3) pe_non (nomark _)) (pe_lst (pa_cons pe_str (pa_cons pe_bl pa_nil))) (pv 3)))))), ?_⟩)
  case len => intro vs H Q E h; obtain ⟨_, _, _, _, _, _, rfl, _⟩ := h; rfl
  obtain ⟨f, d, g, v, u, pd, rfl, hv, hpd, hu, hd, hn, hl, q⟩ := h
  walk_at "lyM"
  have e0 : decide (((g.map PyData.int).length : Int) = ((f.1.map fun b => PyData.str (kS b)).length : Nat)) = decide (g.length = f.1.length) := by
    rw [List.length_map, List.length_map]
    exact decide_eq_decide.mpr ⟨fun z => by omega, fun z => by omega⟩
  rw [e0]
  by_cases c : g.length = f.1.length
  · refine x_ifdT c ?_
    refine (if_pos rfl).mpr ?_
    walk_at "lyM"
    have e1 : nextD (planAt f.1 d.1 d.2) g = .none := by
      unfold nextD planAt
      rw [if_neg (by rw [List.getElem?_eq_none (show f.1.length ≤ g.length by omega)]; simp)]
    exact q _ _ (R.refl _) (e1 ▸ .non)
  · refine x_ifdF c ?_
    walk_at "lyM"
    have hi : g.length < f.1.length := by omega
    obtain ⟨kvs, k1, k2⟩ := planD_get hpd hd.1 hi
    rw [List.length_map]
    refine ⟨pd, _, rfl, DGet.k (k := Sum.inl (g.length : Int)) k1, _, rfl, ?_⟩
    rcases k2 with ⟨k2, k3⟩ | ⟨p, x, k2, k3, k4⟩
    · rw [k3]
      refine (if_pos rfl).mpr ?_
      walk_at "lyM"
      have e1 : nextD (planAt f.1 d.1 d.2) g = .none := by
        unfold nextD
        rw [k2]
      exact q _ _ (R.refl _) (e1 ▸ .non)
    · rw [k3]
      refine (if_neg (by simp)).mpr ?_
      walk_at "lyM"
      rw [List.length_map]
      refine ⟨pd, _, rfl, k3 ▸ DGet.k (k := Sum.inl (g.length : Int)) k1, ?_⟩
      walk_at "lyM"
      refine x_spG (a := (p, g)) (.cons k4 (.cons hu .nil)) (plan_ok hd hn k2) ?_
      intro z4 H7 e7 hz4
      dsimp only at hz4
      cases ht : tnum g p with
      | none =>
        rw [ht] at hz4
        obtain rfl := Dp.non_inv hz4
        walk_at "lyM"
        refine ⟨rfl, ?_⟩
        walk_at "lyM"
        have e1 : nextD (planAt f.1 d.1 d.2) g = .list [.str "not defended", .bool true] := by
          unfold nextD
          rw [k2]
          dsimp only
          rw [ht]
        refine q _ _ (e7.trans (by assumption)) (e1 ▸ ?_)
        walk_at "lyD"
      | some j =>
        rw [ht] at hz4
        obtain rfl := Dp.int_inv hz4
        walk_at "lyM"
        refine ⟨rfl, ?_⟩
        walk_at "lyM"
        have e1 : nextD (planAt f.1 d.1 d.2) g = .int j := by
          unfold nextD
          rw [k2]
          dsimp only
          rw [ht]
        exact q _ _ e7 (e1 ▸ .int _)
theorem goOn_stop {pl : Nat → Option Pl} {g : List Int} (h : pl g.length = none) : ∀ {m : Nat}, goOn pl m g = some g
  | 0 => rfl
  | m + 1 => by rw [goOn_succ, h]
def sp_lgoon (K : PySem.W.Frag) : Sp := fun vs H Q _ => ∃ (f : Pre) (d : Df) (g : List Int) (v : V) (pd ga : Addr), vs = [v, .ref pd, .ref ga] ∧ Dp K H v (eX f) ∧ PlanD K H pd (ownB f d.1) d.2 ∧ H ga = some (.lst (g.map V.int)) ∧ DfD f d ∧ f.1.length ≤ 3 ∧ g.length ≤ f.1.length ∧
  (∀ g', goOn (planAt f.1 d.1 d.2) (f.1.length - g.length) g = some g' → ∀ H', RW [ga] H H' → H' ga = some (.lst (g'.map V.int)) → Q (.int ((g'.length : Int) - g.length)) H') ∧
  (goOn (planAt f.1 d.1 d.2) (f.1.length - g.length) g = none → ∀ x H', RW [ga] H H' → (∃ xs, H' ga = some (.lst xs)) → Dp K H' x (.list [.str "not defended", .bool true]) → Q x H')
theorem cal__law_go_on (T : Top K w mg) : Cal P w K mg base "_law_go_on" ["form", "plans", "gone"] 6 (sp_lgoon K) := by
  refine cal_of T.f__law_go_on sc__law_go_on ?len (fun _ _ _ _ _ _ us hl => match us, hl with | [_, _, _], _ => rfl) (fun f cdv A outer s H vs Q E hr h => ⟨_, (pss_cons (ps_set (i := 3) sc__law_go_on.nd rfl (by first | exact Or.inl rfl | exact Or.inr rfl) pe_int)
      (pss_cons (ps_set (i := 4) sc__law_go_on.nd rfl (by first | exact Or.inl rfl | exact Or.inr rfl) (pe_def (cal__law_next T) (hr.mono (by omega)) (pa_cons (pv 0) (pa_cons (pv 1) (pa_cons (pv 2) pa_nil)))))
      (pss_cons (ps_while PassesOwn.never (PW.pt (pw_and (pt_cmpR op_notN (pv 4) pe_non (nomark _)) (pw_and1 (pt_not (pt_val (pe_callB Lay.call_isiK rfl T.b_isinstance (by decide +kernel) (pa_cons (pv 4) (pa_cons (pe_bltn (v := .ty "list") rfl T.b_list (by decide +kernel) rfl) pa_nil)))))))) (pss_cons (ps_expr (pe_bm PySem.F.plainAttrs_list PySem.F.slot_list_append PySem.F.type_list_append mt_append (pv 2) (pa_cons (pv 4) pa_nil)))
      (pss_one (ps_par (i := 3) (j := 4) rfl sc__law_go_on.nd rfl rfl  (by decide) rfl rfl  (pa_cons (pe_op op_add (pv 3) pe_int) (pa_cons (pe_def (cal__law_next T) (hr.mono (by omega)) (pa_cons (pv 0) (pa_cons (pv 1) (pa_cons (pv 2) pa_nil)))) pa_nil)) rfl))))
      (pss_one (ps_ret (pe_ifExp (pt_cmpR op_isN (pv 4) pe_non (nomark _)) (pv 3) (pv 4))))))), ?_⟩)
  case len => intro vs H Q E h; obtain ⟨_, _, _, _, _, _, rfl, _⟩ := h; rfl
  obtain ⟨f, d, g, v, pd, ga, rfl, hv, hpd, hga, hd, hn, hl, q0, q1⟩ := h
  walk_at "lyM"
  refine ⟨f, d, g, _, _, pd, rfl, hv, hpd, ints_dp hga, hd, hn, hl, fun x H1 e1 hx => ?_⟩
  walk_at "lyM"
  refine x_whE ⟨fun k σ' H' => ∃ h x, σ' = [some v, some (.ref pd), some (.ref ga), some (.int ((h.length : Int) - g.length)), some x] ∧ RW [ga] H H' ∧ H' ga = some (.lst (h.map V.int)) ∧ k = f.1.length - h.length ∧ h.length ≤ f.1.length ∧ Dp K H' x (nextD (planAt f.1 d.1 d.2) h) ∧
    goOn (planAt f.1 d.1 d.2) (f.1.length - h.length) h = goOn (planAt f.1 d.1 d.2) (f.1.length - g.length) g, ⟨_, g, x, by rw [show (g.length : Int) - g.length = 0 by omega]; rfl, .ofEx e1, e1.keep ga _ (by simp) hga, rfl, hl, hx, rfl⟩, ?_⟩
  intro k σ' H' ⟨h, x, hs, r0, hh, hk, hl2, hx, hp⟩
  subst hs
  cases hpl : planAt f.1 d.1 d.2 h.length with
  | none =>
    have en : nextD (planAt f.1 d.1 d.2) h = .none := by
      unfold nextD
      rw [hpl]
    rw [en] at hx
    obtain rfl := Dp.non_inv hx
    rw [goOn_stop hpl] at hp
    walk_at "lyM"
    refine ⟨rfl, ?_⟩
    walk_at "lyM"
    refine ⟨rfl, ?_⟩
    walk_at "lyM"
    exact q0 h hp.symm _ r0 hh
  | some p =>
    have hlt := (planAt_some hpl).2
    have em : f.1.length - h.length = (f.1.length - (h.length + 1)) + 1 := by omega
    rw [em, goOn_succ, hpl] at hp
    dsimp only at hp
    cases ht : tnum h p with
    | none =>
      have en : nextD (planAt f.1 d.1 d.2) h = .list [.str "not defended", .bool true] := by
        unfold nextD
        rw [hpl]
        dsimp only
        rw [ht]
      rw [en] at hx
      rw [ht] at hp
      obtain ⟨a2, xs2, rfl, hq2, hd2⟩ := Dp.lst_inv hx
      walk_at "lyM"
      refine ⟨rfl, ?_⟩
      walk_at "lyM"
      refine x_isiLi hx ?_
      walk_at "lyM"
      walk_at "lyM"
      refine ⟨rfl, ?_⟩
      walk_at "lyM"
      exact q1 hp.symm _ _ r0 ⟨_, hh⟩ hx
    | some j =>
      have en : nextD (planAt f.1 d.1 d.2) h = .int j := by
        unfold nextD
        rw [hpl]
        dsimp only
        rw [ht]
      rw [en] at hx
      rw [ht] at hp
      obtain rfl := Dp.int_inv hx
      walk_at "lyM"
      refine ⟨rfl, ?_⟩
      walk_at "lyM"
      refine x_isiLi hx ?_
      walk_at "lyM"
      refine ⟨fun σ' H' => ∃ h' x, h'.length = h.length + 1 ∧ σ' = [some v, some (.ref pd), some (.ref ga), some (.int ((h'.length : Int) - g.length)), some x] ∧ RW [ga] H H' ∧ H' ga = some (.lst (h'.map V.int)) ∧ Dp K H' x (nextD (planAt f.1 d.1 d.2) h') ∧
        goOn (planAt f.1 d.1 d.2) (f.1.length - h'.length) h' = goOn (planAt f.1 d.1 d.2) (f.1.length - g.length) g,
        fun σ2 H2 ⟨h', x, h1, h2, h3, h4, h5, h6⟩ => ⟨f.1.length - h'.length, by omega, h', x, h2, h3, h4, rfl, by omega, h5, h6⟩, ?_⟩
      walk_at "lyM"
      refine ⟨tyL hh, ?_⟩
      walk_at "lyM"
      refine x_rapp hh (by rw [List.length_map]; omega) ?_
      have et : h.map V.int ++ [V.int j] = (h ++ [j]).map V.int := by rw [List.map_append]; rfl
      rw [et]
      have r1 : RW [ga] H (upd H' ga (.lst ((h ++ [j]).map V.int))) := r0.trans (RW.lst hh)
      have hpd1 : PlanD K (upd H' ga (.lst ((h ++ [j]).map V.int))) pd (ownB f d.1) d.2 := by
        obtain ⟨ws, w1, w2⟩ := hpd
        have npg : pd ≠ ga := ne_of w2 hga fun z => by cases z
        exact ⟨ws, r1.dps w1 (ims_Ps _), r1.keep pd _ (by simpa using npg) w2⟩
      walk_at "lyM"
      refine ⟨f, d, h ++ [j], _, _, pd, rfl, r1.dp hv (im_X f), hpd1, ints_dp upd_same, hd, hn, by rw [List.length_append]; exact hlt, fun x H2 e2 hx2 => ?_⟩
      walk_at "lyM"
      refine ⟨h ++ [j], x, by simp, ?_, r1.trans (.ofEx e2), e2.keep ga _ (by simp) upd_same, hx2, ?_⟩
      · have : (h.length : Int) - g.length + 1 = ((h ++ [j]).length : Int) - g.length := by
          rw [List.length_append]
          show _ = ((h.length + 1 : Nat) : Int) - _
          omega
        rw [this]
        rfl
      · rw [show (h ++ [j]).length = h.length + 1 by simp]
        exact hp
end
end K85

/-! ### text LB -/
namespace K85
open PySem PySem.Spec PyProof.Rows L2 Lay RZ



def rRepr (K : PySem.W.Frag) : List V → Hp → VK → Prop := fun xs H Q => ∃ v d, xs = [v] ∧ Dp K H v d ∧ d.showable = true ∧ d.shown.length ≤ sizeLine ∧ d.depth ≤ 8 ∧ Q (.str d.shown) H
theorem call_reprS {X : Cx} {K : PySem.W.Frag} (hg : X.A.guards = some []) (hu : X.A.units + 16 < cLine) (h : X.K = K := by rfl) : CallR X (.builtin "repr") (rRepr K) := by
  subst h
  intro pins s σ H xs us Q I r ⟨v, d, e, hd, h1, h2, h3, q⟩
  exact call_reprD hg pins s σ H xs us Q I r ⟨v, d, e, hd, h1, h2, by omega, q⟩
/-- the exception classes -/
structure Exs (K : PySem.W.Frag) (mg : Str → Option Value) (ND NU IN SE BE : Addr) : Prop where
  ndm : mg "NotDefended" = some (.ref ND)
  num : mg "NothingToUndo" = some (.ref NU)
  inm : mg "InvalidNumbers" = some (.ref IN)
  sem : mg "StateError" = some (.ref SE)
  bem : mg "BookError" = some (.ref BE)
  ndC : ExcC K ND
  nuC : ExcC K NU
  inC : ExcC K IN
  inX : XfC K IN
  inV : PySem.W.findIn K (.ref IN) "value" = some none
  kND : PySem.W.kitOne K (.ref ND) (.ref SE) = some true
  kNU : PySem.W.kitOne K (.ref NU) (.ref SE) = some true
  kIN : PySem.W.kitOne K (.ref IN) (.ref BE) = some true
  e11 : PySem.W.exmOne K (.ref ND) (.ref ND) = some true
  e21 : PySem.W.exmOne K (.ref NU) (.ref ND) = some false
  e22 : PySem.W.exmOne K (.ref NU) (.ref NU) = some true
  e31 : PySem.W.exmOne K (.ref IN) (.ref ND) = some false
  e32 : PySem.W.exmOne K (.ref IN) (.ref NU) = some false
  e33 : PySem.W.exmOne K (.ref IN) (.ref IN) = some true
/-- what is heard of what is raised -/
def heardE (K : PySem.W.Frag) (ND NU IN : Addr) (Q : VK) : XK := fun cls d H =>
  (cls = .ref ND ∧ d = none ∧ ∀ v H', Ex H H' → Dp K H' v (.list [.str "not defended", .bool true]) → Q v H') ∨
  (cls = .ref NU ∧ d = none ∧ ∀ v H', Ex H H' → Dp K H' v (.list [.str "nothing", .bool true]) → Q v H') ∨
  ∃ dd u n, cls = .ref IN ∧ d = some dd ∧ H dd = some (.xd [("value", u)]) ∧ Dp K H u n ∧ n.showable = true ∧ n.shown.length ≤ sizeLine ∧ n.depth ≤ 4 ∧ ∀ v H', Ex H H' → Dp K H' v (.list [.str "numbers", .str n.shown, .bool true]) → Q v H'
def TTh (K : PySem.W.Frag) (ND NU IN : Addr) : (XK → Hp → VK → Prop) → Hp → VK → Prop := fun tl H Q => tl (heardE K ND NU IN Q) H Q
theorem _root_.L2.Takes.len {X : Cx} {W : WX} (t : Takes X W) : Takes X (fun c d σ H => σ.length = X.N.length → W c d σ H) :=
  fun u s' ⟨a, B, sI, pins, σ, H, cls, d, e, I, nb, up, sky, na, os, ag, w⟩ => t u s' ⟨a, B, sI, pins, σ, H, cls, d, e, I, nb, up, sky, na, os, ag, w I.len⟩
theorem x_xfE {te : TE} {a : Addr} {cls : Value} {d : Option Addr} {C : Addr} {f : Str} {σ : L2.St} {H : Hp} {Q : VK} (q : te σ H fun x H1 => x = .ref a ∧ cls = .ref C ∧ ∃ (dd : Addr) (fs : List (Str × V)) (v : V), d = some dd ∧ H1 dd = some (.xd fs) ∧ fs.lookup f = some v ∧ Q v H1) : tXf a cls d C f te σ H Q := q
section
variable {ND NU IN SE BE : Addr}
theorem heard_gives {X : Cx} {k : Nat} (T : Top X.K X.w X.mg) (hgd : X.A.guards = some []) (hr : Room (k + 1) X.A) (S : Exs X.K X.mg ND NU IN SE BE) {g : Addr} {cdg : Value} {q : Str} :
    LamX.GivesTo X ["call", "e", "told"] "_law_heard" (defScope s__law_heard) g cdg (defBody s__law_heard) "call" q (TTh X.K ND NU IN) := by
  intro f c' s H Q tl act hc h
  have hA : (cxOf C8.CX0 X.prog X.w X.K X.mg X.base ["call", "e", "told"] "_law_heard" (defScope s__law_heard) g cdg X.A X.stack s H C8.E0).nox.A.guards = some [] := hgd
  have hu : (X.A.deeper (envOfC "_law_heard" (defScope s__law_heard) s.heap.objs.size g cdg)).units + 16 < cLine := by
    have := (hr.deeper (envOfC "_law_heard" (defScope s__law_heard) s.heap.objs.size g cdg)).un
    omega
  have hr' := hr.deeper (envOfC "_law_heard" (defScope s__law_heard) s.heap.objs.size g cdg)
  refine ⟨_, pss_cons (ps_try_asMany (X := (cxOf C8.CX0 X.prog X.w X.K X.mg X.base ["call", "e", "told"] "_law_heard" (defScope s__law_heard) g cdg X.A X.stack s H C8.E0).nox)
      (tb := fun W D σ H => ∃ Ech : XK, (∀ cls d (σ' : L2.St) H', σ'.length = 3 → Ech cls d H' → W cls d σ' H') ∧ σ[0]? = some (some (.ref f)) ∧ H c' = some (LamX.CodeO c' q) ∧ tl Ech H fun v H' => D.nx (σ.set 2 (some v)) H')
      rfl rfl sc__law_heard.nd LamX.takes0 (fun W pn xe tk _ => ?_)
      (.cons (i := 1) (c := .ref ND) ⟨rfl, by decide, .inl S.ndm⟩ rfl rfl (fun a oe cls d pn hz hf => pss_one (ps_ret (pe_lst (pa_cons pe_str (pa_cons (pe_callB (call_isX hz hf) rfl T.b_isinstance (by decide +kernel) (pa_cons (pv 1) (pa_cons (pe_gref S.sem) pa_nil))) pa_nil)))))
      (.cons (i := 1) (c := .ref NU) ⟨rfl, by decide, .inl S.num⟩ rfl rfl (fun a oe cls d pn hz hf => pss_one (ps_ret (pe_lst (pa_cons pe_str (pa_cons (pe_callB (call_isX hz hf) rfl T.b_isinstance (by decide +kernel) (pa_cons (pv 1) (pa_cons (pe_gref S.sem) pa_nil))) pa_nil)))))
      (.cons (i := 1) (c := .ref IN) ⟨rfl, by decide, .inl S.inm⟩ rfl rfl (fun a oe cls d pn hz hf => pss_one (ps_ret (pe_lst (pa_cons pe_str (pa_cons (pe_callB (call_reprS (K := X.K) (by exact hgd) (by exact hu)) rfl T.b_repr (by decide +kernel) (pa_cons (pe_xf S.inX S.inV hz hf (pv 1)) pa_nil)) (pa_cons (pe_callB (call_isX hz hf) rfl T.b_isinstance (by decide +kernel) (pa_cons (pv 1) (pa_cons (pe_gref S.bem) pa_nil))) pa_nil))))))
      .nil))))
    (pss_one (ps_ret (pv 2))), ?_⟩
  · refine ⟨fun pins s' σ H' D I h' => ?_⟩
    obtain ⟨Ech, hW, h1, h2, h3⟩ := h'
    exact (pss_one (ps_set (i := 2) sc__law_heard.nd rfl (Or.inl rfl) (act (fun c d σ H => σ.length = 3 → W c d σ H) pn xe Ech _ _ tk.len fun cls d σ' H' z n => hW cls d σ' H' n z))).run pins s' σ H' D I ⟨h1, h2, h3⟩
  · refine ⟨fun cls d H' => heardE X.K ND NU IN Q cls d H', ?_, rfl, hc, ?_⟩
    · intro cls d σ' H' hl hw
      obtain ⟨o0, o1, o2, rfl⟩ : ∃ o0 o1 o2, σ' = [o0, o1, o2] := by
        match σ', hl with
        | [o0, o1, o2], _ => exact ⟨o0, o1, o2, rfl⟩
      rcases hw with ⟨rfl, rfl, hq⟩ | ⟨rfl, rfl, hq⟩ | ⟨dd, u, n, rfl, rfl, hx, hu, h1, h2, h3, hq⟩
      · refine ⟨true, S.e11, ⟨fun _ a na => ?_, by intro z; cases z⟩⟩
        walk_at "lyM"
        refine ⟨ND, .ref SE, .ref SE, true, rfl, S.ndC, .inl rfl, rfl, fun u z => z, S.kND, ?_⟩
        walk_at "lyM"
        exact hq _ _ (by assumption) (by walk_at "lyD")
      · refine ⟨false, S.e21, ⟨(by intro z; cases z), fun _ => ⟨true, S.e22, ⟨fun _ a na => ?_, by intro z; cases z⟩⟩⟩⟩
        walk_at "lyM"
        refine ⟨NU, .ref SE, .ref SE, true, rfl, S.nuC, .inl rfl, rfl, fun u z => z, S.kNU, ?_⟩
        walk_at "lyM"
        exact hq _ _ (by assumption) (by walk_at "lyD")
      · refine ⟨false, S.e31, ⟨(by intro z; cases z), fun _ => ⟨false, S.e32, ⟨(by intro z; cases z), fun _ => ⟨true, S.e33, ⟨fun _ a na => ?_, by intro z; cases z⟩⟩⟩⟩⟩⟩
        walk_at "lyM"
        refine x_xfE ?_
        walk_at "lyM"
        refine ⟨rfl, rfl, dd, _, u, rfl, hx, by simp [List.lookup], ?_⟩
        walk_at "lyM"
        refine ⟨u, n, rfl, hu, h1, h2, by omega, ?_⟩
        walk_at "lyM"
        refine ⟨IN, .ref BE, .ref BE, true, rfl, S.inC, .inr ⟨dd, _, rfl, hx⟩, rfl, fun u z => z, S.kIN, ?_⟩
        walk_at "lyM"
        exact hq _ _ (by assumption) (by walk_at "lyD")
    · have eQ : (fun (v : V) (H' : Hp) => ∃ v', ((L2.start ["call", "e", "told"] [V.ref f]).set 2 (some v))[2]? = some (some v') ∧ Q v' H') = Q := by
        funext v H'
        refine propext ⟨fun ⟨v', h1, h2⟩ => ?_, fun h => ⟨v, rfl, h⟩⟩
        have h1' : some (some v) = some (some v') := h1
        obtain rfl := Option.some.inj (Option.some.inj h1')
        exact h2
      show tl _ H (fun (v : V) (H' : Hp) => ∃ v', ((L2.start ["call", "e", "told"] [V.ref f]).set 2 (some v))[2]? = some (some v') ∧ Q v' H')
      rw [eQ]
      exact h
end
end K85

/-! ### text LC -/
namespace K85
open PySem PySem.Spec PyProof.Rows L2 Lay RZ



/-! data that repr shows -/
def Sw (W : Nat) (d : PyData) : Prop := d.showable = true ∧ d.leavesShort 100 = true ∧ d.weight ≤ W
theorem Sw.mono {W W' : Nat} {d : PyData} (h : Sw W d) (e : W ≤ W') : Sw W' d := ⟨h.1, h.2.1, Nat.le_trans h.2.2 e⟩
theorem Sw.int {i : Int} (h : i.natAbs ≤ 10 ^ 22) : Sw 80 (.int i) := by
  have hl : i.natAbs.log2 < 80 ∨ i.natAbs = 0 := by
    by_cases c : i.natAbs = 0
    · exact .inr c
    · exact .inl ((Nat.log2_lt c).mpr (Nat.lt_of_le_of_lt h (by decide)))
  have hl2 : i.natAbs.log2 < 80 := by
    rcases hl with hl | hl
    · exact hl
    · rw [hl]; decide
  refine ⟨?_, ?_, ?_⟩
  · simp only [PyData.showable, decide_eq_true_eq]
    omega
  · simp only [PyData.leavesShort, decide_eq_true_eq]
    have e := int_text_length_le10 (a := i) (k := 23) (by decide) (Nat.lt_of_le_of_lt h (by decide))
    show (Str.ofString (toString i)).length ≤ 100
    rw [PySem.ofString_length]
    omega
  · show (if (i == 0) = true then 0 else i.natAbs.log2 + 1) ≤ 80
    by_cases c : (i == 0) = true
    · rw [if_pos c]; decide
    · rw [if_neg c]; omega
theorem Sw.non : Sw 0 .none := ⟨rfl, rfl, Nat.le_refl _⟩
theorem Sw.bl {b : Bool} : Sw 0 (.bool b) := ⟨rfl, rfl, Nat.le_refl _⟩
theorem sw_all {W : Nat} : ∀ {ds : List PyData}, (∀ d ∈ ds, Sw W d) → PyData.showableAll ds = true ∧ PyData.leavesShortAll 100 ds = true ∧ PyData.weightAll ds ≤ ds.length * (W + 1)
  | [], _ => ⟨by simp [PyData.showableAll], by simp [PyData.leavesShortAll], by simp [PyData.weightAll]⟩
  | d :: ds, h => by
    obtain ⟨h1, h2, h3⟩ := sw_all (ds := ds) fun x hx => h x (List.mem_cons_of_mem _ hx)
    obtain ⟨g1, g2, g3⟩ := h d List.mem_cons_self
    refine ⟨by simp only [PyData.showableAll, g1, h1, Bool.and_self], by simp only [PyData.leavesShortAll, g2, h2, Bool.and_self], ?_⟩
    simp only [PyData.weightAll, List.length_cons]
    have : (ds.length + 1) * (W + 1) = ds.length * (W + 1) + (W + 1) := Nat.succ_mul _ _
    omega
theorem Sw.lst {W n : Nat} {ds : List PyData} (h : ∀ d ∈ ds, Sw W d) (hn : ds.length ≤ n) : Sw (n * (W + 1)) (.list ds) := by
  obtain ⟨h1, h2, h3⟩ := sw_all h
  exact ⟨by simp only [PyData.showable, h1], by simp only [PyData.leavesShort, h2], by
    simp only [PyData.weight]
    exact Nat.le_trans h3 (Nat.mul_le_mul_right _ hn)⟩
theorem Sw.tup {W n : Nat} {ds : List PyData} (h : ∀ d ∈ ds, Sw W d) (hn : ds.length ≤ n) : Sw (n * (W + 1)) (.tuple ds) := by
  obtain ⟨h1, h2, h3⟩ := sw_all h
  exact ⟨by simp only [PyData.showable, h1], by simp only [PyData.leavesShort, h2], by
    simp only [PyData.weight]
    exact Nat.le_trans h3 (Nat.mul_le_mul_right _ hn)⟩
theorem Sw.len {W : Nat} {d : PyData} (h : Sw W d) (hw : W ≤ 10000) : d.shown.length ≤ sizeLine := by
  have h1 := PyData.shown_le 100 (by decide) d h.2.1
  have h2 : d.weight ≤ 10000 := Nat.le_trans h.2.2 hw
  rw [sizeLine_eq]
  omega
theorem Sw.str {s : Str} {W : Nat} (h : (PyData.leavesShort 100 (.str s) && decide (s.cps.size ≤ W)) = true) : Sw W (.str s) := by
  obtain ⟨h1, h2⟩ := Bool.and_eq_true_iff.mp h
  exact ⟨rfl, h1, of_decide_eq_true h2⟩
theorem sw_ints {g : List Int} (h : Bd g) (hn : g.length ≤ 3) : ∀ d ∈ g.map PyData.int, Sw 80 d := fun d hd => by
  obtain ⟨i, hi, rfl⟩ := List.mem_map.mp hd
  exact Sw.int (h.le hn i hi)
theorem sw_sS (b : Bool) : Sw 80 (.str (sS b)) := by cases b <;> exact Sw.str (by decide +kernel)
theorem sw_turn (f : Pre) (n : Nat) : Sw 80 (turnD f n) := by
  unfold turnD
  cases f.1[n]? with
  | none => exact Sw.non.mono (by decide)
  | some k => exact sw_sS k
theorem sw_win (f : Pre) (g : List Int) : Sw 80 (winD f g) := by
  unfold winD
  by_cases c : g.length = f.1.length
  · rw [if_pos c]; exact sw_sS _
  · rw [if_neg c]; exact Sw.non.mono (by decide)
def looksD (f : Pre) (g : List Int) : PyData := .list [.tuple (g.map PyData.int), turnD f g.length, .bool (decide (g.length = f.1.length)), winD f g]
theorem sw_looks {f : Pre} {g : List Int} (h : Bd g) (hn : g.length ≤ 3) : Sw 2000 (looksD f g) := (Sw.lst (W := 243) (n := 4) (fun d hd => by
  have : d = .tuple (g.map PyData.int) ∨ d = turnD f g.length ∨ d = .bool (decide (g.length = f.1.length)) ∨ d = winD f g := by simpa using hd
  rcases this with e | e | e | e
  · subst e; exact Sw.tup (W := 80) (n := 3) (sw_ints h hn) (by rw [List.length_map]; exact hn)
  · subst e; exact (sw_turn _ _).mono (by decide)
  · subst e; exact Sw.bl.mono (by decide)
  · subst e; exact (sw_win _ _).mono (by decide)) (Nat.le_refl _)).mono (by decide)
theorem dep_turn (f : Pre) (n : Nat) : (turnD f n).depth = 0 := by
  unfold turnD
  cases f.1[n]? <;> simp [PyData.depth]
theorem dep_win (f : Pre) (g : List Int) : (winD f g).depth = 0 := by
  unfold winD
  by_cases c : g.length = f.1.length
  · rw [if_pos c]; simp [PyData.depth]
  · rw [if_neg c]; simp [PyData.depth]
theorem dep_ints : ∀ (g : List Int), PyData.depthAll (g.map PyData.int) = 0
  | [] => by simp [PyData.depthAll]
  | i :: g => by simp [PyData.depthAll, PyData.depth, dep_ints g]
theorem dep_looks (f : Pre) (g : List Int) : (looksD f g).depth ≤ 8 := by
  unfold looksD
  simp only [PyData.depth, PyData.depthAll, dep_turn, dep_win, dep_ints]
  omega
theorem room16 {k : Nat} {A : Around} (hr : Room k A) : A.units + 16 < cLine := by
  have := hr.un
  omega
section
variable {K : PySem.W.Frag} {H : Hp} {C : Addr} {μ : MtA} {f : Pre} {d : Df} {ns : List Int} {σ : L2.St} {Q : VK} {E : XK} {i : Nat}
theorem x_mnum (h : MtAt K C H μ f d ns) (hs : σ[i]? = some (some (.ref μ.m))) (q : ∀ x H', Ex H H' → Dp K H' x (.tuple (ns.map PyData.int)) → Q x H') : tMeth C "numbers" (sp_mnum C K) [] E (tVar i) tNil σ H Q :=
  ⟨_, hs, _, _, _, rfl, h.ins, lk_no (by decide +kernel), μ, f, d, ns, rfl, h, q⟩
theorem x_mturn (h : MtAt K C H μ f d ns) (hl : ns.length ≤ f.1.length) (hs : σ[i]? = some (some (.ref μ.m))) (q : ∀ x H', Ex H H' → Dp K H' x (turnD f ns.length) → Q x H') : tMeth C "turn" (sp_mturn C K) [] E (tVar i) tNil σ H Q :=
  ⟨_, hs, _, _, _, rfl, h.ins, lk_no (by decide +kernel), μ, f, d, ns, rfl, h, hl, q⟩
theorem x_mwin (h : MtAt K C H μ f d ns) (h1 : FmOk f.1.length f.2) (h2 : f.2.deep ≤ 2) (hs : σ[i]? = some (some (.ref μ.m))) (q : ∀ x H', Ex H H' → Dp K H' x (winD f ns) → Q x H') : tMeth C "winner" (sp_mwin C K) [] E (tVar i) tNil σ H Q :=
  ⟨_, hs, _, _, _, rfl, h.ins, lk_no (by decide +kernel), μ, f, d, ns, rfl, h, h1, h2, q⟩
theorem looks_end {mg : Str → Option Value} (M : MtOk K mg C) {v u x4 x5 : V} {D : Ends} (hm : MtAt K C H μ f d ns) (hu : Dp K H u (eI ns)) (h4 : Dp K H x4 (turnD f ns.length)) (h5 : Dp K H x5 (winD f ns)) (hf : FmOk f.1.length f.2) (hdp : f.2.deep ≤ 2) (hn : f.1.length ≤ 3) (hl : ns.length ≤ f.1.length) (hb : Bd ns)
    (q : ∀ H', Ex H H' → D.rt (.bl true) H') : tRet (tOp rEq (tCB (rRepr K) (tCons (tLst (tCons (tMeth C "numbers" (sp_mnum C K) [] E0 (tVar 1) tNil) (tCons (tMeth C "turn" (sp_mturn C K) [] E0 (tVar 1) tNil) (tCons (tMeth C "is_over" (sp_mover C K) [] E0 (tVar 1) tNil) (tCons (tMeth C "winner" (sp_mwin C K) [] E0 (tVar 1) tNil) tNil))))) tNil))
      (tCB (rRepr K) (tCons (tLst (tCons (tCB (rTupleK K) (tCons (tVar 2) tNil)) (tCons (tVar 4) (tCons (tVar 3) (tCons (tVar 5) tNil))))) tNil))) D [some v, some (.ref μ.m), some u, some (.bl (decide (ns.length = f.1.length))), some x4, some x5] H := by
  walk_at "lyM"
  refine x_mnum hm rfl fun y1 H1 e1 k1 => ?_
  have hm1 := hm.ex e1
  walk_at "lyM"
  refine x_mturn hm1 hl rfl fun y2 H2 e2 k2 => ?_
  have hm2 := hm1.ex e2
  walk_at "lyM"
  refine x_mwin hm2 hf hdp rfl fun y4 H4 e4 k4 => ?_
  refine x_nil ?_
  have k1' : Dp K H4 y1 (.tuple (ns.map PyData.int)) := R.xp (e2.trans e4) _ _ k1
  have k2' : Dp K H4 y2 (turnD f ns.length) := R.xp e4 _ _ k2
  refine x_lst (.cons k1' (.cons k2' (.cons (.bl _) (.cons k4 .nil)))) (by show 4 ≤ 100000; decide) ?_
  intro l H5 e5 n5 t5 k5
  have sw := sw_looks (f := f) hb (by omega)
  walk_at "lyM"
  refine ⟨_, looksD f ns, rfl, k5, sw.1, sw.len (by decide), dep_looks f ns, ?_⟩
  walk_at "lyM"
  have e05 : Ex H H5 := e1.trans (e2.trans (e4.trans e5))
  refine x_tupleD (.inr (R.xp e05 _ _ hu)) ?_
  intro y6 H6 e6 k6
  walk_at "lyM"
  have e06 := e05.trans e6
  rename_i l2 H7 e7 n7 t7 k7
  refine ⟨_, looksD f ns, rfl, k7, sw.1, sw.len (by decide), dep_looks f ns, ?_⟩
  walk_at "lyM"
  exact q _ (e06.trans e7)
end
def sp_looks (C : Addr) (K : PySem.W.Frag) : Sp := fun vs H Q _ => ∃ (μ : MtA) (f : Pre) (d : Df) (g : List Int) (v u : V), vs = [v, .ref μ.m, u] ∧ Dp K H v (eX f) ∧ MtAt K C H μ f d g ∧ Dp K H u (eI g) ∧ FmOk f.1.length f.2 ∧ f.2.deep ≤ 2 ∧ f.1.length ≤ 3 ∧ g.length ≤ f.1.length ∧ Bd g ∧ ∀ H', Ex H H' → Q (.bl true) H'
section
variable {P : Program} {w : World} {K : PySem.W.Frag} {mg : Str → Option Value} {base : Heap} {C : Addr}
theorem cal__law_looks (T : Top K w mg) (M : MtOk K mg C) : CalG P w K mg base "_law_looks" ["form", "match", "gone"] 8 (sp_looks C K) := by
  refine calG_of T.f__law_looks sc__law_looks ?len (fun _ _ _ _ _ _ us hl => match us, hl with | [_, _, _], _ => rfl) (fun f cdv A outer s H vs Q E hgd hr hcd h => ⟨_, (pss_cons (ps_set (i := 3) sc__law_looks.nd rfl (by first | exact Or.inl rfl | exact Or.inr rfl) (pe_cmpR op_eq (pe_callB call_lenK rfl T.b_len PySem.boot_len (pa_cons (pv 2) pa_nil)) (pe_callB call_lenK rfl T.b_len PySem.boot_len (pa_cons (pe_ix ix_tupK (pv 0) pe_int (fun _ _ => rfl)) pa_nil)) (nomark _)))
      (pss_cons (ps_set (i := 4) sc__law_looks.nd rfl (by first | exact Or.inl rfl | exact Or.inr rfl) (pe_ifExp (pt_val (pv 3)) pe_non (pe_ifExp (pt_cmpR op_eq (pe_ix ix_tupK (pe_ix ix_tupK (pv 0) pe_int (fun _ _ => rfl)) (pe_callB call_lenK rfl T.b_len PySem.boot_len (pa_cons (pv 2) pa_nil)) (fun _ _ => rfl)) pe_str (nomark _)) pe_str pe_str)))
      (pss_cons (ps_set (i := 5) sc__law_looks.nd rfl (by first | exact Or.inl rfl | exact Or.inr rfl) (pe_ifExp (pt_not (pt_val (pv 3))) pe_non (pe_ifExp (pt_val (pe_def (cal__law_is_so T 2) (hr.mono (by omega)) (pa_cons (pe_ix ix_tupK (pv 0) pe_int (fun _ _ => rfl)) (pa_cons (pv 2) pa_nil)))) pe_str pe_str)))
      (pss_one (ps_ret (pe_cmpR op_eq (pe_callB (call_reprS (K := K) (by exact hgd) (room16 hr)) rfl T.b_repr (by decide +kernel) (pa_cons (pe_lst (pa_cons (pe_mth0 (cal_m_numbers T M) M.cl pass0 (hr.mono (by omega)) (pv 1)) (pa_cons (pe_mth0 (cal_m_turn T M) M.cl pass0 (hr.mono (by omega)) (pv 1)) (pa_cons (pe_mth0 (cal_m_over T M) M.cl pass0 (hr.mono (by omega)) (pv 1)) (pa_cons (pe_mth0 (cal_m_winner T M) M.cl pass0 (hr.mono (by omega)) (pv 1)) pa_nil))))) pa_nil)) (pe_callB (call_reprS (K := K) (by exact hgd) (room16 hr)) rfl T.b_repr (by decide +kernel) (pa_cons (pe_lst (pa_cons (pe_callTy call_tupleK rfl T.b_tuple (by decide +kernel) (pa_cons (pv 2) pa_nil)) (pa_cons (pv 4) (pa_cons (pv 3) (pa_cons (pv 5) pa_nil))))) pa_nil)) (nomark _))))))), ?_⟩)
  case len => intro vs H Q E h; obtain ⟨_, _, _, _, _, _, rfl, _⟩ := h; rfl
  obtain ⟨μ, f, d, g, v, u, rfl, hv, hm, hu, hf, hdp, hn, hl, hb, q⟩ := h
  walk_at "lyM"
  have e0 : decide (((g.map PyData.int).length : Int) = ((f.1.map fun b => PyData.str (kS b)).length : Nat)) = decide (g.length = f.1.length) := by
    rw [List.length_map, List.length_map]
    exact decide_eq_decide.mpr ⟨fun z => by omega, fun z => by omega⟩
  rw [e0]
  by_cases c : g.length = f.1.length
  · refine x_ifdT c ?_
    have e1 : turnD f g.length = .none := by
      unfold turnD
      rw [List.getElem?_eq_none (show f.1.length ≤ g.length by omega)]
    have e2 : winD f g = .str (sS (fh g f.2)) := by
      unfold winD
      rw [if_pos c]
    have h4 : Dp K H .non (turnD f g.length) := e1 ▸ .non
    walk_at "lyM"
    refine x_ifnT c ?_
    walk_at "lyM"
    refine ⟨f.2, g, _, _, rfl, by assumption, .inr hu, c ▸ hf, hdp, fun H1 x1 => ⟨_, rfl, ?_⟩⟩
    cases h1 : fh g f.2 with
    | true =>
      rw [h1] at e2
      refine (if_pos rfl).mpr ?_
      refine x_c ?_
      refine x_name ?_
      refine looks_end M (hm.ex x1) (R.xp x1 _ _ hu) (R.xp x1 _ _ h4) (e2 ▸ .str _) hf hdp hn hl hb fun H' x2 => q _ (x1.trans x2)
    | false =>
      rw [h1] at e2
      refine (if_neg (by simp)).mpr ?_
      refine x_c ?_
      refine x_name ?_
      refine looks_end M (hm.ex x1) (R.xp x1 _ _ hu) (R.xp x1 _ _ h4) (e2 ▸ .str _) hf hdp hn hl hb fun H' x2 => q _ (x1.trans x2)
  · refine x_ifdF c ?_
    have hi : g.length < f.1.length := by omega
    have ei := List.getElem?_eq_getElem hi
    have e2 : winD f g = .none := by
      unfold winD
      rw [if_neg c]
    walk_at "lyM"
    refine x_ixT (ds := f.1.map fun b => PyData.str (kS b)) (d := .str (kS f.1[g.length])) (by assumption) (by rw [List.length_map]; exact atI_nat (by rw [List.getElem?_map, ei]; rfl)) ?_
    walk_at "lyV"
    walk_at "lyM"
    have e3 : turnD f g.length = .str (sS f.1[g.length]) := by
      unfold turnD
      rw [ei]
    cases h1 : f.1[g.length] with
    | true =>
      rw [h1] at e3
      refine x_ifdT (by decide +kernel) ?_
      walk_at "lyM"
      refine x_ifnF c ?_
      refine x_c ?_
      refine x_name ?_
      exact looks_end M hm hu (e3 ▸ .str _) (e2 ▸ .non) hf hdp hn hl hb q
    | false =>
      rw [h1] at e3
      refine x_ifdF (by decide +kernel) ?_
      walk_at "lyM"
      refine x_ifnF c ?_
      refine x_c ?_
      refine x_name ?_
      exact looks_end M hm hu (e3 ▸ .str _) (e2 ▸ .non) hf hdp hn hl hb q
end
end K85

/-! ### text LD -/
namespace Lay
open PySem PySem.Spec PyProof.Rows L2
/-! defs that make lambdas: their code object is known -/
def IsDefC (K : PySem.W.Frag) (mg : Str → Option Value) (x : Str) (st : Stmt) (c : Addr) : Prop := ∃ f fd, mg x = some (.ref f) ∧ Fun K x x st f fd ∧ fd.code = .ref c
section
variable {P : Program} {w : World} {K : PySem.W.Frag} {mg : Str → Option Value} {base : Heap} {x : Str} {st : Stmt} {N ps : List Str} {k : Nat} {sp : Sp} {c : Addr}
theorem calC_of (F : IsDefC K mg x st c) (S : FnScope N ps (defScope st)) (len : ∀ vs H Q E, sp vs H Q E → vs.length = ps.length)
    (hbind : ∀ (kV doc pm : Value) (an : Option Addr) (cdv ct : Value) (us : List Value), us.length = ps.length → bindArgs (PySem.W.fnOf x x (defArgs st) (defBody st) (defScope st) .none kV doc pm an cdv ct) ⟨us, []⟩ = pure (ps.zip us))
    (hbody : ∀ (f : Addr) (A : Around) (outer : List Env) (s : Shared) (H : Hp) (vs : List V) (Q : VK) (E : XK), A.guards = some [] → Room k (A.deeper (envOfC x (defScope st) s.heap.objs.size f (.ref c))) → sp vs H Q E →
      ∃ t, PSs (cxOf CX0 P w K mg base N x (defScope st) f (.ref c) A outer s H E).nox (defBody st) t ∧ t { nx := fun _ H' => Q .non H', rt := Q } (start N vs) H) : CalG P w K mg base x ps (k + 1) sp := by
  obtain ⟨f, fd, hm, F, hc⟩ := F
  refine ⟨f, fd, hm, F.kp, F.binds hbind, len, fun A outer s H args us vs Q E hg hr e0 hb r hsp => ?_⟩
  obtain ⟨oc, od, kV, doc, pm, an, cdv, ct, osl, rfl, lk, hcd⟩ := F.ex
  obtain rfl : cdv = .ref c := hc
  refine LamX.run_ofS lk hcd S hr e0 hb r (len _ _ _ _ hsp) fun hr' => ?_
  obtain ⟨t, h, q⟩ := hbody f A outer s H vs Q E hg hr' hsp
  exact ⟨t, h.nox, q⟩
theorem passLP {X : Cx} {P : Program} {w : World} {A : Around} {outer : List Env} {s : Shared} {H : Hp} {E : XK} {scope : Scope} {f c' : Addr} (hP : X.prog = P := by rfl) (hw : X.w = w := by rfl) : Passes (L2.CX P w) (LamX.lamCx X A outer s H E scope f c') E := by
  subst hP hw
  exact passL
end
end Lay
namespace K85
open PySem PySem.Spec PyProof.Rows L2 Lay RZ



section
variable {ND NU IN SE BE : Addr}
theorem pe_heard {X : Cx} {k : Nat} {sc : Scope} {Tt : List (Addr × Str)} {c P : Addr} {params : Arguments} {body : Expr} {scope : Scope} {t : XK → TE} {p lpos pos : Pos} (T : Top X.K X.w X.mg) (hgd : X.A.guards = some []) (S : Exs X.K X.mg ND NU IN SE BE)
    (TB : LamX.TabB X.base X.mg c P) (hcode : X.env.code = .ref c) (hmT : (P, X.env.qual ++ "<lambda>") ∈ Tt) (hu : ∀ p ∈ Tt, p.1 = P → p.2 = X.env.qual ++ "<lambda>") (hr : Room (k + 3) X.A)
    (hbody : ∀ (A : Around) (outer : List Env) (s : Shared) (H : Hp) (E : XK) (f c' : Addr), Room (k + 1) (A.deeper (LamX.lamEnv X scope s.heap.objs.size f c')) → PE (LamX.lamCx X A outer s H E scope f c') body (t E))
    (hsc : X.env.scope = sc := by rfl) (L : LamX.lamSB sc scope = true := by decide +kernel) (hg : Gl X "_law_heard" := by rfl) (hdef : defaultsOf params X.env = ([], []) := by rfl)
    (hbind : ∀ (q : Str) (cl : List (Str × Addr)) (pm cv ctv : Value), bindArgs (PySem.W.kla_fn "<lambda>" q params body scope cl pm cv ctv) ⟨[], []⟩ = pure [] := by intros; rfl) :
    PE X (.Call (.Name "_law_heard" p) [.Lambda params body scope lpos] [] pos) (LamX.tLam Tt (TTh X.K ND NU IN) t) := by
  obtain ⟨f, fd, hm, F⟩ := T.f__law_heard
  have hk := F.kp
  have hb := F.binds (ps := ["call"]) fun _ _ _ _ _ _ us hl => match us, hl with | [_], _ => rfl
  obtain ⟨oc, od, kV, doc, pm, an, cdv, ct, osl, rfl, lk, hcd⟩ := F.ex
  exact LamX.pe_lamcall (k := k + 1) hg hm hk lk hcd hb sc__law_heard rfl (.inl rfl) (heard_gives (k := k + 2) T hgd hr S) TB hcode hmT hu hr (by rw [hsc]; exact LamX.lamS_by L) hdef hbind hbody
end
end K85

/-! ### text LE -/
namespace K85
open PySem PySem.Spec PyProof.Rows L2 Lay RZ



/-! the state of a match by hand -/
theorem codeO_lst {c : Addr} {q : Str} {xs : List V} : LamX.CodeO c q ≠ .lst xs := fun z => by
  unfold LamX.CodeO at z
  cases z
theorem codeO_ins {c : Addr} {q : Str} {C dx : Addr} {fs : List (Str × V)} : LamX.CodeO c q ≠ .ins C dx fs := fun z => by
  unfold LamX.CodeO at z
  cases z
/-- what may be written: lists, instances -/
def Wr (N : List Addr) (H : Hp) : Prop := ∀ a ∈ N, (∃ xs, H a = some (.lst xs)) ∨ ∃ C dx fs, H a = some (.ins C dx fs)
theorem tabs_rw {T : List (Addr × Str)} {N : List Addr} {H H' : Hp} (t : LamX.Tabs T H) (r : RW N H H') (hN : Wr N H) : LamX.Tabs T H' := fun p hp => by
  obtain ⟨ps, h1, h2, h3⟩ := t p hp
  refine ⟨ps, r.keep _ _ (fun z => ?_) h1, h2, fun pos cv hcv => ?_⟩
  · rcases hN _ z with ⟨xs, e⟩ | ⟨C, dx, fs, e⟩ <;> (rw [h1] at e; cases e)
  · obtain ⟨c, e1, e2⟩ := h3 pos cv hcv
    refine ⟨c, e1, r.keep _ _ (fun z => ?_) e2⟩
    rcases hN _ z with ⟨xs, e⟩ | ⟨C, dx, fs, e⟩
    · rw [e2] at e; exact codeO_lst (Option.some.inj e)
    · rw [e2] at e; exact codeO_ins (Option.some.inj e)
theorem wr_nil {H : Hp} : Wr [] H := fun a h => absurd h (by simp)
theorem wr_lst {H : Hp} {a : Addr} {xs : List V} (h : H a = some (.lst xs)) : Wr [a] H := fun b hb => by
  have : b = a := by simpa using hb
  subst this
  exact .inl ⟨xs, h⟩
theorem wr_ins {H : Hp} {a C dx : Addr} {fs : List (Str × V)} (h : H a = some (.ins C dx fs)) : Wr [a] H := fun b hb => by
  have : b = a := by simpa using hb
  subst this
  exact .inr ⟨C, dx, fs, h⟩
theorem wr_pot {H : Hp} {a : Addr} (h : PotAt H a) : Wr [a] H := by
  obtain ⟨_, _, _, e⟩ := h
  exact wr_lst e
structure Ms (K : PySem.W.Frag) (C : Addr) (Tt : List (Addr × Str)) (H0 : Hp) (p : Addr) (f : Pre) (d : Df) (μ : MtA) (pl ga : Addr) (g : List Int) (H : Hp) : Prop where
  pot0 : PotAt H0 p
  rt : RT [p] H0 H
  tb : LamX.Tabs Tt H
  mt : MtAt K C H μ f d g
  gl : H ga = some (.lst (g.map V.int))
  plans : PlanD K H pl (ownB f d.1) d.2
  nm : NewT H0 μ.m
  nmt : NewT H0 μ.mt
  npd : NewT H0 μ.pd
  nga : NewT H0 ga
  npl : NewT H0 pl
  ne : ga ≠ μ.mt
  len : g.length ≤ f.1.length
  bd : Bd g
section
variable {K : PySem.W.Frag} {C : Addr} {Tt : List (Addr × Str)} {H0 H H' : Hp} {p : Addr} {f : Pre} {d : Df} {μ : MtA} {pl ga l : Addr} {g ms : List Int}
theorem Ms.pot (S : Ms K C Tt H0 p f d μ pl ga g H) : PotAt H p := S.rt.pots p (by simp) S.pot0
theorem planD_keep {a : Addr} {own : List Int} {ps : List Pl} (h : PlanD K H a own ps) (k : ∀ kvs, H a = some (.dK kvs) → H' a = some (.dK kvs)) (t : ∀ a xs, SqT K H a xs → SqT K H' a xs) : PlanD K H' a own ps := by
  obtain ⟨ws, w1, w2⟩ := h
  exact ⟨ws, ims_keep t _ _ (ims_Ps _) w1, k _ w2⟩
theorem Ms.ex (S : Ms K C Tt H0 p f d μ pl ga g H) (e : Ex H H') : Ms K C Tt H0 p f d μ pl ga g H' :=
  { S with rt := S.rt.trans (.ofEx e), tb := tabs_rw S.tb (.ofEx e) wr_nil, mt := S.mt.ex e, gl := e.keep ga _ (by simp) S.gl, plans := planD_keep S.plans (fun kvs h => e.keep _ _ (by simp) h) fun _ _ => e.sqt }
theorem Ms.en (S : Ms K C Tt H0 p f d μ pl ga g H) (e : LamX.ExtN H H') (t : LamX.Tabs Tt H') : Ms K C Tt H0 p f d μ pl ga g H' :=
  have r : RT [] H H' := .ofN e
  { S with rt := S.rt.trans (.ofN e), tb := t, mt := S.mt.keep (fun a o _ h n => e a o h n) fun _ _ => r.sqt, gl := e ga _ S.gl (fun ps z => by cases z), plans := planD_keep S.plans (fun kvs h => e _ _ h fun ps z => by cases z) fun _ _ => r.sqt }
/-- the pot is drawn from -/
theorem Ms.draw (S : Ms K C Tt H0 p f d μ pl ga g H) (r : R [p] H H') : Ms K C Tt H0 p f d μ pl ga g H' :=
  have n : ∀ a, NewT H0 a → a ∉ [p] := fun a h z => h.pot S.pot0 (by have : a = p := by simpa using z
                                                                     exact this.symm)
  { S with rt := S.rt.trans (.ofR r), tb := tabs_rw S.tb (.ofR r) (wr_pot S.pot), mt := S.mt.keep (fun a o ha h _ => r.keep a o (n a (by rcases ha with e | e | e <;> (subst e; first | exact S.nm | exact S.nmt | exact S.npd))) h) fun _ _ => r.sqt,
           gl := r.keep ga _ (n ga S.nga) S.gl, plans := planD_keep S.plans (fun kvs h => r.keep _ _ (n pl S.npl) h) fun _ _ => r.sqt }
theorem pot_step {N : List Addr} (q : PotAt H p) (r : RW N H H') (n : p ∉ N) : PotAt H' p := by
  obtain ⟨a, b, c, e⟩ := q
  exact ⟨a, b, c, r.keep p _ n e⟩
theorem Ms.step {N : List Addr} (S : Ms K C Tt H0 p f d μ pl ga g H) (r : RW N H H') (n : ∀ a ∈ N, NewT H0 a) : RT [p] H0 H' :=
  RT.step S.rt r (fun a h _ => n a h) fun q hq h => by
    have : q = p := by simpa using hq
    subst this
    exact pot_step h r fun z => (n _ z).pot S.pot0 rfl
/-- the told list and gone -/
theorem Ms.tell (S : Ms K C Tt H0 p f d μ pl ga g H) (r : RW [μ.mt] H H') (t : H' μ.mt = some (.lst (ms.map V.int))) : RT [p] H0 H' ∧ LamX.Tabs Tt H' ∧ MtAt K C H' μ f d ms ∧ H' ga = some (.lst (g.map V.int)) ∧ PlanD K H' pl (ownB f d.1) d.2 :=
  ⟨S.step r (fun a h => by have : a = μ.mt := by simpa using h
                           rw [this]; exact S.nmt), tabs_rw S.tb r (wr_lst S.mt.told), S.mt.tell r t, r.keep ga _ (by simpa using S.ne) S.gl, planD_keep S.plans (fun kvs h => r.keep _ _ (by
    have := ne_of h S.mt.told fun z => by cases z
    simpa using this) h) fun _ _ => r.sqt⟩
theorem Ms.swap (S : Ms K C Tt H0 p f d μ pl ga g H) (r : RW [μ.m] H H') (i : H' μ.m = some (.ins C μ.dx (mfs μ.vf μ.vd μ.pd l))) (t : H' l = some (.lst (ms.map V.int))) : RT [p] H0 H' ∧ LamX.Tabs Tt H' ∧ MtAt K C H' { μ with mt := l } f d ms ∧ H' ga = some (.lst (g.map V.int)) ∧ PlanD K H' pl (ownB f d.1) d.2 :=
  ⟨S.step r (fun a h => by have : a = μ.m := by simpa using h
                           rw [this]; exact S.nm), tabs_rw S.tb r (wr_ins S.mt.ins), S.mt.swap r i t, r.keep ga _ (by
    have := ne_of S.gl S.mt.ins fun z => by cases z
    simpa using this) S.gl, planD_keep S.plans (fun kvs h => r.keep _ _ (by
    have := ne_of h S.mt.ins fun z => by cases z
    simpa using this) h) fun _ _ => r.sqt⟩
theorem Ms.fresh (S : Ms K C Tt H0 p f d μ pl ga g H) (h : H l = none) : NewT H0 l := S.rt.newT (NewT.of h) (by
  intro z
  have : l = p := by simpa using z
  obtain ⟨_, _, _, e⟩ := S.pot
  rw [← this, h] at e
  cases e)
end
section
variable {K : PySem.W.Frag} {C : Addr} {Tt : List (Addr × Str)} {H0 H : Hp} {p : Addr} {f : Pre} {d : Df} {μ : MtA} {pl ga : Addr} {g : List Int}
/-- the end of a turn -/
theorem turn_end {v u xd xt : V} {o4 o7 o10 o11 o12 : Option V} {n : PyData} {D : Ends} (S : Ms K C Tt H0 p f d μ pl ga g H) (hv : Dp K H v (eX f)) (hd : Dp K H xd n) (ht : Dp K H xt n) (hs : Sw 8000 n) (hz : n.depth ≤ 8)
    (hf : FmOk f.1.length f.2) (hdp : f.2.deep ≤ 2) (hn : f.1.length ≤ 3) (q : ∀ H', Ex H H' → D.nx [some (.ref p), some v, some u, some (.ref pl), o4, some (.ref μ.m), some (.ref ga), o7, some xd, some xt, o10, o11, o12] H') :
    tIfS (tOr (tTest (tOp rNe (tCB (rRepr K) (tCons (tVar 9) tNil)) (tCB (rRepr K) (tCons (tVar 8) tNil)))) (tNot (tB (tCall (sp_looks C K) [] E0 (tCons (tVar 1) (tCons (tVar 5) (tCons (tVar 6) tNil))))))) (tRet (tC (.bl false))) tNext D
      [some (.ref p), some v, some u, some (.ref pl), o4, some (.ref μ.m), some (.ref ga), o7, some xd, some xt, o10, o11, o12] H := by
  walk_at "lyM"
  refine ⟨_, n, rfl, ht, hs.1, hs.len (by decide), hz, ?_⟩
  walk_at "lyM"
  refine ⟨_, n, rfl, hd, hs.1, hs.len (by decide), hz, ?_⟩
  walk_at "lyM"
  refine ⟨μ, f, d, g, _, _, rfl, hv, S.mt, ints_dp S.gl, hf, hdp, hn, S.len, S.bd, fun H' e => ⟨_, rfl, ?_⟩⟩
  refine (if_neg (by simp)).mpr ?_
  exact q H' e
end
end K85

/-! ### text KB -/
namespace K85
open PySem PySem.Spec PyProof.Rows L2 Lay RZ
section
variable {P : Program} {w : World} {K : PySem.W.Frag} {mg : Str → Option Value} {base : Heap} {C : Addr}
theorem kb1 (kV doc pm : Value) (an : Option Addr) (cdv ct a v : Value) : bindArgs (PySem.W.fnOf "say" "Match.say" (defArgs s_Match_say) (defBody s_Match_say) (defScope s_Match_say) .none kV doc pm an cdv ct) ⟨[a], (["number"] : List Str).zip [v]⟩ = pure ((["self", "number"] : List Str).zip ([a] ++ [v])) := by kernel_rfl
theorem kb2 (kV doc pm : Value) (an : Option Addr) (cdv ct a d p : Value) : bindArgs (PySem.W.fnOf "__init__" "Match.__init__" (defArgs s_Match___init__) (defBody s_Match___init__) (defScope s_Match___init__) .none kV doc pm an cdv ct) ⟨[a], (["defence", "prenex"] : List Str).zip [d, p]⟩ = pure ((["self", "prenex", "defence"] : List Str).zip [a, p, d]) := by kernel_rfl
theorem kbn_say (kV doc pm : Value) (an : Option Addr) (cdv ct : Value) : KBn K (PySem.W.fnOf "say" "Match.say" (defArgs s_Match_say) (defBody s_Match_say) (defScope s_Match_say) .none kV doc pm an cdv ct) ["self", "number"] 1 ["number"] (fun us ws => us ++ ws) (fun us ws => us ++ ws) :=
  ⟨fun s us ws _ h1 h2 => by
    match us, ws, h1, h2 with
    | [a], [v], _, _ => exact BindsTo.of_eq (kb1 kV doc pm an cdv ct a v), fun h1 h2 => h1.append h2⟩
def gInit {α : Type} (us ws : List α) : List α := match us, ws with
  | [a], [d, p] => [a, p, d]
  | _, _ => us ++ ws
theorem kbn_init (kV doc pm : Value) (an : Option Addr) (cdv ct : Value) : KBn K (PySem.W.fnOf "__init__" "Match.__init__" (defArgs s_Match___init__) (defBody s_Match___init__) (defScope s_Match___init__) .none kV doc pm an cdv ct) ["self", "prenex", "defence"] 1 ["defence", "prenex"] gInit gInit :=
  ⟨fun s us ws _ h1 h2 => by
    match us, ws, h1, h2 with
    | [a], [d, p], _, _ => exact BindsTo.of_eq (kb2 kV doc pm an cdv ct a d p), fun {vs us zs ws} h1 h2 => by
    match vs, us, h1, zs, ws, h2 with
    | [], [], _, _, _, h2 => exact .append .nil h2
    | [x], [y], .cons r .nil, [], [], _ => exact .cons r .nil
    | [x], [y], .cons r .nil, [_], [_], .cons r2 .nil => exact .cons r (.cons r2 .nil)
    | [x], [y], .cons r .nil, [_, _], [_, _], .cons r2 (.cons r3 .nil) => exact .cons r (.cons r3 (.cons r2 .nil))
    | [x], [y], .cons r .nil, _ :: _ :: _ :: _, _ :: _ :: _ :: _, h2 => exact .cons r h2
    | _ :: _ :: _, _ :: _ :: _, h1, _, _, h2 => exact h1.append h2⟩
end
end K85

/-! ### text P2 -/
namespace K85
open PySem PySem.Spec PyProof.Rows L2 Lay RZ
/-! plain: how great the numbers are -/
theorem at0_le {ns : List Int} {M : Nat} (h : ∀ x ∈ ns, x.natAbs ≤ M) (v : Int) : (at0 ns v).natAbs ≤ M := by
  unfold at0
  rw [List.getD_eq_getElem?_getD]
  cases e : ns[v.toNat]? with
  | none => simp
  | some x => exact h x (List.mem_of_getElem? e)
theorem wsum_le {ns : List Int} {M : Nat} (h : ∀ x ∈ ns, x.natAbs ≤ M) : ∀ {ts : List (Int × Int)}, (∀ t ∈ ts, t.2 = 1 ∨ t.2 = -1 ∨ t.2 = 2) → (wsum ns ts).natAbs ≤ ts.length * (2 * M)
  | [], _ => by simp [wsum]
  | t :: ts, ht => by
    have ih := wsum_le h (ts := ts) fun x hx => ht x (List.mem_cons_of_mem _ hx)
    have e : wsum ns (t :: ts) = t.2 * at0 ns t.1 + wsum ns ts := by simp [wsum]
    have h1 := at0_le h t.1
    have h2 : (t.2 * at0 ns t.1).natAbs ≤ 2 * M := by
      rw [Int.natAbs_mul]
      have : t.2.natAbs ≤ 2 := by
        rcases ht t List.mem_cons_self with e | e | e <;> rw [e] <;> decide
      exact Nat.mul_le_mul this h1
    rw [e, List.length_cons, Nat.succ_mul]
    have := Int.natAbs_add_le (t.2 * at0 ns t.1) (wsum ns ts)
    omega
theorem worth_le {ns : List Int} {M n : Nat} (h : ∀ x ∈ ns, x.natAbs ≤ M) {l : Lin} (hl : LinD n l) (hn : n ≤ 2) : (worth l ns).natAbs ≤ 3 + 4 * M := by
  obtain ⟨⟨h1, h2⟩, h3, _, h5⟩ := hl
  have h4 := wsum_le h fun t ht => (h3 t ht).2.2
  have h6 : l.2.length * (2 * M) ≤ 2 * (2 * M) := Nat.mul_le_mul_right _ (by omega)
  unfold worth
  omega
theorem div_le {a b i : Int} {B : Nat} (h : div? a b = some i) (hb : b = 1 ∨ b = 2) (ha : a.natAbs ≤ B) : i.natAbs ≤ B := by
  unfold div? at h
  by_cases c : a % b = 0
  · rw [if_pos c] at h
    have := Option.some.inj h
    subst this
    rcases hb with e | e <;> subst e <;> omega
  · rw [if_neg c] at h
    cases h
theorem vnum_le {ns : List Int} {M n : Nat} (h : ∀ x ∈ ns, x.natAbs ≤ M) {va : Va} (hv : VaD n va) (hn : n ≤ 2) {i : Int} (e : vnum ns va = some i) : i.natAbs ≤ 10 + 4 * M := by
  cases va with
  | over l b =>
    have := worth_le h hv.1 hn
    exact div_le e hv.2 (by omega)
  | low ls r p b =>
    obtain ⟨h1, h2, h3, h4, h5, h6⟩ := hv
    unfold vnum at e
    dsimp only at e
    by_cases c : ls = []
    · rw [if_pos c] at e
      exact div_le e h6 (by omega)
    · rw [if_neg c] at e
      have hm := (minL_mem (xs := ls.map fun l => worth l ns) (by simpa using c)).1
      obtain ⟨l, hl, el⟩ := List.mem_map.mp hm
      have hw := worth_le h (h1 l hl) hn
      rw [el] at hw
      refine div_le e h6 ?_
      generalize minL (ls.map fun l => worth l ns) = m at hw ⊢
      have g1 := Int.emod_nonneg (m - 1 - r) (show p ≠ 0 by omega)
      have g2 := Int.emod_lt_of_pos (m - 1 - r) (show 0 < p by omega)
      omega
  | high ls r p b =>
    obtain ⟨h1, h2, h3, h4, h5, h6⟩ := hv
    unfold vnum at e
    dsimp only at e
    by_cases c : ls = []
    · rw [if_pos c] at e
      exact div_le e h6 (by omega)
    · rw [if_neg c] at e
      have hm := (maxL_mem (xs := ls.map fun l => worth l ns) (by simpa using c)).1
      obtain ⟨l, hl, el⟩ := List.mem_map.mp hm
      have hw := worth_le h (h1 l hl) hn
      rw [el] at hw
      refine div_le e h6 ?_
      generalize maxL (ls.map fun l => worth l ns) = m at hw ⊢
      have g1 := Int.emod_nonneg (r - (m + 1)) (show p ≠ 0 by omega)
      have g2 := Int.emod_lt_of_pos (r - (m + 1)) (show 0 < p by omega)
      omega
theorem tnum_le {ns : List Int} {M n : Nat} (h : ∀ x ∈ ns, x.natAbs ≤ M) {p : Pl} (hp : PlD n p) (hn : n ≤ 2) {i : Int} (e : tnum ns p = some i) : i.natAbs ≤ 10 + 4 * M := by
  unfold tnum at e
  cases h1 : pix ns p with
  | none => rw [h1] at e; cases e
  | some j =>
    rw [h1] at e
    have e' : (p[j]?).bind (fun q => vnum ns q.2) = some i := e
    cases h2 : p[j]? with
    | none => rw [h2] at e'; cases e'
    | some q =>
      rw [h2] at e'
      exact vnum_le h (hp.1 q (List.mem_of_getElem? h2)).2 hn e'
theorem bd_tnum {f : Pre} {d : Df} (hd : DfD f d) (hn : f.1.length ≤ 3) {g : List Int} (hb : Bd g) {p : Pl} (hp : planAt f.1 d.1 d.2 g.length = some p) {i : Int} (e : tnum g p = some i) : Bd (g ++ [i]) := by
  have hl := (planAt_some hp).2
  have hP := planAt_D hd hp
  refine hb.snoc ?_
  have key : g.length = 0 ∨ g.length = 1 ∨ g.length = 2 := by omega
  rcases key with h | h | h
  · have := tnum_le (M := 0) (fun x hx => by
      have : g = [] := List.length_eq_zero_iff.mp h
      rw [this] at hx
      cases hx) hP (by omega) e
    rw [h]
    omega
  · have := tnum_le (M := 10 ^ 18) (fun x hx => by
      obtain ⟨j, hj⟩ := List.getElem?_of_mem hx
      have hjl := (List.getElem?_eq_some_iff.mp hj).1
      have h2 := hb j x hj
      have : j = 0 := by omega
      subst this
      simpa using h2) hP (by omega) e
    rw [h]
    omega
  · have := tnum_le (M := 10 ^ 18 * 100) (fun x hx => by
      obtain ⟨j, hj⟩ := List.getElem?_of_mem hx
      have hjl := (List.getElem?_eq_some_iff.mp hj).1
      have h2 := hb j x hj
      have : j = 0 ∨ j = 1 := by omega
      rcases this with e | e <;> (subst e; omega)) hP (by omega) e
    rw [h]
    omega
theorem goOn_len {pl : Nat → Option Pl} : ∀ {m : Nat} {g g' : List Int}, goOn pl m g = some g' → g.length ≤ g'.length ∧ g'.length ≤ g.length + m
  | 0, g, g', h => by
    have := Option.some.inj h
    subst this
    exact ⟨Nat.le_refl _, Nat.le_refl _⟩
  | m + 1, g, g', h => by
    rw [goOn_succ] at h
    cases hp : pl g.length with
    | none =>
      rw [hp] at h
      have := Option.some.inj h
      subst this
      exact ⟨Nat.le_refl _, Nat.le_add_right _ _⟩
    | some p =>
      rw [hp] at h
      dsimp only at h
      cases ht : tnum g p with
      | none => rw [ht] at h; cases h
      | some i =>
        rw [ht] at h
        have := goOn_len (g := g ++ [i]) h
        rw [List.length_append, List.length_singleton] at this
        omega
theorem bd_goOn {f : Pre} {d : Df} (hd : DfD f d) (hn : f.1.length ≤ 3) : ∀ {m : Nat} {g g' : List Int}, Bd g → goOn (planAt f.1 d.1 d.2) m g = some g' → Bd g'
  | 0, g, g', hb, h => by
    have := Option.some.inj h
    subst this
    exact hb
  | m + 1, g, g', hb, h => by
    rw [goOn_succ] at h
    cases hp : planAt f.1 d.1 d.2 g.length with
    | none =>
      rw [hp] at h
      have := Option.some.inj h
      subst this
      exact hb
    | some p =>
      rw [hp] at h
      dsimp only at h
      cases ht : tnum g p with
      | none => rw [ht] at h; cases h
      | some i =>
        rw [ht] at h
        exact bd_goOn hd hn (bd_tnum hd hn hb hp ht) h
end K85

/-! ### text LG -/
namespace K85
open PySem PySem.Spec PyProof.Rows L2 Lay RZ



theorem cut_last (xs : List V) : cutV xs none (some (-1)) = xs.dropLast := by
  unfold cutV
  have e1 : HT.sIx xs.length 0 none = 0 := rfl
  have e2 : HT.sIx xs.length xs.length (some (-1)) = xs.length - 1 := by
    show (if (-1 : Int) < 0 then ((-1 : Int) + (xs.length : Int)).toNat else min (-1 : Int).toNat xs.length) = xs.length - 1
    rw [if_pos (by decide)]
    omega
  rw [e1, e2, List.drop_zero, Nat.sub_zero, List.dropLast_eq_take]
mutual
/-- data whose lists and tuples stay -/
theorem keep_dp {K : PySem.W.Frag} {H H' : Hp} (e : ∀ a xs, SqT K H a xs → SqT K H' a xs) (l : ∀ a xs, SqL K H a xs → SqL K H' a xs) : ∀ (d : PyData) (v : V), Dp K H v d → Dp K H' v d
  | .none, _, h => by cases h; exact .non
  | .bool _, _, h => by cases h; exact .bl _
  | .int _, _, h => by cases h; exact .int _
  | .str _, _, h => by cases h; exact .str _
  | .tuple ds, _, h => by
    cases h with
    | tup q r => exact .tup (e _ _ q) (keep_dps e l ds _ r)
  | .list ds, _, h => by
    cases h with
    | lst q r => exact .lst (l _ _ q) (keep_dps e l ds _ r)
  | .dict _, _, h => by cases h
theorem keep_dps {K : PySem.W.Frag} {H H' : Hp} (e : ∀ a xs, SqT K H a xs → SqT K H' a xs) (l : ∀ a xs, SqL K H a xs → SqL K H' a xs) : ∀ (ds : List PyData) (vs : List V), DpAll K H vs ds → DpAll K H' vs ds
  | [], _, h => by cases h; exact .nil
  | d :: ds, _, h => by
    cases h with
    | cons q r => exact .cons (keep_dp e l d _ q) (keep_dps e l ds _ r)
end
theorem en_dp {K : PySem.W.Frag} {H H' : Hp} {v : V} {d : PyData} (e : LamX.ExtN H H') (h : Dp K H v d) : Dp K H' v d := keep_dp (fun a xs h => by
  rcases h with (h | ⟨o, h⟩) | h
  · exact .inl (.inl (e _ _ h fun ps z => by cases z))
  · exact .inl (.inr ⟨o, e _ _ h fun ps z => by cases z⟩)
  · exact .inr h) (fun a xs h => by
  rcases h with (h | ⟨o, h⟩) | h
  · exact .inl (.inl (e _ _ h fun ps z => by cases z))
  · exact .inl (.inr ⟨o, e _ _ h fun ps z => by cases z⟩)
  · exact .inr h) d v h
theorem x_noP {σ : L2.St} {H : Hp} {R : Option Int → Hp → Prop} (q : R none H) : tNoPart σ H R := q
theorem x_partE {te : TE} {σ : L2.St} {H : Hp} {R : Option Int → Hp → Prop} (q : te σ H fun x H1 => ∃ i, x = .int i ∧ R (some i) H1) : tPart te σ H R := q
theorem x_neD {K : PySem.W.Frag} {H : Hp} {x y : V} {Q : VK} {d e : PyData} (h1 : Dp K H x d) (h2 : Dp K H y e) (s1 : SeqAt.shaped d = true) (s2 : SeqAt.shaped e = true) (q : Q (.bl (!PyData.eqv d e)) H) : rNeD K x y H Q := ⟨d, e, h1, h2, s1, s2, q⟩
section
variable {K : PySem.W.Frag} {C ND NU INa : Addr} {Tt : List (Addr × Str)} {H0 H : Hp} {p : Addr} {f : Pre} {d : Df} {μ : MtA} {pl ga : Addr} {g : List Int} {v u : V} {o4 o7 o8 o9 o10 o11 o12 : Option V} {D : Ends}
theorem sw_nd : Sw 8000 (.list [.str "not defended", .bool true]) ∧ (PyData.list [.str "not defended", .bool true]).depth ≤ 8 := ⟨(Sw.lst (W := 100) (n := 2) (fun d hd => by
  have : d = .str "not defended" ∨ d = .bool true := by simpa using hd
  rcases this with e | e <;> subst e
  · exact Sw.str (by decide +kernel)
  · exact Sw.bl.mono (by decide)) (Nat.le_refl _)).mono (by decide), by decide⟩
theorem sw_nt : Sw 8000 (.list [.str "nothing", .bool true]) ∧ (PyData.list [.str "nothing", .bool true]).depth ≤ 8 := ⟨(Sw.lst (W := 100) (n := 2) (fun d hd => by
  have : d = .str "nothing" ∨ d = .bool true := by simpa using hd
  rcases this with e | e <;> subst e
  · exact Sw.str (by decide +kernel)
  · exact Sw.bl.mono (by decide)) (Nat.le_refl _)).mono (by decide), by decide⟩
theorem sw_i {i : Int} (h : i.natAbs ≤ 10 ^ 22) : Sw 8000 (.int i) ∧ (PyData.int i).depth ≤ 8 := ⟨(Sw.int h).mono (by decide), by simp [PyData.depth]⟩
theorem sw_n : Sw 8000 .none ∧ PyData.none.depth ≤ 8 := ⟨Sw.non.mono (by decide), by simp [PyData.depth]⟩
theorem x_heard {t : XK → TE} {σ : L2.St} {Q : VK} (tb : LamX.Tabs Tt H) (q : ∀ H1, LamX.ExtN H H1 → LamX.Tabs Tt H1 → t (heardE K ND NU INa Q) σ H1 Q) : LamX.tLam Tt (TTh K ND NU INa) t σ H Q := ⟨tb, fun H1 e t1 => q H1 e t1⟩
theorem kex {H' : Hp} {ms : List Int} (e : Ex H H') (k : RT [p] H0 H ∧ LamX.Tabs Tt H ∧ MtAt K C H μ f d ms ∧ H ga = some (.lst (g.map V.int)) ∧ PlanD K H pl (ownB f d.1) d.2) : RT [p] H0 H' ∧ LamX.Tabs Tt H' ∧ MtAt K C H' μ f d ms ∧ H' ga = some (.lst (g.map V.int)) ∧ PlanD K H' pl (ownB f d.1) d.2 :=
  ⟨k.1.trans (.ofEx e), tabs_rw k.2.1 (.ofEx e) wr_nil, k.2.2.1.ex e, e.keep ga _ (by simp) k.2.2.2.1, planD_keep k.2.2.2.2 (fun kvs h => e.keep _ _ (by simp) h) fun _ _ => e.sqt⟩
/-- a new list becomes gone -/
theorem ms_new {ms : List Int} {l : Addr} (pot0 : PotAt H0 p) (rt : RT [p] H0 H) (tb : LamX.Tabs Tt H) (mt : MtAt K C H μ f d ms) (plans : PlanD K H pl (ownB f d.1) d.2) (nm : NewT H0 μ.m) (nmt : NewT H0 μ.mt) (npd : NewT H0 μ.pd) (npl : NewT H0 pl) (len : ms.length ≤ f.1.length) (bd : Bd ms) (hl : H l = none) :
    Ms K C Tt H0 p f d μ pl l ms (upd H l (.lst (ms.map V.int))) :=
  have e : Ex H (upd H l (.lst (ms.map V.int))) := R.new hl
  ⟨pot0, rt.trans (.ofEx e), tabs_rw tb (.ofEx e) wr_nil, mt.ex e, upd_same, planD_keep plans (fun kvs h => e.keep _ _ (by simp) h) fun _ _ => e.sqt, nm, nmt, npd, rt.newT (NewT.of hl) (by
    intro z
    have : l = p := by simpa using z
    obtain ⟨_, _, _, e⟩ := rt.pots p (by simp) pot0
    rw [← this, hl] at e
    cases e), npl, (ne_of_none mt.told hl).symm, len, bd⟩
/-- what a branch hands on -/
def Bq (K : PySem.W.Frag) (C : Addr) (Tt : List (Addr × Str)) (H0 : Hp) (p : Addr) (f : Pre) (d : Df) (m pl : Addr) (v u : V) (o4 o7 : Option V) (D : Ends) : Prop := ∀ μ ga g xd xt n o10 o11 o12 H, μ.m = m → Ms K C Tt H0 p f d μ pl ga g H → Dp K H xd n → Dp K H xt n → Sw 8000 n ∧ n.depth ≤ 8 →
  D.nx [some (.ref p), some v, some u, some (.ref pl), o4, some (.ref m), some (.ref ga), o7, some xd, some xt, o10, o11, o12] H
theorem br_back (S : Ms K C Tt H0 p f d μ pl ga g H) (hn : f.1.length ≤ 3) (q : Bq K C Tt H0 p f d μ.m pl v u o4 o7 D) :
    tSeq (tAsg (tIf (tTest (tOp (rNeD K) (tVar 6) (tLst tNil))) (tOp (rIxL K) (tVar 6) (tUn (rU fun i => V.int (-i)) (tC (V.int 1)))) (tLst (tCons (tC (V.str "nothing")) (tCons (tC (V.bl true)) tNil)))) (gName 8))
      (tSeq (tAsg (LamX.tLam Tt (TTh K ND NU INa) fun E => tMeth C "back" (sp_mback C NU K) [] E (tVar 5) tNil) (gName 9)) (tAsg (tSl (rSlL K) (tVar 6) tNoPart (tPart (tUn (rU fun i => V.int (-i)) (tC (V.int 1))))) (gName 6))) D
      [some (.ref p), some v, some u, some (.ref pl), o4, some (.ref μ.m), some (.ref ga), o7, o8, o9, o10, o11, o12] H := by
  have hl3 : g.length ≤ 3 := Nat.le_trans S.len hn
  walk_at "lyM"
  rename_i l1 H1 e1 n1 t1 c1
  have S1 := S.ex e1
  refine x_neD (d := eI g) (e := .list []) (ints_dp S1.gl) (by walk_at "lyD") (sh_eI g).ok (sh_eI []).ok ?_
  rcases List.eq_nil_or_concat g with c | ⟨r, i, c⟩
  · subst c
    walk_at "lyM"
    rename_i l2 H2 e2 n2 t2 c2
    have S2 := S1.ex e2
    refine x_heard S2.tb fun H3 e3 tb3 => ?_
    have S3 := S2.en e3 tb3
    have cd : Dp K H3 (.ref l2) (.list [.str "nothing", .bool true]) := en_dp e3 (c2 K)
    refine ⟨_, rfl, _, _, _, rfl, S3.mt.ins, lk_no (by decide +kernel), μ, f, d, [], rfl, S3.mt, by decide, fun _ H4 e4 => .inr (.inl ⟨rfl, rfl, fun xt H5 e5 ht => ?_⟩), fun r i h => by simp at h⟩
    have S5 := (S3.ex e4).ex e5
    walk_at "lyM"
    refine x_sl ?_
    walk_at "lyM"
    refine x_noP ?_
    refine x_partE ?_
    walk_at "lyM"
    refine ⟨-1, rfl, ga, _, rfl, SqL.of S5.gl, fun l6 n6 => ?_⟩
    rw [cut_last, show (([] : List Int).map V.int).dropLast = ([] : List Int).map V.int from rfl]
    walk_at "lyM"
    have e6 : Ex _ (upd H5 l6 (.lst (([] : List Int).map V.int))) := R.new n6
    exact q μ l6 [] _ _ _ _ _ _ _ rfl (ms_new S.pot0 S5.rt S5.tb S5.mt S5.plans S.nm S.nmt S.npd S.npl (Nat.zero_le _) Bd.nil n6) (R.xp (e4.trans (e5.trans e6)) _ _ cd) (R.xp e6 _ _ ht) sw_nt
  · have c' : g = r ++ [i] := by rw [c, List.concat_eq_append]
    subst c'
    have en : PyData.eqv (eI (r ++ [i])) (.list []) = false := by cases r <;> simp [eI, PyData.eqv, PyData.eqvAll]
    rw [en]
    walk_at "lyM"
    refine x_ixL (ds := (r ++ [i]).map PyData.int) (ints_dp S1.gl) (by rw [List.map_append]; exact atI_last _ _) ?_
    walk_at "lyV"
    walk_at "lyM"
    refine x_heard S1.tb fun H3 e3 tb3 => ?_
    have S3 := S1.en e3 tb3
    refine ⟨_, rfl, _, _, _, rfl, S3.mt.ins, lk_no (by decide +kernel), μ, f, d, r ++ [i], rfl, S3.mt, hl3, fun h => by simp at h, fun r2 i2 h H4 r4 t4 => ?_⟩
    obtain ⟨rfl, h2⟩ := List.append_inj' h rfl
    obtain rfl : i = i2 := by simpa using h2
    obtain ⟨k1, k2, k3, k4, k5⟩ := S3.tell r4 t4
    walk_at "lyM"
    refine x_sl ?_
    walk_at "lyM"
    refine x_noP ?_
    refine x_partE ?_
    walk_at "lyM"
    refine ⟨-1, rfl, ga, _, rfl, SqL.of k4, fun l6 n6 => ?_⟩
    rw [cut_last, show ((r ++ [i]).map V.int).dropLast = r.map V.int by simp]
    walk_at "lyM"
    have bd : Bd r := by
      have := S.bd.init
      simpa using this
    have hi : i.natAbs ≤ 10 ^ 22 := S.bd.le hl3 i (by simp)
    have hlr : r.length ≤ f.1.length := by
      have := S.len
      rw [List.length_append] at this
      omega
    exact q μ l6 r _ _ (.int i) _ _ _ _ rfl (ms_new S.pot0 k1 k2 k3 k5 S.nm S.nmt S.npd S.npl hlr bd n6) (.int _) (.int _) (sw_i hi)
theorem br_go (S : Ms K C Tt H0 p f d μ pl ga g H) (hv : Dp K H v (eX f)) (hd : DfD f d) (hn : f.1.length ≤ 3) (q : Bq K C Tt H0 p f d μ.m pl v u o4 o7 D) :
    tSeq (tAsg (tCall (sp_lnext K) [] E0 (tCons (tVar 1) (tCons (tVar 3) (tCons (tVar 6) tNil)))) (gName 8))
      (tSeq (tAsg (LamX.tLam Tt (TTh K ND NU INa) fun E => tMeth C "go" (sp_mgo C ND K) [] E (tVar 5) tNil) (gName 9))
        (tAsg (tOp rCat (tVar 6) (tIf (tB (tCB (rIsi K) (tCons (tVar 8) (tCons (tC (V.ty "int")) tNil)))) (tLst (tCons (tVar 8) tNil)) (tLst tNil))) (gName 6))) D
      [some (.ref p), some v, some u, some (.ref pl), o4, some (.ref μ.m), some (.ref ga), o7, o8, o9, o10, o11, o12] H := by
  have hl3 : g.length ≤ 3 := Nat.le_trans S.len hn
  walk_at "lyM"
  refine ⟨f, d, g, _, _, pl, rfl, hv, S.plans, ints_dp S.gl, hd, hn, S.len, fun xd H1 e1 hxd => ?_⟩
  have S1 := S.ex e1
  walk_at "lyM"
  refine x_heard S1.tb fun H3 e3 tb3 => ?_
  have S3 := S1.en e3 tb3
  have hxd3 := en_dp e3 hxd
  refine ⟨_, rfl, _, _, _, rfl, S3.mt.ins, lk_no (by decide +kernel), μ, f, d, g, rfl, S3.mt, hd, hn, S.len, fun hpl => ?_, fun pp hpl => ⟨fun i ht H4 r4 t4 => ?_, fun ht H4 e4 => ?_⟩⟩
  · have en : nextD (planAt f.1 d.1 d.2) g = .none := by
      unfold nextD
      rw [hpl]
    rw [en] at hxd3
    obtain rfl := Dp.non_inv hxd3
    walk_at "lyM"
    rename_i l H6 e6 n6 t6 c6
    have S6 := S3.ex e6
    refine ⟨ga, l, _, _, rfl, rfl, S6.gl, t6, by rw [List.length_map]; exact Nat.le_trans (Nat.add_le_add_right hl3 0) (by decide), fun l7 n7 => ?_⟩
    rw [List.append_nil]
    walk_at "lyM"
    exact q μ l7 g _ _ .none _ _ _ _ rfl (ms_new S.pot0 S6.rt S6.tb S6.mt S6.plans S.nm S.nmt S.npd S.npl S.len S.bd n7) .non .non sw_n
  · have en : nextD (planAt f.1 d.1 d.2) g = .int i := by
      unfold nextD
      rw [hpl]
      dsimp only
      rw [ht]
    rw [en] at hxd3
    obtain rfl := Dp.int_inv hxd3
    obtain ⟨k1, k2, k3, k4, k5⟩ := S3.tell r4 t4
    walk_at "lyM"
    rename_i l H6 e6 n6 t6 c6
    obtain ⟨k1, k2, k3, k4, k5⟩ := kex e6 ⟨k1, k2, k3, k4, k5⟩
    refine ⟨ga, l, _, _, rfl, rfl, k4, t6, by rw [List.length_map]; exact Nat.le_trans (Nat.add_le_add_right hl3 1) (by decide), fun l7 n7 => ?_⟩
    rw [show g.map V.int ++ [V.int i] = (g ++ [i]).map V.int by rw [List.map_append]; rfl]
    walk_at "lyM"
    have bd : Bd (g ++ [i]) := bd_tnum hd hn S.bd hpl ht
    have hlt := (planAt_some hpl).2
    exact q μ l7 (g ++ [i]) _ _ (.int i) _ _ _ _ rfl (ms_new S.pot0 k1 k2 k3 k5 S.nm S.nmt S.npd S.npl (by rw [List.length_append]; exact hlt) bd n7) (.int _) (.int _) (sw_i (bd.le (by rw [List.length_append]; exact Nat.le_trans hlt hn) i (by simp)))
  · have en : nextD (planAt f.1 d.1 d.2) g = .list [.str "not defended", .bool true] := by
      unfold nextD
      rw [hpl]
      dsimp only
      rw [ht]
    rw [en] at hxd3
    refine .inl ⟨rfl, rfl, fun xt H5 e5 ht5 => ?_⟩
    have S5 := (S3.ex e4).ex e5
    have hxd5 : Dp K H5 xd _ := R.xp (e4.trans e5) _ _ hxd3
    walk_at "lyM"
    rename_i l H6 e6 n6 t6 c6
    have S6 := S5.ex e6
    refine ⟨ga, l, _, _, rfl, rfl, S6.gl, t6, by rw [List.length_map]; exact Nat.le_trans (Nat.add_le_add_right hl3 0) (by decide), fun l7 n7 => ?_⟩
    rw [List.append_nil]
    walk_at "lyM"
    have e7 : Ex H6 (upd H6 l7 (.lst (g.map V.int))) := R.new n7
    exact q μ l7 g _ _ _ _ _ _ _ rfl (ms_new S.pot0 S6.rt S6.tb S6.mt S6.plans S.nm S.nmt S.npd S.npl S.len S.bd n7) (R.xp (e6.trans e7) _ _ hxd5) (R.xp (e6.trans e7) _ _ ht5) sw_nd
/-- another list, new, is written -/
theorem ms_late {la : Addr} {H1 : Hp} (S : Ms K C Tt H0 p f d μ pl ga g H) (n : H la = none) (r : RW [la] H H1) : Ms K C Tt H0 p f d μ pl ga g H1 :=
  have ex : ∀ a o, H a = some o → a ∉ [la] := fun a o h => by
    have := ne_of_none h n
    simpa using this
  have nl := S.fresh n
  { S with rt := S.step r (fun a h => by
             have : a = la := by simpa using h
             rw [this]; exact nl), tb := tabs_rw S.tb (N := []) ⟨fun a o _ h => r.keep a o (ex a o h) h, r.tups, r.frzs⟩ wr_nil, mt := S.mt.keep (fun a o _ h _ => r.keep a o (ex a o h) h) fun _ _ => r.sqt, gl := r.keep ga _ (ex _ _ S.gl) S.gl, plans := planD_keep S.plans (fun kvs h => r.keep _ _ (ex _ _ h) h) fun _ _ => r.sqt }
theorem br_goon (S : Ms K C Tt H0 p f d μ pl ga g H) (hv : Dp K H v (eX f)) (hd : DfD f d) (hn : f.1.length ≤ 3) (q : Bq K C Tt H0 p f d μ.m pl v u o4 o7 D) :
    tSeq (tAsg (tCB (rListK K) (tCons (tVar 6) tNil)) (gName 10)) (tSeq (tAsg (tCall (sp_lgoon K) [] E0 (tCons (tVar 1) (tCons (tVar 3) (tCons (tVar 10) tNil)))) (gName 8))
      (tSeq (tAsg (LamX.tLam Tt (TTh K ND NU INa) fun E => tMeth C "go_on" (sp_mgoon C ND K) [] E (tVar 5) tNil) (gName 9)) (tAsg (tIf (tB (tCB (rIsi K) (tCons (tVar 8) (tCons (tC (V.ty "int")) tNil)))) (tVar 10) (tVar 6)) (gName 6)))) D
      [some (.ref p), some v, some u, some (.ref pl), o4, some (.ref μ.m), some (.ref ga), o7, o8, o9, o10, o11, o12] H := by
  have hl3 : g.length ≤ 3 := Nat.le_trans S.len hn
  walk_at "lyM"
  refine x_listD (.inr (ints_dp S.gl)) ?_
  intro la xs H1 e1 nla tla hxs
  obtain rfl := dps_ints hxs
  walk_at "lyM"
  have r01 : RW [la] H H1 := .ofEx e1
  refine ⟨f, d, g, _, pl, la, rfl, R.xp e1 _ _ hv, (S.ex e1).plans, tla, hd, hn, S.len, fun g' hg' H2 r2 t2 => ?_, fun hg' xd H2 r2 t2 hxd => ?_⟩
  · have S2 := ms_late S nla (r01.trans r2)
    obtain ⟨b1, b2⟩ := goOn_len hg'
    have bd : Bd g' := bd_goOn hd hn S.bd hg'
    walk_at "lyM"
    refine x_heard S2.tb fun H3 e3 tb3 => ?_
    have S3 := S2.en e3 tb3
    have t3 := e3 la _ t2 fun ps z => by cases z
    refine ⟨_, rfl, _, _, _, rfl, S3.mt.ins, lk_no (by decide +kernel), μ, f, d, g, rfl, S3.mt, hd, hn, S.len, fun g2 hg2 H4 l4 n4 r4 i4 t4 => ?_, fun h => by rw [hg'] at h; cases h⟩
    rw [hg'] at hg2
    obtain rfl := Option.some.inj hg2
    obtain ⟨k1, k2, k3, k4, k5⟩ := S3.swap r4 i4 t4
    walk_at "lyM"
    have nlam : la ≠ μ.m := ne_of t3 S3.mt.ins fun z => by cases z
    have h4 : H4 la = some (.lst (g'.map V.int)) := r4.keep la _ (by simpa using nlam) t3
    have S4 : Ms K C Tt H0 p f d { μ with mt := l4 } pl la g' H4 := ⟨S.pot0, k1, k2, k3, h4, k5, S.nm, S3.fresh n4, S.npd, S.fresh nla, S.npl, ne_of_none t3 n4, by have := S.len; omega, bd⟩
    exact q { μ with mt := l4 } la g' _ _ (.int ((g'.length : Int) - g.length)) _ _ _ _ rfl S4 (.int _) (.int _) (sw_i (by omega))
  · obtain ⟨xs, t2⟩ := t2
    have S2 := ms_late S nla (r01.trans r2)
    walk_at "lyM"
    refine x_heard S2.tb fun H3 e3 tb3 => ?_
    have S3 := S2.en e3 tb3
    have hxd3 := en_dp e3 hxd
    refine ⟨_, rfl, _, _, _, rfl, S3.mt.ins, lk_no (by decide +kernel), μ, f, d, g, rfl, S3.mt, hd, hn, S.len, (fun g2 hg2 => by rw [hg'] at hg2; cases hg2), fun h H4 e4 => ?_⟩
    refine .inl ⟨rfl, rfl, fun xt H5 e5 ht5 => ?_⟩
    have S5 := (S3.ex e4).ex e5
    have hxd5 : Dp K H5 xd _ := R.xp (e4.trans e5) _ _ hxd3
    walk_at "lyM"
    exact q μ ga g _ _ _ _ _ _ _ rfl S5 hxd5 ht5 sw_nd
end
end K85

/-! ### text LH -/
namespace K85
open PySem PySem.Spec PyProof.Rows L2 Lay RZ



def picks : List PyData := [.int 0, .int 1, .int (-2), .int 7, .int (10 ^ 18), .int (10 ^ 18 + 1), .none, .bool true, .str "1", .tuple [.int 1]]
theorem picks_or {n : PyData} (h : n ∈ picks) : n = .int 0 ∨ n = .int 1 ∨ n = .int (-2) ∨ n = .int 7 ∨ n = .int (10 ^ 18) ∨ n = .int (10 ^ 18 + 1) ∨ n = .none ∨ n = .bool true ∨ n = .str "1" ∨ n = .tuple [.int 1] := by simpa [picks] using h
def swB (n : PyData) : Bool := n.showable && (n.leavesShort 100 && (decide (n.weight ≤ 100) && (decide (n.depth ≤ 2) && (PyData.leavesShort 100 (.str n.shown) && decide (n.shown.cps.size ≤ 100)))))
theorem picks_sw {n : PyData} (h : n ∈ picks) : Sw 100 n ∧ n.depth ≤ 2 ∧ Sw 100 (.str n.shown) := by
  have key : swB n = true := by
    rcases picks_or h with e | e | e | e | e | e | e | e | e | e <;> subst e <;> decide +kernel
  unfold swB at key
  simp only [Bool.and_eq_true, decide_eq_true_eq] at key
  obtain ⟨h1, h2, h3, h4, h5, h6⟩ := key
  exact ⟨⟨h1, h2, h3⟩, h4, Sw.str (by rw [h5, decide_eq_true h6]; rfl)⟩
theorem picks_im {n : PyData} (h : n ∈ picks) : im n = true := by
  rcases picks_or h with e | e | e | e | e | e | e | e | e | e <;> subst e <;> rfl
section
variable {K : PySem.W.Frag} {C ND NU INa : Addr} {Tt : List (Addr × Str)} {H0 H : Hp} {p : Addr} {f : Pre} {d : Df} {μ : MtA} {pl ga : Addr} {g : List Int} {v u : V} {o4 o7 o8 o9 o10 o11 o12 : Option V} {D : Ends}
def okI (n : PyData) : Option Int := match n with
  | .int i => if okN (.int i) = true then some i else none
  | _ => none
theorem sw_num {n : PyData} (h : n ∈ picks) : Sw 8000 (.list [.str "numbers", .str n.shown, .bool true]) ∧ (PyData.list [.str "numbers", .str n.shown, .bool true]).depth ≤ 8 := ⟨(Sw.lst (W := 100) (n := 3) (fun d hd => by
  have : d = .str "numbers" ∨ d = .str n.shown ∨ d = .bool true := by simpa using hd
  rcases this with e | e | e <;> subst e
  · exact Sw.str (by decide +kernel)
  · exact (picks_sw h).2.2
  · exact Sw.bl.mono (by decide)) (Nat.le_refl _)).mono (by decide), by simp [PyData.depth, PyData.depthAll]⟩
theorem x_islet {σ : L2.St} {x : V} {n : PyData} {Q : VK} (S : Ms K C Tt H0 p f d μ pl ga g H) (hv : Dp K H v (eX f)) (hd : DfD f d) (hx : Dp K H x n) (s1 : σ[1]? = some (some v)) (s3 : σ[3]? = some (some (.ref pl))) (s6 : σ[6]? = some (some (.ref ga))) (s11 : σ[11]? = some (some x)) (q : Q (.bl (letN f d g n).isSome) H) :
    tAndV (tOp (rI0 fun i j => V.bl (decide (i < j))) (tCB (rLenK K) (tCons (tVar 6) tNil)) (tCB (rLenK K) (tCons (tOp (rIxT K) (tVar 1) (tC (V.int 2))) tNil)))
      (tAndV (tDNotIn (tCB (rLenK K) (tCons (tVar 6) tNil)) (tVar 3)) (tAndV (tCB (rIsi K) (tCons (tVar 11) (tCons (tC (V.ty "int")) tNil))) (tAndV (tNotV (tCB (rIsi K) (tCons (tVar 11) (tCons (tC (V.ty "bool")) tNil))))
        (tOp (rI0 fun i j => V.bl (decide (i ≤ j))) (tCB rAbs1 (tCons (tVar 11) tNil)) (tOp (rI CPow fun i j => V.int (i ^ j.toNat)) (tC (V.int 10)) (tC (V.int 18))))))) σ H Q := by
  refine x_andV (x_op (x_cb (x_cons (x_var s6 (x_nil ?_)))))
  refine x_lenA S.gl ?_
  rw [List.length_map]
  refine x_cb (x_cons (x_op (x_var s1 (x_c (x_ixT (ds := [.str "prenex", .int 0, .tuple (f.1.map fun b => .str (kS b)), eF f.2]) hv rfl fun y hy => x_nil ?_)))))
  refine x_lenT hy ?_
  rw [List.length_map]
  refine x_I0 ⟨_, rfl, ?_⟩
  by_cases c : g.length < f.1.length
  · refine x_ifdT (by omega) ?_
    refine x_andV (x_dniE (x_cb (x_cons (x_var s6 (x_nil ?_)))))
    refine x_lenA S.gl ?_
    rw [List.length_map]
    refine x_var s3 ?_
    obtain ⟨kvs, k1, k2⟩ := planD_get S.plans hd.1 c
    refine ⟨pl, _, rfl, DGet.k (k := Sum.inl (g.length : Int)) k1, _, rfl, ?_⟩
    rcases k2 with ⟨k2, k3⟩ | ⟨pp, z, k2, k3, k4⟩
    · rw [k3]
      refine (if_pos rfl).mpr ?_
      have el : letN f d g n = okI n := by
        unfold letN
        rw [if_pos ⟨c, k2⟩]
        cases n <;> rfl
      rw [el] at q
      refine x_andV (x_cb (x_cons (x_var s11 (x_cons (x_c (x_nil ?_))))))
      refine x_isiI hx ⟨_, rfl, ?_⟩
      cases n with
      | int i =>
        refine (if_pos rfl).mpr ?_
        refine x_andV (x_notV (x_cb (x_cons (x_var s11 (x_cons (x_c (x_nil ?_)))))))
        refine x_isiB hx ⟨_, rfl, _, rfl, ?_⟩
        refine (if_pos rfl).mpr ?_
        obtain rfl := Dp.int_inv hx
        refine x_op (x_cb (x_cons (x_var s11 (x_nil ?_))))
        refine x_abs ?_
        refine x_op (x_c (x_c (x_I ⟨by decide, by decide, by decide⟩ ?_)))
        refine x_I0 ?_
        have e1 : (okI (.int i)).isSome = okN (.int i) := by
          show (if okN (.int i) = true then some i else none).isSome = okN (.int i)
          cases okN (.int i) <;> rfl
        rw [e1] at q
        exact q
      | bool b =>
        refine (if_pos rfl).mpr ?_
        refine x_andV (x_notV (x_cb (x_cons (x_var s11 (x_cons (x_c (x_nil ?_)))))))
        refine x_isiB hx ⟨_, rfl, _, rfl, ?_⟩
        refine (if_neg (by simp [isBo])).mpr ?_
        exact q
      | none => exact (if_neg (by simp [isI])).mpr q
      | str s => exact (if_neg (by simp [isI])).mpr q
      | list s => exact (if_neg (by simp [isI])).mpr q
      | tuple s => exact (if_neg (by simp [isI])).mpr q
      | dict s => exact (if_neg (by simp [isI])).mpr q
    · rw [k3]
      refine (if_neg (by simp)).mpr ?_
      have el : letN f d g n = none := by
        unfold letN
        rw [if_neg (by rw [k2]; simp)]
      rw [el] at q
      exact q
  · refine x_ifdF (by omega) ?_
    have el : letN f d g n = none := by
      unfold letN
      rw [if_neg (fun h => c h.1)]
    rw [el] at q
    exact q
theorem br_say2 {x : V} {n : PyData} (S : Ms K C Tt H0 p f d μ pl ga g H) (hv : Dp K H v (eX f)) (hd : DfD f d) (hn : f.1.length ≤ 3) (hx : Dp K H x n) (hp : n ∈ picks) (q : Bq K C Tt H0 p f d μ.m pl v u o4 o7 D) :
    tSeq (tAsg (tAndV (tOp (rI0 fun i j => V.bl (decide (i < j))) (tCB (rLenK K) (tCons (tVar 6) tNil)) (tCB (rLenK K) (tCons (tOp (rIxT K) (tVar 1) (tC (V.int 2))) tNil)))
      (tAndV (tDNotIn (tCB (rLenK K) (tCons (tVar 6) tNil)) (tVar 3)) (tAndV (tCB (rIsi K) (tCons (tVar 11) (tCons (tC (V.ty "int")) tNil))) (tAndV (tNotV (tCB (rIsi K) (tCons (tVar 11) (tCons (tC (V.ty "bool")) tNil))))
        (tOp (rI0 fun i j => V.bl (decide (i ≤ j))) (tCB rAbs1 (tCons (tVar 11) tNil)) (tOp (rI CPow fun i j => V.int (i ^ j.toNat)) (tC (V.int 10)) (tC (V.int 18)))))))) (gName 12))
      (tSeq (tAsg (tIf (tB (tVar 12)) (tOp (rI0 fun i j => V.int (i + j)) (tCB (rLenK K) (tCons (tVar 6) tNil)) (tC (V.int 1))) (tLst (tCons (tC (V.str "numbers")) (tCons (tCB (rRepr K) (tCons (tVar 11) tNil)) (tCons (tC (V.bl true)) tNil))))) (gName 8))
        (tSeq (tAsg (LamX.tLam Tt (TTh K ND NU INa) fun E => tMethK C "say" (["number"] : List Str).length (sp_msay C INa K) (fun us ws => us ++ ws) E (tVar 5) (tCons (tVar 11) tNil)) (gName 9))
          (tAsg (tOp rCat (tVar 6) (tIf (tB (tVar 12)) (tLst (tCons (tVar 11) tNil)) (tLst tNil))) (gName 6)))) D
      [some (.ref p), some v, some u, some (.ref pl), o4, some (.ref μ.m), some (.ref ga), o7, o8, o9, o10, some x, o12] H := by
  have hl3 : g.length ≤ 3 := Nat.le_trans S.len hn
  obtain ⟨sw1, sw2, sw3⟩ := picks_sw hp
  refine x_seq (x_asg ?_)
  refine x_islet S hv hd hx rfl rfl rfl rfl ?_
  cases hl : letN f d g n with
  | some i =>
    obtain ⟨c1, c2⟩ : g.length < f.1.length ∧ planAt f.1 d.1 d.2 g.length = none := by
      unfold letN at hl
      by_cases c : g.length < f.1.length ∧ planAt f.1 d.1 d.2 g.length = none
      · exact c
      · rw [if_neg c] at hl; cases hl
    have hni : n = .int i ∧ i.natAbs ≤ 10 ^ 18 := by
      unfold letN at hl
      rw [if_pos ⟨c1, c2⟩] at hl
      cases n with
      | int j =>
        dsimp only at hl
        by_cases c : okN (.int j) = true
        · rw [if_pos c] at hl
          obtain rfl := Option.some.inj hl
          have c' : (if j < 0 then -j else j) ≤ 1000000000000000000 := by simpa [okN] using c
          refine ⟨rfl, ?_⟩
          by_cases z : j < 0
          · rw [if_pos z] at c'; omega
          · rw [if_neg z] at c'; omega
        · rw [if_neg c] at hl; cases hl
      | _ => cases hl
    obtain ⟨rfl, hb⟩ := hni
    obtain rfl := Dp.int_inv hx
    walk_at "lyM"
    refine x_lenA S.gl ?_
    rw [List.length_map]
    walk_at "lyM"
    refine x_heard S.tb fun H3 e3 tb3 => ?_
    have S3 := S.en e3 tb3
    refine ⟨_, rfl, _, _, _, rfl, S3.mt.ins, lk_no (by decide +kernel), ?_⟩
    walk_at "lyM"
    refine ⟨rfl, μ, f, d, g, .int i, .int i, rfl, S3.mt, .int _, hd, hn, S.len, fun i2 hi2 H4 r4 t4 => ?_, (fun h => by rw [hl] at h; cases h)⟩
    rw [hl] at hi2
    obtain rfl := Option.some.inj hi2
    have kk := S3.tell r4 t4
    walk_at "lyM"
    rename_i l H6 e6 n6 t6 c6
    obtain ⟨k1, k2, k3, k4, k5⟩ := kex e6 kk
    refine ⟨ga, l, _, _, rfl, rfl, k4, t6, by rw [List.length_map]; exact Nat.le_trans (Nat.add_le_add_right hl3 1) (by decide), fun l7 n7 => ?_⟩
    rw [show g.map V.int ++ [V.int i] = (g ++ [i]).map V.int by rw [List.map_append]; rfl]
    walk_at "lyM"
    have bd : Bd (g ++ [i]) := S.bd.snoc (Nat.le_trans hb (Nat.le_mul_of_pos_right _ (Nat.pow_pos (by decide))))
    have hlt : g.length + 1 ≤ f.1.length := c1
    exact q μ l7 (g ++ [i]) _ _ (.int ((g.length : Int) + 1)) _ _ _ _ rfl (ms_new S.pot0 k1 k2 k3 k5 S.nm S.nmt S.npd S.npl (by rw [List.length_append]; exact hlt) bd n7) (.int _) (.int _) (sw_i (by omega))
  | none =>
    walk_at "lyM"
    refine ⟨x, n, rfl, hx, sw1.1, sw1.len (by decide), by omega, ?_⟩
    walk_at "lyM"
    rename_i l2 H2 e2 n2 t2 c2
    have S2 := S.ex e2
    refine x_heard S2.tb fun H3 e3 tb3 => ?_
    have S3 := S2.en e3 tb3
    have cd : Dp K H3 (.ref l2) (.list [.str "numbers", .str n.shown, .bool true]) := en_dp e3 (c2 K)
    have hx3 : Dp K H3 x n := en_dp e3 (R.xp e2 _ _ hx)
    refine ⟨_, rfl, _, _, _, rfl, S3.mt.ins, lk_no (by decide +kernel), ?_⟩
    walk_at "lyM"
    refine ⟨rfl, μ, f, d, g, x, n, rfl, S3.mt, hx3, hd, hn, S.len, (fun i2 hi2 => by rw [hl] at hi2; cases hi2), fun _ H4 dd e4 hdd => ?_⟩
    refine .inr (.inr ⟨dd, x, n, rfl, rfl, hdd, R.xp e4 _ _ hx3, sw1.1, sw1.len (by decide), by omega, fun xt H5 e5 ht5 => ?_⟩)
    have S5 := (S3.ex e4).ex e5
    have cd5 : Dp K H5 (.ref l2) _ := R.xp (e4.trans e5) _ _ cd
    walk_at "lyM"
    rename_i l H6 e6 n6 t6 c6
    have S6 := S5.ex e6
    refine ⟨ga, l, _, _, rfl, rfl, S6.gl, t6, by rw [List.length_map]; exact Nat.le_trans (Nat.add_le_add_right hl3 0) (by decide), fun l7 n7 => ?_⟩
    rw [List.append_nil]
    walk_at "lyM"
    have e7 : Ex H6 (upd H6 l7 (.lst (g.map V.int))) := R.new n7
    exact q μ l7 g _ _ _ _ _ _ _ rfl (ms_new S.pot0 S6.rt S6.tb S6.mt S6.plans S.nm S.nmt S.npd S.npl S.len S.bd n7) (R.xp (e6.trans e7) _ _ cd5) (R.xp (e6.trans e7) _ _ ht5) (sw_num hp)
theorem br_say {W : TS} (S : Ms K C Tt H0 p f d μ pl ga g H)
    (q : ∀ x n H', n ∈ picks → Dp K H' x n → R [p] H H' → Ms K C Tt H0 p f d μ pl ga g H' → W D [some (.ref p), some v, some u, some (.ref pl), o4, some (.ref μ.m), some (.ref ga), o7, o8, o9, o10, some x, o12] H') :
    tSeq (tAsg (tCall (sp_pick K) [] E0 (tCons (tVar 0) (tCons (tLst (tCons (tC (V.int 0)) (tCons (tC (V.int 1)) (tCons (tUn (rU fun i => V.int (-i)) (tC (V.int 2))) (tCons (tC (V.int 7)) (tCons (tOp (rI CPow fun i j => V.int (i ^ j.toNat)) (tC (V.int 10)) (tC (V.int 18)))
      (tCons (tOp (rI0 fun i j => V.int (i + j)) (tOp (rI CPow fun i j => V.int (i ^ j.toNat)) (tC (V.int 10)) (tC (V.int 18))) (tC (V.int 1))) (tCons (tC V.non) (tCons (tC (V.bl true)) (tCons (tC (V.str "1")) (tCons (tTup (tCons (tC (V.int 1)) tNil)) tNil))))))))))) tNil))) (gName 11)) W D
      [some (.ref p), some v, some u, some (.ref pl), o4, some (.ref μ.m), some (.ref ga), o7, o8, o9, o10, o11, o12] H := by
  walk_at "lyM"
  refine x_I ⟨by decide, by decide, by decide⟩ ?_
  walk_at "lyM"
  refine x_I ⟨by decide, by decide, by decide⟩ ?_
  walk_at "lyM"
  case lyq.K => exact K
  rename_i tp H1 e1 ct l H2 e2 n2 t2 cl
  have S2 := (S.ex e1).ex e2
  have hl : Dp K H2 (.ref l) (.list picks) := cl
  refine ⟨p, _, picks, rfl, S2.pot, ⟨hl, fresh_ne n2 (S.ex e1).pot, ims_of fun d hd => picks_im hd⟩, by decide, by decide, fun n x H' hn r hx => ?_⟩
  walk_at "lyM"
  exact q x n H' hn hx ((R.of (e1.trans e2)).trans r) (S2.draw r)
end
end K85

/-! ### text LI -/
namespace K85
open PySem PySem.Spec PyProof.Rows L2 Lay RZ



section
variable {P : Program} {w : World} {K : PySem.W.Frag} {mg : Str → Option Value} {base : Heap} {C : Addr}
theorem passN {X : Cx} {P : Program} {w : World} : Passes (L2.CX P w) X (fun _ _ _ => False) := fun _ _ _ _ _ _ _ ⟨_, _, _, _, _, _, _, _, _, _, _, _, z⟩ => z.elim
theorem init_kb (T : Top K w mg) (M : MtOk K mg C) : ∃ f fd, Mk K C f ∧ KBn K fd ["self", "prenex", "defence"] 1 ["defence", "prenex"] gInit gInit ∧ FnOk P w K mg base CX0 9 f fd ["self", "prenex", "defence"] (sp_minit C K) :=
  (cal_m_init T M).kb M.f_init (fun _ _ h h' => mk_uniq h h') kbn_init
def sp_mr (Tt : List (Addr × Str)) (K : PySem.W.Frag) : Sp := fun vs H Q _ => ∃ (p : Addr) (v u : V) (f : Pre) (d : Df), vs = [.ref p, v, u] ∧ PotAt H p ∧ Dp K H v (eX f) ∧ Dp K H u (eD d) ∧ DfD f d ∧ FmOk f.1.length f.2 ∧ f.2.deep ≤ 2 ∧ f.1.length ≤ 3 ∧ LamX.Tabs Tt H ∧ ∀ H', RT [p] H H' → LamX.Tabs Tt H' → Q (.bl true) H'
theorem x_mkKE {C : Addr} {n m : Nat} {sp : Sp} {gV : List V → List V → List V} {E : XK} {t tk : TA} {σ : L2.St} {H : Hp} {Q : VK} (q : t σ H fun vs H1 => tk σ H1 fun zs H2 => vs.length = n ∧ zs.length = m ∧ ∀ x dx, H2 x = none → H2 dx = none → dx ≠ x → sp (gV (.ref x :: vs) zs) (upd (upd H2 dx (.own x)) x (.ins C dx [])) (fun v H3 => v = .non ∧ Q (.ref x) H3) E) : tMakeK C n m sp gV E t tk σ H Q := q
structure Mw (K : PySem.W.Frag) (C : Addr) (Tt : List (Addr × Str)) (H0 : Hp) (p : Addr) (f : Pre) (d : Df) (μ : MtA) (la : Addr) (ans g : List Int) (H : Hp) : Prop where
  pot0 : PotAt H0 p
  rt : RT [p] H0 H
  tb : LamX.Tabs Tt H
  mt : MtAt K C H μ f d g
  ll : H la = some (.lst (ans.map V.int))
  nm : NewT H0 μ.m
  nmt : NewT H0 μ.mt
  npd : NewT H0 μ.pd
  ne : la ≠ μ.mt
  len : g.length ≤ f.1.length
theorem Mw.ex {C : Addr} {Tt : List (Addr × Str)} {H0 H H' : Hp} {p la : Addr} {f : Pre} {d : Df} {μ : MtA} {ans g : List Int} (S : Mw K C Tt H0 p f d μ la ans g H) (e : Ex H H') : Mw K C Tt H0 p f d μ la ans g H' :=
  { S with rt := S.rt.trans (.ofEx e), tb := tabs_rw S.tb (.ofEx e) wr_nil, mt := S.mt.ex e, ll := e.keep la _ (by simp) S.ll }
theorem Mw.en {C : Addr} {Tt : List (Addr × Str)} {H0 H H' : Hp} {p la : Addr} {f : Pre} {d : Df} {μ : MtA} {ans g : List Int} (S : Mw K C Tt H0 p f d μ la ans g H) (e : LamX.ExtN H H') (t : LamX.Tabs Tt H') : Mw K C Tt H0 p f d μ la ans g H' :=
  have r : RT [] H H' := .ofN e
  { S with rt := S.rt.trans (.ofN e), tb := t, mt := S.mt.keep (fun a o _ h n => e a o h n) fun _ _ => r.sqt, ll := e la _ S.ll (fun ps z => by cases z) }
theorem Mw.step {C : Addr} {Tt : List (Addr × Str)} {H0 H H' : Hp} {p la : Addr} {f : Pre} {d : Df} {μ : MtA} {ans g : List Int} {N : List Addr} (S : Mw K C Tt H0 p f d μ la ans g H) (r : RW N H H') (n : ∀ a ∈ N, NewT H0 a) : RT [p] H0 H' :=
  RT.step S.rt r (fun a h _ => n a h) fun q hq h => by
    have : q = p := by simpa using hq
    subst this
    exact pot_step h r fun z => (n _ z).pot S.pot0 rfl
theorem Mw.tell {C : Addr} {Tt : List (Addr × Str)} {H0 H H' : Hp} {p la : Addr} {f : Pre} {d : Df} {μ : MtA} {ans g ms : List Int} (S : Mw K C Tt H0 p f d μ la ans g H) (r : RW [μ.mt] H H') (t : H' μ.mt = some (.lst (ms.map V.int))) (hl : ms.length ≤ f.1.length) : Mw K C Tt H0 p f d μ la ans ms H' :=
  ⟨S.pot0, S.step r (fun a h => by
    have : a = μ.mt := by simpa using h
    rw [this]; exact S.nmt), tabs_rw S.tb r (wr_lst S.mt.told), S.mt.tell r t, r.keep la _ (by simpa using S.ne) S.ll, S.nm, S.nmt, S.npd, S.ne, hl⟩
theorem Mw.swap {C : Addr} {Tt : List (Addr × Str)} {H0 H H' : Hp} {p la l : Addr} {f : Pre} {d : Df} {μ : MtA} {ans g ms : List Int} (S : Mw K C Tt H0 p f d μ la ans g H) (nl : H l = none) (r : RW [μ.m] H H') (i : H' μ.m = some (.ins C μ.dx (mfs μ.vf μ.vd μ.pd l))) (t : H' l = some (.lst (ms.map V.int))) (hl : ms.length ≤ f.1.length) : Mw K C Tt H0 p f d { μ with mt := l } la ans ms H' :=
  ⟨S.pot0, S.step r (fun a h => by
    have : a = μ.m := by simpa using h
    rw [this]; exact S.nm), tabs_rw S.tb r (wr_ins S.mt.ins), S.mt.swap r i t, r.keep la _ (by
    have := ne_of S.ll S.mt.ins fun z => by cases z
    simpa using this) S.ll, S.nm, S.rt.newT (NewT.of nl) (by
    intro z
    have : l = p := by simpa using z
    obtain ⟨_, _, _, e⟩ := S.rt.pots p (by simp) S.pot0
    rw [← this, nl] at e
    cases e), S.npd, ne_of_none S.ll nl, hl⟩
theorem cal__law_whole_right (T : Top K w mg) (M : MtOk K mg C) {c Pt ND NU INa SE BE fI : Addr} {fdI : FuncData} {Tt : List (Addr × Str)} (F : IsDefC K mg "_law_whole_right" s__law_whole_right c) (TB : LamX.TabB base mg c Pt) (S : Exs K mg ND NU INa SE BE)
    (Nd : ExcOk K mg "NotDefended" ND) (Nu : ExcOk K mg "NothingToUndo" NU) (In : InvOk P w K mg base INa fI fdI) (hmT : (Pt, (envOfC "_law_whole_right" (defScope s__law_whole_right) 0 0 .none).qual ++ "<lambda>") ∈ Tt) (hu : ∀ p ∈ Tt, p.1 = Pt → p.2 = (envOfC "_law_whole_right" (defScope s__law_whole_right) 0 0 .none).qual ++ "<lambda>") :
    CalG P w K mg base "_law_whole_right" ["pot", "form", "defence"] 20 (sp_mr Tt K) := by
  refine calC_of F sc__law_whole_right ?len (fun _ _ _ _ _ _ us hl => match us, hl with | [_, _, _], _ => rfl) (fun f A outer s H vs Q E hgd hr h => ⟨_, (pss_cons (ps_set (i := 3) sc__law_whole_right.nd rfl (by first | exact Or.inl rfl | exact Or.inr rfl) (pe_mkK (init_kb T M) pass0 (hr.mono (by omega)) M.m (pk_cons (pv 2) (pk_cons (pv 1) pk_nil))))
      (pss_cons (ps_set (i := 4) sc__law_whole_right.nd rfl (by first | exact Or.inl rfl | exact Or.inr rfl) (pe_lc (own := [("turn", 7)]) (g := (gName 7)) rfl sc__law_whole_right.nd (pi_range1 rfl T.b_range (pa_cons (pe_op op_sub (pe_callB call_lenK rfl T.b_len PySem.boot_len (pa_cons (pe_ix ix_tupK (pv 1) pe_int (fun _ _ => rfl)) pa_nil)) (pe_callB call_lenK rfl T.b_len PySem.boot_len (pa_cons (pe_ix ix_tupK (pv 2) pe_int (fun _ _ => rfl)) pa_nil))) pa_nil)) (blkOk_by (by show blkC ["pot", "form", "defence", "match", "answers", "due", "number", "turn"] (defScope s__law_whole_right) _ _ = true; decide +kernel)) (fun _ _ _ _ _ => (pg_name (i := 7) sc__law_whole_right.nd rfl (by first | exact Or.inl rfl | exact Or.inr rfl))) (fun _ _ _ _ _ => pts_nil) (fun _ _ _ _ _ => (pe_op op_sub (pe_def (cal__law_draw T) (hr.mono (by omega)) (pa_cons (pv 0) (pa_cons pe_int pa_nil))) pe_int))))
      (pss_cons (ps_set (i := 5) sc__law_whole_right.nd rfl (by first | exact Or.inl rfl | exact Or.inr rfl) (pe_def (cal__law_play T) (hr.mono (by omega)) (pa_cons (pv 1) (pa_cons (pv 2) (pa_cons (pv 4) pa_nil)))))
      (pss_cons (ps_if (pt_cmpR op_isN (pv 5) pe_non (nomark _)) (pss_one (ps_ret (pe_cmpR (op_eqDK hr.units) (pe_heard (k := 9) (sc := defScope s__law_whole_right) (Tt := Tt) T (by exact hgd) S TB rfl hmT hu (hr.mono (by omega)) (fun A outer s H E f c' hr' => pe_defX (cal_played T Nd) passLP (hr'.mono (by omega)) (pa_cons (pv 1) (pa_cons (pv 2) (pa_cons (pv 4) pa_nil))))) (pe_lst (pa_cons pe_str (pa_cons pe_bl pa_nil))) (nomark _)))) pss_nil)
      (pss_cons (ps_expr (pe_mth0 (cal_m_go_on T M Nd) M.cl passN (hr.mono (by omega)) (pv 3)))
      (pss_cons (ps_for PassesOwn.never rfl (pi_list (pv 4)) (pg_name (i := 6) sc__law_whole_right.nd rfl (by first | exact Or.inl rfl | exact Or.inr rfl)) (pss_cons (ps_expr (pe_mth (cal_m_say T M In) M.cl passN (hr.mono (by omega)) (pv 3) (pa_cons (pv 6) pa_nil)))
      (pss_one (ps_expr (pe_mth0 (cal_m_go_on T M Nd) M.cl passN (hr.mono (by omega)) (pv 3))))))
      (pss_one (ps_ret (pe_and (pe_cmpR (op_eqDK hr.units) (pe_mth0 (cal_m_numbers T M) M.cl pass0 (hr.mono (by omega)) (pv 3)) (pv 5) (nomark _)) (pe_and (pe_cmpR (op_eqDK hr.units) (pe_defX (cal_played T Nd) passN (hr.mono (by omega)) (pa_cons (pv 1) (pa_cons (pv 2) (pa_cons (pv 4) pa_nil)))) (pv 5) (nomark _)) (pe_one (pe_cmpR op_eq (pe_mth0 (cal_m_winner T M) M.cl pass0 (hr.mono (by omega)) (pv 3)) (pe_ifExp (pt_val (pe_def (cal__law_is_so T 2) (hr.mono (by omega)) (pa_cons (pe_ix ix_tupK (pv 1) pe_int (fun _ _ => rfl)) (pa_cons (pv 5) pa_nil)))) pe_str pe_str) (nomark _))))))))))))), ?_⟩)
  case len => intro vs H Q E h; obtain ⟨_, _, _, _, _, rfl, _⟩ := h; rfl
  obtain ⟨p, v, u, f, ⟨b, ps⟩, rfl, hp, hv, hud, hd, hf, hdp, hn, tb, q⟩ := h
  have hlen : ps.length = (ownF 0 b f.1).length := hd.1
  have hol := ownF_len b f.1 0
  have hboth := ownF_both b f.1 0
  walk_at "lyM"
  refine x_mkKE ?_
  walk_at "lyM"
  refine ⟨rfl, rfl, fun m dx nm ndx nex => ?_⟩
  have e1 : Ex H (upd (upd H dx (.own m)) m (.ins C dx [])) := (R.new ndx).trans (R.new (by rw [upd_ne nex.symm]; exact nm))
  refine ⟨f, (b, ps), m, dx, v, u, rfl, upd_same, R.xp e1 _ _ hv, R.xp e1 _ _ hud, hd, hn, fun μ H2 hμ nmt npd r2 hm => ⟨rfl, ?_⟩⟩
  have rt2 : RT [p] H H2 := RT.step (RT.ofEx e1) r2 (fun a h _ => by
    have : a = m := by simpa using h
    rw [this]
    exact NewT.of nm) fun q hq h => by
    have hqp : q = p := by simpa using hq
    rw [hqp] at h ⊢
    refine pot_step h r2 fun z => ?_
    have hqm : p = m := by simpa using z
    obtain ⟨_, _, _, e⟩ := hp
    rw [hqm, nm] at e
    cases e
  have tb2 : LamX.Tabs Tt H2 := tabs_rw (tabs_rw tb (.ofEx e1) wr_nil) r2 (wr_ins upd_same)
  subst hμ
  have hp2 : PotAt H2 p := rt2.pots p (by simp) hp
  have hv2 : Dp K H2 v (.tuple [.str "prenex", .int 0, .tuple (f.1.map fun b => .str (kS b)), eF f.2]) := (show Dp K H2 v (eX f) from rt2.dp hv (im_X f))
  have hu2 : Dp K H2 u (.tuple [.str "defence", .str (sS b), .tuple (ps.map eP)]) := (show Dp K H2 u (eD (b, ps)) from rt2.dp hud (im_D _))
  walk_at "lyM"
  have ec : ((f.1.map fun b => PyData.str (kS b)).length : Int) - ((ps.map eP).length : Nat) = ((f.1.length - ps.length : Nat) : Int) := by
    rw [List.length_map, List.length_map]
    omega
  refine ⟨_, rfl, by rw [ec]; omega, by rw [ec]; omega, ?_⟩
  rw [ec, Int.toNat_natCast]
  refine x_lcG (K := K) (M := [p]) dw_range (pot_ne hp2) (fun i es => ∃ as : List Int, es = as.map PyData.int ∧ as.length = i ∧ ∀ a ∈ as, -10 ≤ a ∧ a ≤ 10) ⟨[], rfl, rfl, by simp⟩ ?_ ?_
  · intro D i x es H3 H4 hi Sc r hx
    obtain rfl := Dp.int_inv hx
    obtain ⟨as, g1, g2, g3⟩ := Sc.inv
    have hp4 : PotAt H4 p := r.pots p (by simp) (Sc.r.pots p (by simp) hp2)
    walk_at "lyM"
    refine ⟨rfl, ?_⟩
    walk_at "lyM"
    refine x_draw hp4 (by decide) (by decide) fun a H5 a0 a1 r5 p5 => ?_
    walk_at "lyM"
    have ee : es ++ [PyData.int (a - 10)] = (as ++ [a - 10]).map PyData.int := by rw [g1, List.map_append]; rfl
    refine lcY Sc (r.trans r5) (.int _) ⟨as ++ [a - 10], ee, by rw [List.length_append, g2]; rfl, fun z hz => ?_⟩ (by rw [ee]; exact ims_ints _) (by omega)
    rcases List.mem_append.mp hz with h | h
    · exact g3 z h
    · have : z = a - 10 := by simpa using h
      omega
  · intro es la acc H3 hI r3 m1 m2 m3
    obtain ⟨ans, rfl, g2, g3⟩ := hI
    obtain rfl := dps_ints m3
    have npm : ∀ a, NewT H a → a ∉ [p] := fun a h z => h.pot hp (List.mem_singleton.mp z).symm
    have hnm := NewT.of nm
    have hnmt := NewT.of (R.exfree e1 nmt)
    have hnpd := NewT.of (R.exfree e1 npd)
    have S3 : Mw K C Tt H p f (b, ps) μ la ans [] H3 := ⟨hp, rt2.trans (.ofR r3), tabs_rw tb2 (.ofR r3) (wr_pot hp2), hm.keep (fun a o ha h _ => r3.keep a o (npm a (by rcases ha with e | e | e <;> (subst e; first | exact hnm | exact hnmt | exact hnpd))) h) fun _ _ => r3.sqt, m2, hnm, hnmt, hnpd, (ne_of_none hm.told m1).symm, Nat.zero_le _⟩
    have hal : ans.length = (ownF 0 (!b) f.1).length := by omega
    have hok : (ans.map PyData.int).all okN = true := by
      rw [List.all_eq_true]
      intro x hx
      obtain ⟨a, ha, rfl⟩ := List.mem_map.mp hx
      obtain ⟨a1, a2⟩ := g3 a ha
      simp only [okN, decide_eq_true_eq]
      by_cases z : a < 0
      · rw [if_pos z]; omega
      · rw [if_neg z]; omega
    walk_at "lyM"
    refine ⟨f, (b, ps), ans, _, _, _, rfl, S3.rt.dp hv (im_X f), S3.rt.dp hud (im_D _), ints_dp S3.ll, hd, hn, fits_0 hal, fun x H4 e4 hx => ?_⟩
    have S4 := S3.ex e4
    cases hpl : playD f (b, ps) ans with
    | none =>
      rw [hpl] at hx
      obtain rfl := Dp.non_inv hx
      walk_at "lyM"
      refine ⟨rfl, ?_⟩
      walk_at "lyM"
      refine x_heard S4.tb fun H5 e5 tb5 => ?_
      have S5 := S4.en e5 tb5
      walk_at "lyM"
      refine ⟨f, (b, ps), ans, _, _, _, rfl, S5.rt.dp hv (im_X f), S5.rt.dp hud (im_D _), ints_dp S5.ll, hd, hn, hal, hok, (fun g hg => by rw [hpl] at hg; cases hg), fun _ H6 e6 => .inl ⟨rfl, rfl, fun xt H7 e7 ht => ?_⟩⟩
      have S7 := (S5.ex e6).ex e7
      walk_at "lyM"
      rename_i l H8 e8 n8 t8 c8
      refine ⟨.list [.str "not defended", .bool true], .list [.str "not defended", .bool true], R.xp e8 _ _ ht, c8 K, by decide +kernel, by decide +kernel, ?_⟩
      rw [show PyData.eqv (.list [.str "not defended", .bool true]) (.list [.str "not defended", .bool true]) = true by decide +kernel]
      exact q _ (S7.ex e8).rt (S7.ex e8).tb
    | some res =>
      rw [hpl] at hx
      have hx' : Dp K H4 x (.tuple (res.map PyData.int)) := hx
      obtain ⟨a2, xs2, rfl, hq2, hd2⟩ := Dp.tup_inv hx'
      walk_at "lyM"
      refine ⟨rfl, ?_⟩
      walk_at "lyM"
      have hpl' : playN (planAt f.1 b ps) f.1.length [] ans = some res := hpl
      obtain ⟨g0, h1, _, h3, h4, h5⟩ := play_go _ _ _ _ _ hpl'
      have h1' : goOn (planAt f.1 b ps) (f.1.length - ([] : List Int).length) [] = some g0 := h1
      have h3' : g0.length ≤ f.1.length := by simpa using h3
      have h4' : playN (planAt f.1 b ps) (f.1.length - g0.length) g0 ans = some res := by simpa using h4
      have h5' : g0.length = f.1.length ∨ planAt f.1 b ps g0.length = none := by simpa using h5
      refine ⟨_, rfl, _, _, _, rfl, S4.mt.ins, lk_no (by decide +kernel), μ, f, (b, ps), [], rfl, S4.mt, hd, hn, Nat.zero_le _, fun g' hg' H5 l5 n5 r5 i5 t5 => ?_, (fun h => by rw [h1'] at h; cases h)⟩
      rw [h1'] at hg'
      obtain rfl := Option.some.inj hg'
      have S5 := S4.swap n5 r5 i5 t5 h3'
      have hx5 : Dp K H5 (.ref a2) (.tuple (res.map PyData.int)) := r5.dp hx' (by simp [im, ims_ints])
      walk_at "lyM"
      refine ⟨la, rfl, ⟨_, SqL.of S5.ll⟩, ?_⟩
      refine for_list (K := K) (a := la) (xs := ans.map V.int) (fun i σ H' => ∃ μ g o6, σ = [some (.ref p), some v, some u, some (.ref μ.m), some (.ref la), some (.ref a2), o6, none] ∧ Mw K C Tt H p f (b, ps) μ la ans g H' ∧ Dp K H' (.ref a2) (.tuple (res.map PyData.int)) ∧ playN (planAt f.1 b ps) (f.1.length - g.length) g (ans.drop i) = some res ∧ (g.length = f.1.length ∨ planAt f.1 b ps g.length = none))
        ⟨{ μ with mt := l5 }, g0, none, rfl, S5, hx5, h4', h5'⟩ (fun i σ H' _ ⟨_, _, _, _, S, _⟩ => SqL.of S.ll) ?_ ?_
      · intro i x σ H6 hi ⟨μ, g, o6, hσ, S, hxx, hpn, hst⟩
        subst hσ
        obtain ⟨a, ha, rfl⟩ : ∃ a, ans[i]? = some a ∧ x = V.int a := by
          rw [List.getElem?_map] at hi
          cases e : ans[i]? with
          | none => rw [e] at hi; cases hi
          | some a => rw [e] at hi; exact ⟨a, rfl, (Option.some.inj hi).symm⟩
        have hil := (List.getElem?_eq_some_iff.mp ha).1
        have hdr : ans.drop i = a :: ans.drop (i + 1) := by
          rw [List.drop_eq_getElem_cons hil]
          congr 1
          exact (List.getElem?_eq_some_iff.mp ha).2
        rw [hdr] at hpn
        have hlt : g.length < f.1.length := by
          have := S.len
          rcases Nat.lt_or_ge g.length f.1.length with z | z
          · exact z
          · rw [show f.1.length - g.length = 0 by omega] at hpn
            unfold playN at hpn
            rw [if_neg (by simp)] at hpn
            cases hpn
        have hnone : planAt f.1 b ps g.length = none := by
          rcases hst with z | z
          · omega
          · exact z
        have em : f.1.length - g.length = (f.1.length - (g.length + 1)) + 1 := by omega
        rw [em] at hpn
        unfold playN at hpn
        rw [hnone] at hpn
        dsimp only at hpn
        obtain ⟨a1, a3⟩ := g3 a (List.mem_of_getElem? ha)
        have hlet : letN f (b, ps) g (.int a) = some a := by
          unfold letN
          rw [if_pos ⟨hlt, hnone⟩]
          dsimp only
          rw [if_pos]
          simp only [okN, decide_eq_true_eq]
          by_cases z : a < 0
          · rw [if_pos z]; omega
          · rw [if_neg z]; omega
        walk_at "lyM"
        refine ⟨_, rfl, _, _, _, rfl, S.mt.ins, lk_no (by decide +kernel), ?_⟩
        walk_at "lyM"
        refine ⟨μ, f, (b, ps), g, .int a, .int a, rfl, S.mt, .int _, hd, hn, S.len, fun i2 hi2 H7 r7 t7 => ?_, (fun h => by rw [hlet] at h; cases h)⟩
        rw [hlet] at hi2
        obtain rfl := Option.some.inj hi2
        have S7 := S.tell r7 t7 (by rw [List.length_append]; exact hlt)
        have hx7 : Dp K H7 (.ref a2) (.tuple (res.map PyData.int)) := r7.dp hxx (by simp [im, ims_ints])
        obtain ⟨g2, k1, k2, k3, k4, k5⟩ := play_go _ _ _ _ _ hpn
        have hgl : (g ++ [a]).length = g.length + 1 := by simp
        have k1' : goOn (planAt f.1 b ps) (f.1.length - (g ++ [a]).length) (g ++ [a]) = some g2 := by rw [hgl]; exact k1
        rw [hgl] at k2 k3 k4 k5
        walk_at "lyM"
        refine ⟨_, rfl, _, _, _, rfl, S7.mt.ins, lk_no (by decide +kernel), μ, f, (b, ps), g ++ [a], rfl, S7.mt, hd, hn, S7.len, fun g' hg' H8 l8 n8 r8 i8 t8 => ?_, (fun h => by rw [k1'] at h; cases h)⟩
        rw [k1'] at hg'
        obtain rfl := Option.some.inj hg'
        have S8 := S7.swap n8 r8 i8 t8 (by omega)
        refine ⟨{ μ with mt := l8 }, g2, _, rfl, S8, r8.dp hx7 (by simp [im, ims_ints]), ?_, ?_⟩
        · rw [show f.1.length - g2.length = f.1.length - (g.length + 1) - (g2.length - (g.length + 1)) by omega]
          exact k4
        · rcases k5 with z | z
          · exact .inl (by omega)
          · exact .inr z
      · intro σ H6 ⟨μ, g, o6, hσ, S, hxx, hpn, hst⟩
        subst hσ
        rw [List.length_map, List.drop_length] at hpn
        obtain ⟨rfl, hgn⟩ : g = res ∧ g.length = f.1.length := by
          have hlen := S.len
          cases hm : f.1.length - g.length with
          | zero =>
            rw [hm] at hpn
            unfold playN at hpn
            rw [if_pos rfl] at hpn
            exact ⟨Option.some.inj hpn, by omega⟩
          | succ m =>
            rw [hm] at hpn
            unfold playN at hpn
            have hnone : planAt f.1 b ps g.length = none := by
              rcases hst with z | z
              · omega
              · exact z
            rw [hnone] at hpn
            cases hpn
        have sh : SeqAt.shaped (.tuple (g.map PyData.int)) = true := ((sh_ints g).mono (by decide)).ok
        have er : PyData.eqv (.tuple (g.map PyData.int)) (.tuple (g.map PyData.int)) = true := SeqAt.eqv_refl _ (sh_ints g).1
        walk_at "lyM"
        refine x_mnum S.mt rfl fun y1 H7 e7 y7 => ?_
        have S7 := S.ex e7
        walk_at "lyM"
        refine ⟨_, _, y7, R.xp e7 _ _ hxx, sh, sh, _, rfl, ?_⟩
        rw [er]
        refine (if_pos rfl).mpr ?_
        walk_at "lyM"
        refine ⟨f, (b, ps), ans, _, _, _, rfl, S7.rt.dp hv (im_X f), S7.rt.dp hud (im_D _), ints_dp S7.ll, hd, hn, hal, hok, fun g' hg' y2 H8 e8 y8 => ?_, (fun h => by rw [hpl] at h; cases h)⟩
        rw [hpl] at hg'
        obtain rfl := Option.some.inj hg'
        have S8 := S7.ex e8
        walk_at "lyM"
        refine ⟨_, _, y8, R.xp (e7.trans e8) _ _ hxx, sh, sh, _, rfl, ?_⟩
        rw [er]
        refine (if_pos rfl).mpr ?_
        walk_at "lyM"
        refine x_mwin S8.mt hf hdp rfl fun y3 H9 e9 y9 => ?_
        have S9 := S8.ex e9
        have ew : winD f g = .str (sS (fh g f.2)) := by
          unfold winD
          rw [if_pos hgn]
        rw [ew] at y9
        obtain rfl := Dp.str_inv y9
        have hv9 : Dp K H9 v (.tuple [.str "prenex", .int 0, .tuple (f.1.map fun b => .str (kS b)), eF f.2]) := (show Dp K H9 v (eX f) from S9.rt.dp hv (im_X f))
        walk_at "lyM"
        refine ⟨f.2, g, _, _, rfl, by assumption, .inl (R.xp (e7.trans (e8.trans e9)) _ _ hxx), hgn ▸ hf, hdp, fun H10 e10 => ⟨_, rfl, ?_⟩⟩
        have S10 := S9.ex e10
        cases hfh : fh g f.2 with
        | true =>
          refine (if_pos rfl).mpr ?_
          refine x_c ?_
          refine x_eqT rfl (by decide +kernel) ?_
          exact q _ S10.rt S10.tb
        | false =>
          refine (if_neg (by simp)).mpr ?_
          refine x_c ?_
          refine x_eqT rfl (by decide +kernel) ?_
          exact q _ S10.rt S10.tb
end
end K85

/-! ### text LF -/
namespace K85
open PySem PySem.Spec PyProof.Rows L2 Lay RZ



section
variable {P : Program} {w : World} {K : PySem.W.Frag} {mg : Str → Option Value} {base : Heap} {C : Addr}
def sp_msayK (C INa : Addr) (K : PySem.W.Frag) : Sp := sp_msay C INa K
theorem say_kb (T : Top K w mg) (M : MtOk K mg C) {INa fI : Addr} {fdI : FuncData} (IN : InvOk P w K mg base INa fI fdI) : ∃ f fd, Meth K C "say" f ∧ KBn K fd ["self", "number"] 1 ["number"] (fun us ws => us ++ ws) (fun us ws => us ++ ws) ∧ FnOk P w K mg base (L2.CX P w) 4 f fd ["self", "number"] (sp_msay C INa K) :=
  (cal_m_say T M IN).kb M.f_say (fun _ _ h h' => meth_uniq h h') kbn_say
theorem x_mkE {C : Addr} {sp : Sp} {dvs : List V} {E : XK} {t : TA} {σ : L2.St} {H : Hp} {Q : VK} (q : t σ H fun vs H1 => ∀ x dx, H1 x = none → H1 dx = none → dx ≠ x → sp (.ref x :: (vs ++ dvs)) (upd (upd H1 dx (.own x)) x (.ins C dx [])) (fun v H2 => v = .non ∧ Q (.ref x) H2) E) : tMake C sp dvs E t σ H Q := q
theorem cal__law_match_right (T : Top K w mg) (M : MtOk K mg C) {c Pt ND NU INa SE BE fI : Addr} {fdI : FuncData} {Tt : List (Addr × Str)} (F : IsDefC K mg "_law_match_right" s__law_match_right c) (TB : LamX.TabB base mg c Pt) (S : Exs K mg ND NU INa SE BE)
    (Nd : ExcOk K mg "NotDefended" ND) (Nu : ExcOk K mg "NothingToUndo" NU) (In : InvOk P w K mg base INa fI fdI) (hmT : (Pt, (envOfC "_law_match_right" (defScope s__law_match_right) 0 0 .none).qual ++ "<lambda>") ∈ Tt) (hu : ∀ p ∈ Tt, p.1 = Pt → p.2 = (envOfC "_law_match_right" (defScope s__law_match_right) 0 0 .none).qual ++ "<lambda>")
    (Wh : CalG P w K mg base "_law_whole_right" ["pot", "form", "defence"] 20 (sp_mr Tt K)) : CalG P w K mg base "_law_match_right" ["pot", "form", "defence"] 21 (sp_mr Tt K) := by
  refine calC_of F sc__law_match_right ?len (fun _ _ _ _ _ _ us hl => match us, hl with | [_, _, _], _ => rfl) (fun f A outer s H vs Q E hgd hr h => ⟨_, (pss_cons (ps_asg (pe_tup (pa_cons (pe_mk (cal_m_init T M) pass0 (hr.mono (by omega)) M.m (pa_cons (pv 1) (pa_cons (pv 2) pa_nil))) (pa_cons (pe_lst pa_nil) pa_nil))) (pg_tup rfl (pgs_cons (pg_name (i := 5) sc__law_match_right.nd rfl (by first | exact Or.inl rfl | exact Or.inr rfl)) (pgs_cons (pg_name (i := 6) sc__law_match_right.nd rfl (by first | exact Or.inl rfl | exact Or.inr rfl)) pgs_nil))))
      (pss_cons (ps_set (i := 3) sc__law_match_right.nd rfl (by first | exact Or.inl rfl | exact Or.inr rfl) (pe_callTy (call_dictP rfl) rfl T.b_dict (by decide +kernel) (pa_cons (pe_listZip rfl (pa_cons (pe_def (cal__law_own T) (hr.mono (by omega)) (pa_cons (pv 1) (pa_cons (pe_ix ix_tupK (pv 2) pe_int (fun _ _ => rfl)) pa_nil))) (pa_cons (pe_ix ix_tupK (pv 2) pe_int (fun _ _ => rfl)) pa_nil)) rfl T.b_list rfl T.b_zip) pa_nil)))
      (pss_cons (ps_for PassesOwn.never rfl (pi_range1 rfl T.b_range (pa_cons pe_int pa_nil)) (pg_name (i := 4) sc__law_match_right.nd rfl (by first | exact Or.inl rfl | exact Or.inr rfl)) (pss_cons (ps_set (i := 7) sc__law_match_right.nd rfl (by first | exact Or.inl rfl | exact Or.inr rfl) (pe_def (cal__law_draw T) (hr.mono (by omega)) (pa_cons (pv 0) (pa_cons pe_int pa_nil))))
      (pss_cons (ps_if (pt_cmpR op_eq (pv 7) pe_int (nomark _)) (pss_cons (ps_set (i := 8) sc__law_match_right.nd rfl (by first | exact Or.inl rfl | exact Or.inr rfl) (pe_ifExp (pt_cmpR (op_neDK hr.units) (pv 6) (pe_lst pa_nil) (nomark _)) (pe_ix ix_listK (pv 6) (pe_un un_neg pe_int) (fun _ _ => rfl)) (pe_lst (pa_cons pe_str (pa_cons pe_bl pa_nil)))))
      (pss_cons (ps_set (i := 9) sc__law_match_right.nd rfl (by first | exact Or.inl rfl | exact Or.inr rfl) (pe_heard (k := 9) (sc := defScope s__law_match_right) (Tt := Tt) T (by exact hgd) S TB rfl hmT hu (hr.mono (by omega)) (fun A outer s H E f c' hr' => pe_mth0 (cal_m_back T M Nu) M.cl passLP (hr'.mono (by omega)) (pv 5))))
      (pss_one (ps_set (i := 6) sc__law_match_right.nd rfl (by first | exact Or.inl rfl | exact Or.inr rfl) (pe_slice sl_list (pv 6) po_none (po_some (pe_un un_neg pe_int))))))) (pss_one (ps_if (pt_cmpR op_lt (pv 7) pe_int (nomark _)) (pss_cons (ps_set (i := 8) sc__law_match_right.nd rfl (by first | exact Or.inl rfl | exact Or.inr rfl) (pe_def (cal__law_next T) (hr.mono (by omega)) (pa_cons (pv 1) (pa_cons (pv 3) (pa_cons (pv 6) pa_nil)))))
      (pss_cons (ps_set (i := 9) sc__law_match_right.nd rfl (by first | exact Or.inl rfl | exact Or.inr rfl) (pe_heard (k := 9) (sc := defScope s__law_match_right) (Tt := Tt) T (by exact hgd) S TB rfl hmT hu (hr.mono (by omega)) (fun A outer s H E f c' hr' => pe_mth0 (cal_m_go T M Nd) M.cl passLP (hr'.mono (by omega)) (pv 5))))
      (pss_one (ps_set (i := 6) sc__law_match_right.nd rfl (by first | exact Or.inl rfl | exact Or.inr rfl) (pe_op op_cat (pv 6) (pe_ifExp (pt_val (pe_callB Lay.call_isiK rfl T.b_isinstance (by decide +kernel) (pa_cons (pv 8) (pa_cons (pe_bltn (v := .ty "int") rfl T.b_int (by decide +kernel) rfl) pa_nil)))) (pe_lst (pa_cons (pv 8) pa_nil)) (pe_lst pa_nil))))))) (pss_one (ps_if (pt_cmpR op_eq (pv 7) pe_int (nomark _)) (pss_cons (ps_set (i := 10) sc__law_match_right.nd rfl (by first | exact Or.inl rfl | exact Or.inr rfl) (pe_callTy call_listK rfl T.b_list (by decide +kernel) (pa_cons (pv 6) pa_nil)))
      (pss_cons (ps_set (i := 8) sc__law_match_right.nd rfl (by first | exact Or.inl rfl | exact Or.inr rfl) (pe_def (cal__law_go_on T) (hr.mono (by omega)) (pa_cons (pv 1) (pa_cons (pv 3) (pa_cons (pv 10) pa_nil)))))
      (pss_cons (ps_set (i := 9) sc__law_match_right.nd rfl (by first | exact Or.inl rfl | exact Or.inr rfl) (pe_heard (k := 9) (sc := defScope s__law_match_right) (Tt := Tt) T (by exact hgd) S TB rfl hmT hu (hr.mono (by omega)) (fun A outer s H E f c' hr' => pe_mth0 (cal_m_go_on T M Nd) M.cl passLP (hr'.mono (by omega)) (pv 5))))
      (pss_one (ps_set (i := 6) sc__law_match_right.nd rfl (by first | exact Or.inl rfl | exact Or.inr rfl) (pe_ifExp (pt_val (pe_callB Lay.call_isiK rfl T.b_isinstance (by decide +kernel) (pa_cons (pv 8) (pa_cons (pe_bltn (v := .ty "int") rfl T.b_int (by decide +kernel) rfl) pa_nil)))) (pv 10) (pv 6))))))) (pss_cons (ps_set (i := 11) sc__law_match_right.nd rfl (by first | exact Or.inl rfl | exact Or.inr rfl) (pe_def (cal__law_pick T) (hr.mono (by omega)) (pa_cons (pv 0) (pa_cons (pe_lst (pa_cons pe_int (pa_cons pe_int (pa_cons (pe_un un_neg pe_int) (pa_cons pe_int (pa_cons (pe_op op_pow pe_int pe_int) (pa_cons (pe_op op_add (pe_op op_pow pe_int pe_int) pe_int) (pa_cons pe_non (pa_cons pe_bl (pa_cons pe_str (pa_cons (pe_tup (pa_cons pe_int pa_nil)) pa_nil))))))))))) pa_nil))))
      (pss_cons (ps_set (i := 12) sc__law_match_right.nd rfl (by first | exact Or.inl rfl | exact Or.inr rfl) (pe_and (pe_cmpR op_lt (pe_callB call_lenK rfl T.b_len PySem.boot_len (pa_cons (pv 6) pa_nil)) (pe_callB call_lenK rfl T.b_len PySem.boot_len (pa_cons (pe_ix ix_tupK (pv 1) pe_int (fun _ _ => rfl)) pa_nil)) (nomark _)) (pe_and (pe_cmp (pc_dnotin (hu_of hr) (pe_callB call_lenK rfl T.b_len PySem.boot_len (pa_cons (pv 6) pa_nil)) (pv 3))) (pe_and (pe_callB Lay.call_isiK rfl T.b_isinstance (by decide +kernel) (pa_cons (pv 11) (pa_cons (pe_bltn (v := .ty "int") rfl T.b_int (by decide +kernel) rfl) pa_nil))) (pe_and (pe_not (pe_callB Lay.call_isiK rfl T.b_isinstance (by decide +kernel) (pa_cons (pv 11) (pa_cons (pe_bltn (v := .ty "bool") rfl T.b_bool (by decide +kernel) rfl) pa_nil)))) (pe_one (pe_cmpR op_le (pe_callB call_absK rfl T.b_abs (by decide +kernel) (pa_cons (pv 11) pa_nil)) (pe_op op_pow pe_int pe_int) (nomark _))))))))
      (pss_cons (ps_set (i := 8) sc__law_match_right.nd rfl (by first | exact Or.inl rfl | exact Or.inr rfl) (pe_ifExp (pt_val (pv 12)) (pe_op op_add (pe_callB call_lenK rfl T.b_len PySem.boot_len (pa_cons (pv 6) pa_nil)) pe_int) (pe_lst (pa_cons pe_str (pa_cons (pe_callB (call_reprS (K := K) (by exact hgd) (room16 hr)) rfl T.b_repr (by decide +kernel) (pa_cons (pv 11) pa_nil)) (pa_cons pe_bl pa_nil))))))
      (pss_cons (ps_set (i := 9) sc__law_match_right.nd rfl (by first | exact Or.inl rfl | exact Or.inr rfl) (pe_heard (k := 9) (sc := defScope s__law_match_right) (Tt := Tt) T (by exact hgd) S TB rfl hmT hu (hr.mono (by omega)) (fun A outer s H E f c' hr' => pe_mthK (say_kb T M In) M.cl passLP (hr'.mono (by omega)) (pv 5) (pk_cons (pv 11) pk_nil))))
      (pss_one (ps_set (i := 6) sc__law_match_right.nd rfl (by first | exact Or.inl rfl | exact Or.inr rfl) (pe_op op_cat (pv 6) (pe_ifExp (pt_val (pv 12)) (pe_lst (pa_cons (pv 11) pa_nil)) (pe_lst pa_nil))))))))))))))
      (pss_one (ps_if (PW.pt (pw_or (pt_cmpR op_ne (pe_callB (call_reprS (K := K) (by exact hgd) (room16 hr)) rfl T.b_repr (by decide +kernel) (pa_cons (pv 9) pa_nil)) (pe_callB (call_reprS (K := K) (by exact hgd) (room16 hr)) rfl T.b_repr (by decide +kernel) (pa_cons (pv 8) pa_nil)) (nomark _)) (pw_or1 (pt_not (pt_val (pe_defG (by exact hgd) (cal__law_looks T M) (hr.mono (by omega)) (pa_cons (pv 1) (pa_cons (pv 5) (pa_cons (pv 6) pa_nil))))))))) (pss_one (ps_ret pe_bl)) pss_nil)))))
      (pss_one (ps_ret (pe_defG (by exact hgd) Wh (hr.mono (by omega)) (pa_cons (pv 0) (pa_cons (pv 1) (pa_cons (pv 2) pa_nil))))))))), ?_⟩)
  case len => intro vs H Q E h; obtain ⟨_, _, _, _, _, rfl, _⟩ := h; rfl
  obtain ⟨p, v, u, f, ⟨b, ps⟩, rfl, hp, hv, hud, hd, hf, hdp, hn, tb, q⟩ := h
  have hlen : ps.length = (ownF 0 b f.1).length := hd.1
  have hol := ownF_len b f.1 0
  walk_at "lyM"
  refine x_mkE ?_
  walk_at "lyM"
  intro m dx nm ndx nex
  have e1 : Ex H (upd (upd H dx (.own m)) m (.ins C dx [])) := (R.new ndx).trans (R.new (by rw [upd_ne nex.symm]; exact nm))
  refine ⟨f, (b, ps), m, dx, v, u, rfl, upd_same, R.xp e1 _ _ hv, R.xp e1 _ _ hud, hd, hn, fun μ H2 hμ nmt npd r2 hm => ⟨rfl, ?_⟩⟩
  have rt2 : RT [p] H H2 := RT.step (RT.ofEx e1) r2 (fun a h _ => by
    have : a = m := by simpa using h
    rw [this]
    exact NewT.of nm) fun q hq h => by
    have hqp : q = p := by simpa using hq
    rw [hqp] at h ⊢
    refine pot_step h r2 fun z => ?_
    have hqm : p = m := by simpa using z
    obtain ⟨_, _, _, e⟩ := hp
    rw [hqm, nm] at e
    cases e
  have tb2 : LamX.Tabs Tt H2 := tabs_rw (tabs_rw tb (.ofEx e1) wr_nil) r2 (wr_ins upd_same)
  subst hμ
  walk_at "lyM"
  rename_i ga H3 e3 nga tga cga
  refine ⟨by show 2 ≤ sizeLine; decide, fun t nt => ⟨t, _, rfl, SqT.of upd_same, rfl, ?_⟩⟩
  walk_at "lyM"
  have e4 : Ex H3 (upd H3 t (.tup [V.ref μ.m, V.ref ga])) := R.new nt
  have rt4 : RT [p] H (upd H3 t (.tup [V.ref μ.m, V.ref ga])) := rt2.trans (.ofEx (e3.trans e4))
  have tb4 : LamX.Tabs Tt (upd H3 t (.tup [V.ref μ.m, V.ref ga])) := tabs_rw tb2 (.ofEx (e3.trans e4)) wr_nil
  have mt4 := hm.ex (e3.trans e4)
  have ga4 := e4.keep ga _ (by simp) tga
  have nga2 : NewT H ga := rt2.newT (NewT.of nga) (by
    intro z
    have : ga = p := by simpa using z
    obtain ⟨_, _, _, e⟩ := rt2.pots p (by simp) hp
    rw [← this, nga] at e
    cases e)
  have neg : ga ≠ μ.mt := (ne_of_none hm.told nga).symm
  revert rt4 tb4 mt4 ga4
  generalize upd H3 t (.tup [V.ref μ.m, V.ref ga]) = H4
  intro rt4 tb4 mt4 ga4
  have hv4 : Dp K H4 v (eX f) := rt4.dp hv (im_X f)
  have hu4 : Dp K H4 u (.tuple [.str "defence", .str (sS b), .tuple (ps.map eP)]) := (show Dp K H4 u (eD (b, ps)) from rt4.dp hud (im_D _))
  refine x_lz ?_
  walk_at "lyM"
  refine ⟨f, b, _, _, rfl, hv4, rfl, by omega, fun a acc H5 e5 n1 n2 n3 => ?_⟩
  walk_at "lyM"
  rename_i u2 hu2
  obtain rfl := dps_ints n3
  obtain ⟨b2, ys, rfl, q2, d2⟩ := Dp.tup_inv hu2
  refine ⟨a, b2, _, ys, rfl, SqL.of n2, q2, by rw [List.length_map]; omega, fun H6 l ts ke hl hlt hpp => ?_⟩
  have e6 : Ex H5 H6 := ex_all ke
  walk_at "lyM"
  refine ⟨l, ts, _, rfl, SqL.of hlt, pair_kv _ hpp, fun pd npd2 => ?_⟩
  have e7 : Ex H6 (upd H6 pd (.dK (mergeK [] ((((ownF 0 b f.1)).zip ys).map fun q => (Sum.inl q.1, q.2))))) := R.new npd2
  have hpd : PlanD K (upd H6 pd (.dK (mergeK [] ((((ownF 0 b f.1)).zip ys).map fun q => (Sum.inl q.1, q.2))))) pd (ownF 0 b f.1) ps := ⟨ys, R.xps (e6.trans e7) _ _ d2, upd_same⟩
  have e47 : Ex H4 _ := e5.trans (e6.trans e7)
  have npd0 : NewT H pd := (rt4.trans (.ofEx (e5.trans e6))).newT (NewT.of npd2) (by
    intro z
    have : pd = p := by simpa using z
    obtain ⟨_, _, _, e⟩ := (rt4.trans (.ofEx (M := [p]) (e5.trans e6))).pots p (by simp) hp
    rw [← this, npd2] at e
    cases e)
  have S : Ms K C Tt H p f (b, ps) μ pd ga [] _ := ⟨hp, rt4.trans (.ofEx e47), tabs_rw tb4 (.ofEx e47) wr_nil, mt4.ex e47, e47.keep ga _ (by simp) ga4, hpd, NewT.of nm, NewT.of (R.exfree e1 nmt), NewT.of (R.exfree e1 npd), nga2, npd0, neg, Nat.zero_le _, Bd.nil⟩
  revert S
  generalize upd H6 pd (.dK (mergeK [] ((((ownF 0 b f.1)).zip ys).map fun q => (Sum.inl q.1, q.2)))) = H7
  intro S
  walk_at "lyM"
  refine ⟨_, rfl, by decide, by decide, ?_⟩
  refine for_range (lo := 0) (n := 14) (fun i σ H' => ∃ μ ga g o4 o7 o8 o9 o10 o11 o12, σ = [some (.ref p), some v, some u, some (.ref pd), o4, some (.ref μ.m), some (.ref ga), o7, o8, o9, o10, o11, o12] ∧ Ms K C Tt H p f (b, ps) μ pd ga g H') ⟨μ, ga, [], _, _, _, _, _, _, _, rfl, S⟩ ?_ ?_
  · intro i σ H' hi ⟨μ, ga, g, o4, o7, o8, o9, o10, o11, o12, hσ, S⟩
    subst hσ
    walk_at "lyM"
    refine x_draw S.pot (by decide) (by decide) fun w H1 w0 w1 r1 p1 => ?_
    have S1 := S.draw r1
    have hv1 : Dp K H1 v (eX f) := S1.rt.dp hv (im_X f)
    walk_at "lyM"
    by_cases c0 : w = 0
    · refine x_ifdT c0 ?_
      refine br_back S1 hn ?_
      intro μ' ga' g' xd xt n o10 o11 o12 H2 hmm S2 hxd hxt hsw
      rw [← hmm]
      exact turn_end S2 (S2.rt.dp hv (im_X f)) hxd hxt hsw.1 hsw.2 hf hdp hn fun H3 e3 => ⟨μ', ga', g', _, _, _, _, _, _, _, rfl, S2.ex e3⟩
    · refine x_ifdF c0 ?_
      walk_at "lyM"
      by_cases c1 : w < 3
      · refine x_ifdT c1 ?_
        refine br_go S1 hv1 hd hn ?_
        intro μ' ga' g' xd xt n o10 o11 o12 H2 hmm S2 hxd hxt hsw
        rw [← hmm]
        exact turn_end S2 (S2.rt.dp hv (im_X f)) hxd hxt hsw.1 hsw.2 hf hdp hn fun H3 e3 => ⟨μ', ga', g', _, _, _, _, _, _, _, rfl, S2.ex e3⟩
      · refine x_ifdF c1 ?_
        walk_at "lyM"
        by_cases c2 : w = 3
        · refine x_ifdT c2 ?_
          refine br_goon S1 hv1 hd hn ?_
          intro μ' ga' g' xd xt n o10 o11 o12 H2 hmm S2 hxd hxt hsw
          rw [← hmm]
          exact turn_end S2 (S2.rt.dp hv (im_X f)) hxd hxt hsw.1 hsw.2 hf hdp hn fun H3 e3 => ⟨μ', ga', g', _, _, _, _, _, _, _, rfl, S2.ex e3⟩
        · refine x_ifdF c2 ?_
          refine br_say S1 fun x n H2 hnp hx r2 S2 => ?_
          refine br_say2 S2 (S2.rt.dp hv (im_X f)) hd hn hx hnp ?_
          intro μ' ga' g' xd xt n o10 o11 o12 H4 hmm S3 hxd hxt hsw
          rw [← hmm]
          exact turn_end S3 (S3.rt.dp hv (im_X f)) hxd hxt hsw.1 hsw.2 hf hdp hn fun H5 e5 => ⟨μ', ga', g', _, _, _, _, _, _, _, rfl, S3.ex e5⟩
  · intro σ H' ⟨μ, ga, g, o4, o7, o8, o9, o10, o11, o12, hσ, S⟩
    subst hσ
    walk_at "lyM"
    exact ⟨p, v, u, f, (b, ps), rfl, S.pot, S.rt.dp hv (im_X f), S.rt.dp hud (im_D _), hd, hf, hdp, hn, S.tb, fun H2 r t => q _ (S.rt.trans r) t⟩
end
end K85

/-! ### text LJ -/
namespace K85
open PySem PySem.Spec PyProof.Rows L2 Lay RZ



section
variable {P : Program} {w : World} {K : PySem.W.Frag} {mg : Str → Option Value} {base : Heap} {C : Addr}
theorem in_init {f IN : Addr} {fd : FuncData} (F : Fun K "__init__" "InvalidNumbers.__init__" s_InvalidNumbers___init__ f fd) (o : OexC K IN) (nv : PySem.W.findIn K (.ref IN) "value" = some none) : FnOk P w K mg base CX0 1 f fd ["self", "value"] (sp_inum IN) := by
  refine F.ok sc_InvalidNumbers___init__ (fun vs H Q E h => ?_) (fun cdv A outer s H vs Q E hr h => ?_)
  · obtain ⟨_, _, rfl, _⟩ := h
    rfl
  · obtain ⟨a, u, rfl, ha, q⟩ := h
    refine ⟨_, pss_one (ps_ost (pv 0) (pv 1)), ?_⟩
    refine ⟨_, rfl, _, rfl, a, IN, rfl, o, nv, .inl ⟨ha, fun dx n1 n2 => q dx n1 n2⟩⟩
def sp_r (Tt : List (Addr × Str)) : Sp := fun vs H Q _ => ∃ p : Addr, vs = [.ref p] ∧ PotAt H p ∧ LamX.Tabs Tt H ∧ ∀ H', RT [p] H H' → LamX.Tabs Tt H' → Q (.bl true) H'
theorem cal__law_right (T : Top K w mg) {Tt : List (Addr × Str)} (Mr : CalG P w K mg base "_law_match_right" ["pot", "form", "defence"] 21 (sp_mr Tt K)) : CalG P w K mg base "_law_right" ["pot"] 22 (sp_r Tt) := by
  refine calG_of T.f__law_right sc__law_right ?len (fun _ _ _ _ _ _ us hl => match us, hl with | [_], _ => rfl) (fun f cdv A outer s H vs Q E hgd hr hcd h => ⟨_, (pss_cons (ps_set (i := 1) sc__law_right.nd rfl (by first | exact Or.inl rfl | exact Or.inr rfl) (pe_def (cal__law_prenex T) (hr.mono (by omega)) (pa_cons (pv 0) (pa_cons (pe_op op_add pe_int (pe_def (cal__law_draw T) (hr.mono (by omega)) (pa_cons (pv 0) (pa_cons pe_int pa_nil)))) (pa_cons pe_int pa_nil)))))
      (pss_one (ps_ret (pe_callB cr_allK rfl T.b_all (by decide +kernel) (pa_cons (pe_lc (own := [("side", 2)]) (g := (gName 2)) rfl sc__law_right.nd (pi_tup (pe_tup (pa_cons pe_str (pa_cons pe_str pa_nil)))) (blkOk_by (by show blkC ["pot", "form", "side"] (defScope s__law_right) _ _ = true; decide +kernel)) (fun _ _ _ _ _ => (pg_name (i := 2) sc__law_right.nd rfl (by first | exact Or.inl rfl | exact Or.inr rfl))) (fun _ _ _ _ _ => pts_nil) (fun _ _ _ _ _ => (pe_defG (by exact hgd) Mr (hr.mono (by omega)) (pa_cons (pv 0) (pa_cons (pv 1) (pa_cons (pe_def (cal__law_defence T) (hr.mono (by omega)) (pa_cons (pv 0) (pa_cons (pv 1) (pa_cons (pv 2) pa_nil)))) pa_nil)))))) pa_nil))))), ?_⟩)
  case len => intro vs H Q E h; obtain ⟨_, rfl, _⟩ := h; rfl
  obtain ⟨p, rfl, hp, tb, q⟩ := h
  walk_at "lyM"
  refine x_draw hp (by decide) (by decide) fun n H1 n0 n1 r1 p1 => ?_
  walk_at "lyM"
  have en : 1 + n = ((1 + n.toNat : Nat) : Int) := by omega
  rw [en]
  refine ⟨p, 1 + n.toNat, rfl, p1, by omega, by omega, fun f v H2 hfl hf hdp r2 p2 hv => ?_⟩
  have tb2 : LamX.Tabs Tt H2 := tabs_rw (tabs_rw tb (.ofR r1) (wr_pot hp)) (.ofR r2) (wr_pot p1)
  have rt2 : RT [p] H H2 := (RT.ofR r1).trans (.ofR r2)
  walk_at "lyM"
  rename_i wv H3 e3 ct
  obtain ⟨a, xs, rfl, hq, hds⟩ := Dp.tup_inv (ct K)
  obtain rfl : xs = [V.str "yes", V.str "no"] := dps_strs (ss := ["yes", "no"]) hds
  have tb3 : LamX.Tabs Tt H3 := tabs_rw tb2 (.ofEx e3) wr_nil
  have rt3 : RT [p] H H3 := rt2.trans (.ofEx e3)
  have p3 : PotAt H3 p := rt3.pots p (by simp) hp
  refine ⟨a, rfl, ⟨_, hq⟩, fun D hD => ?_⟩
  have e4 : Ex H3 (upd H3 D (.lst [])) := R.new hD
  have nDp : D ≠ p := fun z => by
    obtain ⟨_, _, _, e⟩ := p3
    rw [← z, hD] at e
    cases e
  have nD : NewT H D := rt3.newT (NewT.of hD) (by simpa using nDp)
  refine lc_it (n := 2) (walk_tup (xs := [V.str "yes", V.str "no"])) (fun i H' => H' D = some (.lst (List.replicate i (V.bl true))) ∧ RT [p] H H' ∧ LamX.Tabs Tt H' ∧ SqT K H' a [V.str "yes", V.str "no"] ∧ Dp K H' v (eX f))
    ⟨upd_same, rt3.trans (.ofEx e4), tabs_rw tb3 (.ofEx e4) wr_nil, e4.sqt hq, R.xp (e3.trans e4) _ _ hv⟩ (fun i H' _ h => h.2.2.2.1) ?_ ?_
  · intro i x H4 H5 hi ⟨g1, g2, g3, g4, g5⟩ ⟨hy1, hy2⟩
    subst hy1
    obtain ⟨b, rfl⟩ : ∃ b : Bool, x = V.str (sS b) := by
      have : i = 0 ∨ i = 1 := by omega
      rcases this with e | e <;> subst e
      · exact ⟨true, (Option.some.inj hy2).symm⟩
      · exact ⟨false, (Option.some.inj hy2).symm⟩
    have p4 : PotAt H5 p := g2.pots p (by simp) hp
    walk_at "lyM"
    refine ⟨rfl, ?_⟩
    walk_at "lyM"
    refine ⟨p, f, b, v, rfl, p4, g5, by omega, fun d u H6 hb hd r6 p6 hu => ?_⟩
    walk_at "lyM"
    have hv6 : Dp K H6 v (eX f) := R.dp r6 _ _ (im_X f) g5
    have tb6 := tabs_rw g3 (.ofR r6) (wr_pot p4)
    have d6 := r6.keep D _ (by simpa using nDp) g1
    refine ⟨p, v, u, f, d, rfl, p6, hv6, hu, hd, hfl ▸ hf, hdp, by omega, tb6, fun H7 r7 t7 => ?_⟩
    have d7 := r7.lst d6 (by simpa using nDp)
    refine ⟨_, d7, by rw [List.length_replicate]; exact Nat.lt_of_lt_of_le hi (by decide), ?_, ?_, ?_, ?_, ?_⟩
    · rw [upd_same, List.replicate_succ']
    · exact RT.mut ((g2.trans (.ofR r6)).trans r7) nD
    · exact tabs_rw t7 (RW.lst d7) (wr_lst d7)
    · exact (RW.lst d7).sqt (r7.sqt (r6.sqt g4))
    · exact (RW.lst d7).dp (r7.dp hv6 (im_X f)) (im_X f)
  · intro H4 ⟨g1, g2, g3, g4, g5⟩
    walk_at "lyM"
    refine x_allD (ns := [true, true]) (dp_lst g1 (bls_dps [true, true])) ?_
    exact q _ g2 g3
def sp_law (Tt : List (Addr × Str)) (K : PySem.W.Frag) : Sp := fun vs H Q _ => ∃ (a : Addr) (ns : List Int), vs = [.ref a] ∧ SqL K H a (ns.map V.int) ∧ (∀ z ∈ ns, Builtin.Int.intBits z ≤ 1048576) ∧ ns.length ≤ 63 ∧ LamX.Tabs Tt H ∧ ∀ H', Q (.bl true) H'
theorem cal_law (T : Top K w mg) {Tt : List (Addr × Str)} (Lr : CalG P w K mg base "_law_right" ["pot"] 22 (sp_r Tt)) : CalG P w K mg base "law" ["script"] 23 (sp_law Tt K) := by
  refine calG_of T.f_law sc_law ?len (fun _ _ _ _ _ _ us hl => match us, hl with | [_], _ => rfl) (fun f cdv A outer s H vs Q E hgd hr hcd h => ⟨_, (pss_cons (ps_for PassesOwn.never rfl (pi_range1 rfl T.b_range (pa_cons (pe_callB (call_max2 rfl) rfl T.b_max (by decide +kernel) (pa_cons pe_int (pa_cons (pe_callB (call_min2 rfl) rfl T.b_min (by decide +kernel) (pa_cons pe_int (pa_cons (pe_callB call_lenK rfl T.b_len PySem.boot_len (pa_cons (pv 0) pa_nil)) pa_nil))) pa_nil))) pa_nil)) (pg_name (i := 1) sc_law.nd rfl (by first | exact Or.inl rfl | exact Or.inr rfl)) (pss_cons (ps_set (i := 2) sc_law.nd rfl (by first | exact Or.inl rfl | exact Or.inr rfl) (pe_def (cal__law_pot T) (hr.mono (by omega)) (pa_cons (pv 0) (pa_cons (pv 1) pa_nil))))
      (pss_one (ps_if (PW.pt (pw_or (pt_not (pt_val (pe_defG (by exact hgd) Lr (hr.mono (by omega)) (pa_cons (pv 2) pa_nil)))) (pw_or1 (pt_not (pt_val (pe_defG (by exact hgd) Lr (hr.mono (by omega)) (pa_cons (pv 2) pa_nil))))))) (pss_one (ps_ret pe_bl)) pss_nil))))
      (pss_one (ps_ret pe_bl))), ?_⟩)
  case len => intro vs H Q E h; obtain ⟨_, _, rfl, _⟩ := h; rfl
  obtain ⟨a, ns, rfl, ha, hb, hl, tb, q⟩ := h
  walk_at "lyM"
  refine ⟨a, _, rfl, .inl ha, ?_⟩
  walk_at "lyM"
  refine ⟨_, _, rfl, ?_⟩
  walk_at "lyM"
  refine ⟨_, _, rfl, ?_⟩
  walk_at "lyM"
  rw [List.length_map]
  generalize hj : (if (if (ns.length : Int) < 2 then (ns.length : Int) else 2) > 1 then if (ns.length : Int) < 2 then (ns.length : Int) else 2 else 1) = j
  have hj2 : 1 ≤ j ∧ j ≤ 2 := by
    rw [← hj]
    by_cases c1 : (ns.length : Int) < 2
    · simp only [if_pos c1]
      by_cases c2 : (ns.length : Int) > 1
      · rw [if_pos c2]; omega
      · rw [if_neg c2]; omega
    · simp only [if_neg c1]
      omega
  refine ⟨j, rfl, by omega, by omega, ?_⟩
  refine for_range (D := { nx := tRet (tC (V.bl true)) { nx := fun x H' => Q V.non H', rt := Q }, rt := Q }) (lo := 0) (n := j.toNat) (fun i σ H' => ∃ o1 o2, σ = [some (.ref a), o1, o2] ∧ SqL K H' a (ns.map V.int) ∧ LamX.Tabs Tt H') ⟨_, _, rfl, ha, tb⟩ ?_ ?_
  · intro i σ H1 hi ⟨o1, o2, hσ, ha1, tb1⟩
    subst hσ
    rw [Int.zero_add]
    walk_at "lyM"
    refine ⟨a, ns, i, rfl, ha1, hb, by omega, fun p H2 np e2 p2 => ?_⟩
    have ha2 : SqL K H2 a (ns.map V.int) := e2.sql (by simp) ha1
    have tb2 : LamX.Tabs Tt H2 := tabs_rw tb1 (.ofEx e2) wr_nil
    have keepL : ∀ H3, RT [p] H2 H3 → SqL K H3 a (ns.map V.int) := fun H3 r => by
      rcases ha1 with (z | ⟨o, z⟩) | z
      · exact .inl (.inl (r.lst (e2.keep a _ (by simp) z) (by simpa using ne_of_none z np)))
      · exact .inl (.inr ⟨o, r.frzs _ _ _ (e2.frzs _ _ _ z)⟩)
      · exact .inr z
    walk_at "lyM"
    refine ⟨p, rfl, p2, tb2, fun H3 r3 t3 => ⟨_, rfl, ?_⟩⟩
    refine (if_neg (by simp)).mpr ?_
    walk_at "lyM"
    refine ⟨p, rfl, r3.pots p (by simp) p2, t3, fun H4 r4 t4 => ⟨_, rfl, ?_⟩⟩
    refine (if_neg (by simp)).mpr ?_
    exact ⟨_, _, rfl, keepL _ (r3.trans r4), t4⟩
  · intro σ H1 ⟨o1, o2, hσ, ha1, tb1⟩
    subst hσ
    walk_at "lyM"
    exact q _
end
end K85

/-! ### text HE -/
namespace K85
open PySem PySem.Spec PyProof.Rows L2 Lay
section
variable {w : World} {K : PySem.W.Frag} {h : Heap} {mg : Str → Option Value}
theorem mk_def {x : Str} {st : Stmt} (hd : ∃ fd, FunD K x x (defArgs st) (defBody st) (defScope st) [] [] (He.ga K x) fd) (hm : mg x = some (.ref (He.ga K x))) : Lay.IsDef K mg x st := by
  obtain ⟨fd, F⟩ := hd
  exact ⟨_, fd, hm, funD_fun F⟩
theorem mk_meth {m q : Str} {st : Stmt} {C : Addr} {Pf : Addr → Prop} (hd : ∃ fd, FunD K m q (defArgs st) (defBody st) (defScope st) [] [] (He.ma K C m) fd) (hm : Pf (He.ma K C m)) : ∃ f fd, Pf f ∧ Fun K m q st f fd := by
  obtain ⟨fd, F⟩ := hd
  exact ⟨_, fd, hm, funD_fun F⟩
theorem mk_kdct {x : Str} {a : Addr} {es : Array DictEntry} {n : Nat} {kvs : List (Str × He.Dv)} {q : Str × He.Dv} (hk : KDict K w a es n) (hv : He.valsB K a kvs = true) (hq : q ∈ kvs) : KDct K w a q.1 (q.2.v K) := by
  obtain ⟨u, e1, e2⟩ := He.valsB_ok hv hq
  exact ⟨es, n, u, hk.at_, hk.lit, e1, e2⟩

theorem mk_top (X : K.In h) (G : h.Ns mainGlobals mg) (c : He.SaysX fa fn ts tf ex w h K) : Top K w mg := by
  have hx1 : ex1 K = true := (Bool.and_eq_true_iff.mp (show (ex1 K && ex2 K) = true from c.more)).1
  obtain ⟨t1, hx1⟩ := Bool.and_eq_true_iff.mp hx1
  obtain ⟨t2, hx1⟩ := Bool.and_eq_true_iff.mp hx1
  obtain ⟨t3, hx1⟩ := Bool.and_eq_true_iff.mp hx1
  obtain ⟨t4, hx1⟩ := Bool.and_eq_true_iff.mp hx1
  obtain ⟨t5, t6⟩ := Bool.and_eq_true_iff.mp hx1
  obtain ⟨es1, n1, kd1⟩ := c.t.tab 0 rfl
  obtain ⟨es2, n2, kd2⟩ := c.t.tab 1 rfl
  exact {
    f_is_integer := mk_def (c.t.d.def_ 1 (d := d_is_integer) rfl) (He.glo_ok X G (c.t.d.fact 0 (f := .glo "is_integer") rfl))
    f_is_count := mk_def (c.t.d.def_ 2 (d := d_is_count) rfl) (He.glo_ok X G (c.t.d.fact 1 (f := .glo "is_count") rfl))
    f_is_list := mk_def (c.t.d.def_ 3 (d := d_is_list) rfl) (He.glo_ok X G (c.t.d.fact 2 (f := .glo "is_list") rfl))
    f_are_numbers := mk_def (c.t.d.def_ 4 (d := d_are_numbers) rfl) (He.glo_ok X G (c.t.d.fact 3 (f := .glo "are_numbers") rfl))
    f_worth := mk_def (c.t.d.def_ 5 (d := d_worth) rfl) (He.glo_ok X G (c.t.d.fact 4 (f := .glo "worth") rfl))
    f_is_linear := mk_def (c.t.d.def_ 6 (d := d_is_linear) rfl) (He.glo_ok X G (c.t.d.fact 5 (f := .glo "is_linear") rfl))
    f_is_number := mk_def (c.t.d.def_ 7 (d := d_is_number) rfl) (He.glo_ok X G (c.t.d.fact 6 (f := .glo "is_number") rfl))
    f_atom_holds := mk_def (c.t.d.def_ 8 (d := d_atom_holds) rfl) (He.glo_ok X G (c.t.d.fact 7 (f := .glo "atom_holds") rfl))
    f_holds := mk_def (c.t.d.def_ 9 (d := d_holds) rfl) (He.glo_ok X G (c.t.d.fact 8 (f := .glo "holds") rfl))
    f_is_near := mk_def (c.t.d.def_ 10 (d := d_is_near) rfl) (He.glo_ok X G (c.t.d.fact 9 (f := .glo "is_near") rfl))
    f_is_sum := mk_def (c.t.d.def_ 11 (d := d_is_sum) rfl) (He.glo_ok X G (c.t.d.fact 10 (f := .glo "is_sum") rfl))
    f_is_divisor := mk_def (c.t.d.def_ 12 (d := d_is_divisor) rfl) (He.glo_ok X G (c.t.d.fact 11 (f := .glo "is_divisor") rfl))
    f_is_atom := mk_def (c.t.d.def_ 13 (d := d_is_atom) rfl) (He.glo_ok X G (c.t.d.fact 12 (f := .glo "is_atom") rfl))
    f_is_bare_formula := mk_def (c.t.d.def_ 14 (d := d_is_bare_formula) rfl) (He.glo_ok X G (c.t.d.fact 13 (f := .glo "is_bare_formula") rfl))
    f_is_value := mk_def (c.t.d.def_ 15 (d := d_is_value) rfl) (He.glo_ok X G (c.t.d.fact 14 (f := .glo "is_value") rfl))
    f_is_piece := mk_def (c.t.d.def_ 16 (d := d_is_piece) rfl) (He.glo_ok X G (c.t.d.fact 15 (f := .glo "is_piece") rfl))
    f_own_variables := mk_def (c.t.d.def_ 17 (d := d_own_variables) rfl) (He.glo_ok X G (c.t.d.fact 16 (f := .glo "own_variables") rfl))
    f_has_form := mk_def (c.t.d.def_ 18 (d := d_has_form) rfl) (He.glo_ok X G (c.t.d.fact 17 (f := .glo "has_form") rfl))
    f_matrix_holds := mk_def (c.t.d.def_ 19 (d := d_matrix_holds) rfl) (He.glo_ok X G (c.t.d.fact 18 (f := .glo "matrix_holds") rfl))
    f_divided := mk_def (c.t.d.def_ 20 (d := d_divided) rfl) (He.glo_ok X G (c.t.d.fact 19 (f := .glo "divided") rfl))
    f_value_at := mk_def (c.t.d.def_ 21 (d := d_value_at) rfl) (He.glo_ok X G (c.t.d.fact 20 (f := .glo "value_at") rfl))
    f_piece_at := mk_def (c.t.d.def_ 22 (d := d_piece_at) rfl) (He.glo_ok X G (c.t.d.fact 21 (f := .glo "piece_at") rfl))
    f_told_by := mk_def (c.t.d.def_ 23 (d := d_told_by) rfl) (He.glo_ok X G (c.t.d.fact 22 (f := .glo "told_by") rfl))
    f_want_played := mk_def (c.t.d.def_ 24 (d := d_want_played) rfl) (He.glo_ok X G (c.t.d.fact 23 (f := .glo "want_played") rfl))
    f_want_answers := mk_def (c.t.d.def_ 25 (d := d_want_answers) rfl) (He.glo_ok X G (c.t.d.fact 24 (f := .glo "want_answers") rfl))
    f_told_number := mk_def (c.t.d.def_ 26 (d := d_told_number) rfl) (He.glo_ok X G (c.t.d.fact 25 (f := .glo "told_number") rfl))
    f_plans_by_variable := mk_def (c.t.d.def_ 27 (d := d_plans_by_variable) rfl) (He.glo_ok X G (c.t.d.fact 26 (f := .glo "plans_by_variable") rfl))
    f_all_numbers := mk_def (c.t.d.def_ 28 (d := d_all_numbers) rfl) (He.glo_ok X G (c.t.d.fact 27 (f := .glo "all_numbers") rfl))
    f_played := mk_def (c.t.d.def_ 29 (d := d_played) rfl) (He.glo_ok X G (c.t.d.fact 28 (f := .glo "played") rfl))
    f__law_pot := mk_def (c.t.d.def_ 39 (d := d__law_pot) rfl) (He.glo_ok X G (c.t.d.fact 29 (f := .glo "_law_pot") rfl))
    f__law_draw := mk_def (c.t.d.def_ 40 (d := d__law_draw) rfl) (He.glo_ok X G (c.t.d.fact 30 (f := .glo "_law_draw") rfl))
    f__law_pick := mk_def (c.t.d.def_ 41 (d := d__law_pick) rfl) (He.glo_ok X G (c.t.d.fact 31 (f := .glo "_law_pick") rfl))
    f__law_n := mk_def (c.t.d.def_ 42 (d := d__law_n) rfl) (He.glo_ok X G (c.t.d.fact 32 (f := .glo "_law_n") rfl))
    f__law_v := mk_def (c.t.d.def_ 43 (d := d__law_v) rfl) (He.glo_ok X G (c.t.d.fact 33 (f := .glo "_law_v") rfl))
    f__law_term := mk_def (c.t.d.def_ 44 (d := d__law_term) rfl) (He.glo_ok X G (c.t.d.fact 34 (f := .glo "_law_term") rfl))
    f__law_atom := mk_def (c.t.d.def_ 45 (d := d__law_atom) rfl) (He.glo_ok X G (c.t.d.fact 35 (f := .glo "_law_atom") rfl))
    f__law_bare := mk_def (c.t.d.def_ 46 (d := d__law_bare) rfl) (He.glo_ok X G (c.t.d.fact 36 (f := .glo "_law_bare") rfl))
    f__law_sum := mk_def (c.t.d.def_ 47 (d := d__law_sum) rfl) (He.glo_ok X G (c.t.d.fact 37 (f := .glo "_law_sum") rfl))
    f__law_made := mk_def (c.t.d.def_ 48 (d := d__law_made) rfl) (He.glo_ok X G (c.t.d.fact 38 (f := .glo "_law_made") rfl))
    f__law_le := mk_def (c.t.d.def_ 49 (d := d__law_le) rfl) (He.glo_ok X G (c.t.d.fact 39 (f := .glo "_law_le") rfl))
    f__law_formula := mk_def (c.t.d.def_ 50 (d := d__law_formula) rfl) (He.glo_ok X G (c.t.d.fact 40 (f := .glo "_law_formula") rfl))
    f__law_is_so := mk_def (c.t.d.def_ 51 (d := d__law_is_so) rfl) (He.glo_ok X G (c.t.d.fact 41 (f := .glo "_law_is_so") rfl))
    f__law_prenex := mk_def (c.t.d.def_ 52 (d := d__law_prenex) rfl) (He.glo_ok X G (c.t.d.fact 42 (f := .glo "_law_prenex") rfl))
    f__law_linear := mk_def (c.t.d.def_ 53 (d := d__law_linear) rfl) (He.glo_ok X G (c.t.d.fact 43 (f := .glo "_law_linear") rfl))
    f__law_guard := mk_def (c.t.d.def_ 54 (d := d__law_guard) rfl) (He.glo_ok X G (c.t.d.fact 44 (f := .glo "_law_guard") rfl))
    f__law_value := mk_def (c.t.d.def_ 55 (d := d__law_value) rfl) (He.glo_ok X G (c.t.d.fact 45 (f := .glo "_law_value") rfl))
    f__law_plan := mk_def (c.t.d.def_ 56 (d := d__law_plan) rfl) (He.glo_ok X G (c.t.d.fact 46 (f := .glo "_law_plan") rfl))
    f__law_own := mk_def (c.t.d.def_ 57 (d := d__law_own) rfl) (He.glo_ok X G (c.t.d.fact 47 (f := .glo "_law_own") rfl))
    f__law_defence := mk_def (c.t.d.def_ 58 (d := d__law_defence) rfl) (He.glo_ok X G (c.t.d.fact 48 (f := .glo "_law_defence") rfl))
    f__law_total := mk_def (c.t.d.def_ 59 (d := d__law_total) rfl) (He.glo_ok X G (c.t.d.fact 49 (f := .glo "_law_total") rfl))
    f__law_told := mk_def (c.t.d.def_ 60 (d := d__law_told) rfl) (He.glo_ok X G (c.t.d.fact 50 (f := .glo "_law_told") rfl))
    f__law_play := mk_def (c.t.d.def_ 61 (d := d__law_play) rfl) (He.glo_ok X G (c.t.d.fact 51 (f := .glo "_law_play") rfl))
    f__law_rows := mk_def (c.t.d.def_ 62 (d := d__law_rows) rfl) (He.glo_ok X G (c.t.d.fact 52 (f := .glo "_law_rows") rfl))
    f__law_heard := mk_def (c.t.d.def_ 63 (d := d__law_heard) rfl) (He.glo_ok X G (c.t.d.fact 53 (f := .glo "_law_heard") rfl))
    f__law_next := mk_def (c.t.d.def_ 64 (d := d__law_next) rfl) (He.glo_ok X G (c.t.d.fact 54 (f := .glo "_law_next") rfl))
    f__law_looks := mk_def (c.t.d.def_ 65 (d := d__law_looks) rfl) (He.glo_ok X G (c.t.d.fact 55 (f := .glo "_law_looks") rfl))
    f__law_go_on := mk_def (c.t.d.def_ 66 (d := d__law_go_on) rfl) (He.glo_ok X G (c.t.d.fact 56 (f := .glo "_law_go_on") rfl))
    f__law_match_right := mk_def (c.t.d.def_ 67 (d := d__law_match_right) rfl) (He.glo_ok X G (c.t.d.fact 57 (f := .glo "_law_match_right") rfl))
    f__law_whole_right := mk_def (c.t.d.def_ 68 (d := d__law_whole_right) rfl) (He.glo_ok X G (c.t.d.fact 58 (f := .glo "_law_whole_right") rfl))
    f__law_right := mk_def (c.t.d.def_ 69 (d := d__law_right) rfl) (He.glo_ok X G (c.t.d.fact 59 (f := .glo "_law_right") rfl))
    f_law := mk_def (c.t.d.def_ 70 (d := d_law) rfl) (He.glo_ok X G (c.t.d.fact 60 (f := .glo "law") rfl))
    c_GREATEST := He.int_ok X G (c.t.d.fact 92 (f := .int "GREATEST" 1000000000000000000) rfl)
    c_LE := He.str_ok X G (c.t.d.fact 93 (f := .str "LE" "le") rfl)
    c_INTO := He.str_ok X G (c.t.d.fact 94 (f := .str "INTO" "into") rfl)
    c_OFF := He.str_ok X G (c.t.d.fact 95 (f := .str "OFF" "off") rfl)
    c_AND := He.str_ok X G (c.t.d.fact 96 (f := .str "AND" "and") rfl)
    c_OR := He.str_ok X G (c.t.d.fact 97 (f := .str "OR" "or") rfl)
    c_ATOMS := ⟨_, (He.glo_ok X G (c.t.d.fact 67 (f := .glo "ATOMS") rfl)), fun H => .tup (tupAt_ok t1 H) (.cons (.str _) (.cons (.str _) (.cons (.str _) .nil)))⟩
    c_YES := ⟨_, (He.glo_ok X G (c.t.d.fact 68 (f := .glo "YES") rfl)), fun H => .tup (tupAt_ok t3 H) (.cons (.str _) (.cons (.tup (tupAt_ok t4 H) .nil) .nil))⟩
    c_WORD := He.str_ok X G (c.t.d.fact 98 (f := .str "WORD" "defence") rfl)
    c_SIDES := ⟨_, (He.glo_ok X G (c.t.d.fact 69 (f := .glo "SIDES") rfl)), fun H => .tup (tupAt_ok t2 H) (.cons (.str _) (.cons (.str _) .nil))⟩
    c_KINDS := ⟨_, (He.glo_ok X G (c.t.d.fact 70 (f := .glo "KINDS") rfl)), mk_kdct (x := "KINDS") (q := ("yes", .str "some")) kd1 t5 (by simp), mk_kdct (x := "KINDS") (q := ("no", .str "all")) kd1 t5 (by simp)⟩
    c_OVER_judge := He.str_ok X G (c.t.d.fact 99 (f := .str "OVER_judge" "over") rfl)
    c_LOW_judge := He.str_ok X G (c.t.d.fact 100 (f := .str "LOW_judge" "low") rfl)
    c_HIGH := He.str_ok X G (c.t.d.fact 101 (f := .str "HIGH" "high") rfl)
    c_MOST_DEEP := He.int_ok X G (c.t.d.fact 102 (f := .int "MOST_DEEP" 200) rfl)
    c_MOST_PIECES := He.int_ok X G (c.t.d.fact 103 (f := .int "MOST_PIECES" 400) rfl)
    c_FIGURES := He.int_ok X G (c.t.d.fact 104 (f := .int "FIGURES" (10 ^ 400)) rfl)
    c_OVER_values := He.str_ok X G (c.t.d.fact 105 (f := .str "OVER_values" "over") rfl)
    c_LOW_values := He.str_ok X G (c.t.d.fact 106 (f := .str "LOW_values" "low") rfl)
    c_OTHER := ⟨_, (He.glo_ok X G (c.t.d.fact 71 (f := .glo "OTHER") rfl)), mk_kdct (x := "OTHER") (q := ("yes", .str "no")) kd2 t6 (by simp), mk_kdct (x := "OTHER") (q := ("no", .str "yes")) kd2 t6 (by simp)⟩
    b_abs := He.free_ok X G (c.t.d.fact 72 (f := .free "abs") rfl)
    b_all := He.free_ok X G (c.t.d.fact 73 (f := .free "all") rfl)
    b_any := He.free_ok X G (c.t.d.fact 74 (f := .free "any") rfl)
    b_bool := He.free_ok X G (c.t.d.fact 75 (f := .free "bool") rfl)
    b_dict := He.free_ok X G (c.t.d.fact 76 (f := .free "dict") rfl)
    b_divmod := He.free_ok X G (c.t.d.fact 77 (f := .free "divmod") rfl)
    b_enumerate := He.free_ok X G (c.t.d.fact 78 (f := .free "enumerate") rfl)
    b_int := He.free_ok X G (c.t.d.fact 79 (f := .free "int") rfl)
    b_isinstance := He.free_ok X G (c.t.d.fact 80 (f := .free "isinstance") rfl)
    b_len := He.free_ok X G (c.t.d.fact 81 (f := .free "len") rfl)
    b_list := He.free_ok X G (c.t.d.fact 82 (f := .free "list") rfl)
    b_max := He.free_ok X G (c.t.d.fact 83 (f := .free "max") rfl)
    b_min := He.free_ok X G (c.t.d.fact 84 (f := .free "min") rfl)
    b_range := He.free_ok X G (c.t.d.fact 85 (f := .free "range") rfl)
    b_repr := He.free_ok X G (c.t.d.fact 86 (f := .free "repr") rfl)
    b_sorted := He.free_ok X G (c.t.d.fact 87 (f := .free "sorted") rfl)
    b_str := He.free_ok X G (c.t.d.fact 88 (f := .free "str") rfl)
    b_sum := He.free_ok X G (c.t.d.fact 89 (f := .free "sum") rfl)
    b_tuple := He.free_ok X G (c.t.d.fact 90 (f := .free "tuple") rfl)
    b_zip := He.free_ok X G (c.t.d.fact 91 (f := .free "zip") rfl)
  }
theorem mk_mt (X : K.In h) (G : h.Ns mainGlobals mg) (c : He.SaysX fa fn ts tf ex w h K) : MtOk K mg (He.ga K "Match") where
  cl := He.cls_ok (c.t.d.fact 107 (f := .cls "Match") rfl)
  nP := He.noat_ok (c.t.d.fact 108 (f := .noat "Match" "prenex") rfl)
  nD := He.noat_ok (c.t.d.fact 109 (f := .noat "Match" "defence") rfl)
  nL := He.noat_ok (c.t.d.fact 110 (f := .noat "Match" "plans") rfl)
  nT := He.noat_ok (c.t.d.fact 111 (f := .noat "Match" "told") rfl)
  m := (He.glo_ok X G (c.t.d.fact 61 (f := .glo "Match") rfl))
  f_init := mk_meth (c.t.d.def_ 30 (d := d_Match___init__) rfl) (He.mkr_ok (c.t.d.fact 120 (f := .mkr "Match") rfl))
  f_numbers := mk_meth (c.t.d.def_ 31 (d := d_Match_numbers) rfl) (He.meth_ok (c.t.d.fact 112 (f := .meth "Match" "numbers") rfl))
  f_is_over := mk_meth (c.t.d.def_ 32 (d := d_Match_is_over) rfl) (He.meth_ok (c.t.d.fact 113 (f := .meth "Match" "is_over") rfl))
  f_turn := mk_meth (c.t.d.def_ 33 (d := d_Match_turn) rfl) (He.meth_ok (c.t.d.fact 114 (f := .meth "Match" "turn") rfl))
  f_go := mk_meth (c.t.d.def_ 34 (d := d_Match_go) rfl) (He.meth_ok (c.t.d.fact 115 (f := .meth "Match" "go") rfl))
  f_go_on := mk_meth (c.t.d.def_ 35 (d := d_Match_go_on) rfl) (He.meth_ok (c.t.d.fact 116 (f := .meth "Match" "go_on") rfl))
  f_say := mk_meth (c.t.d.def_ 36 (d := d_Match_say) rfl) (He.meth_ok (c.t.d.fact 117 (f := .meth "Match" "say") rfl))
  f_back := mk_meth (c.t.d.def_ 37 (d := d_Match_back) rfl) (He.meth_ok (c.t.d.fact 118 (f := .meth "Match" "back") rfl))
  f_winner := mk_meth (c.t.d.def_ 38 (d := d_Match_winner) rfl) (He.meth_ok (c.t.d.fact 119 (f := .meth "Match" "winner") rfl))
theorem mk_exs (X : K.In h) (G : h.Ns mainGlobals mg) (c : He.SaysX fa fn ts tf ex w h K) : Exs K mg (He.ga K "NotDefended") (He.ga K "NothingToUndo") (He.ga K "InvalidNumbers") (He.ga K "StateError") (He.ga K "BookError") ∧
    ExcOk K mg "NotDefended" (He.ga K "NotDefended") ∧ ExcOk K mg "NothingToUndo" (He.ga K "NothingToUndo") ∧ OexC K (He.ga K "InvalidNumbers") ∧ PySem.W.findIn K (.ref (He.ga K "InvalidNumbers")) "__init__" = some (some (.ref (He.ma K (He.ga K "InvalidNumbers") "__init__"))) ∧
    PySem.W.typeIn K (.ref (He.ma K (He.ga K "InvalidNumbers") "__init__")) = some (.type "function") ∧ (He.cT K tMr).2 ≠ (He.cT K tWr).2 := by
  have hx : ex2 K = true := (Bool.and_eq_true_iff.mp (show (ex1 K && ex2 K) = true from c.more)).2
  obtain ⟨x1, hx⟩ := Bool.and_eq_true_iff.mp hx
  obtain ⟨x2, hx⟩ := Bool.and_eq_true_iff.mp hx
  obtain ⟨x3, hx⟩ := Bool.and_eq_true_iff.mp hx
  obtain ⟨x4, hx⟩ := Bool.and_eq_true_iff.mp hx
  obtain ⟨x5, hx⟩ := Bool.and_eq_true_iff.mp hx
  obtain ⟨x6, hx⟩ := Bool.and_eq_true_iff.mp hx
  obtain ⟨x7, hx⟩ := Bool.and_eq_true_iff.mp hx
  obtain ⟨x8, hx⟩ := Bool.and_eq_true_iff.mp hx
  obtain ⟨x9, hx⟩ := Bool.and_eq_true_iff.mp hx
  obtain ⟨x10, hx⟩ := Bool.and_eq_true_iff.mp hx
  obtain ⟨x11, hx⟩ := Bool.and_eq_true_iff.mp hx
  obtain ⟨x12, hx⟩ := Bool.and_eq_true_iff.mp hx
  obtain ⟨x13, hx⟩ := Bool.and_eq_true_iff.mp hx
  obtain ⟨x14, hx⟩ := Bool.and_eq_true_iff.mp hx
  obtain ⟨x15, hx⟩ := Bool.and_eq_true_iff.mp hx
  obtain ⟨x16, hx⟩ := Bool.and_eq_true_iff.mp hx
  refine ⟨⟨(He.glo_ok X G (c.t.d.fact 62 (f := .glo "NotDefended") rfl)), (He.glo_ok X G (c.t.d.fact 63 (f := .glo "NothingToUndo") rfl)), (He.glo_ok X G (c.t.d.fact 64 (f := .glo "InvalidNumbers") rfl)), (He.glo_ok X G (c.t.d.fact 65 (f := .glo "StateError") rfl)), (He.glo_ok X G (c.t.d.fact 66 (f := .glo "BookError") rfl)), excCB_ok x3, excCB_ok x4, excCB_ok x5, xfB_ok x6, of_decide_eq_true x8, of_decide_eq_true x9, of_decide_eq_true x10, of_decide_eq_true x11, He.exm_ok (c.t.d.fact 121 (f := .exm "NotDefended" "NotDefended" true) rfl), He.exm_ok (c.t.d.fact 122 (f := .exm "NothingToUndo" "NotDefended" false) rfl), He.exm_ok (c.t.d.fact 123 (f := .exm "NothingToUndo" "NothingToUndo" true) rfl), He.exm_ok (c.t.d.fact 124 (f := .exm "InvalidNumbers" "NotDefended" false) rfl), He.exm_ok (c.t.d.fact 125 (f := .exm "InvalidNumbers" "NothingToUndo" false) rfl), He.exm_ok (c.t.d.fact 126 (f := .exm "InvalidNumbers" "InvalidNumbers" true) rfl)⟩, rtBB_ok (He.glo_ok X G (c.t.d.fact 62 (f := .glo "NotDefended") rfl)) x1, rtBB_ok (He.glo_ok X G (c.t.d.fact 63 (f := .glo "NothingToUndo") rfl)) x2, ⟨oexB_ok x7, of_decide_eq_true x12, of_decide_eq_true x13, of_decide_eq_true x14, He.keep_ok (c.t.d.fact 127 (f := .keep "InvalidNumbers") rfl)⟩, of_decide_eq_true x15, of_decide_eq_true x16, fun z => ?_⟩
  rw [z] at hx
  simp at hx
theorem mk_defC {x : Str} {st : Stmt} {p : He.Defn} (ep : p = (x, none)) (hd : ∃ fd, FunD K x x (defArgs st) (defBody st) (defScope st) [] [] (He.fAd K p) fd) (hm : mg x = some (.ref (He.fAd K p))) : Lay.IsDefC K mg x st (He.cT K p).1 := by
  obtain ⟨fd, F⟩ := hd
  have F2 := funD_fun F
  obtain ⟨oc, od, kV, doc, pm, an, cdv, ct, osl, e, lk, hc⟩ := F2.ex
  obtain ⟨cc, rfl⟩ := He.codeIn_ref hc
  have e1 : fd.code = .ref cc := by rw [e] <;> rfl
  have e2 : (He.cT K p).1 = cc := He.codeOf_eq lk e1
  exact ⟨_, fd, hm, F2, by rw [e2]; exact e1⟩
abbrev qM : Str := (envOfC "_law_match_right" (defScope s__law_match_right) 0 0 .none).qual ++ "<lambda>"
abbrev qW : Str := (envOfC "_law_whole_right" (defScope s__law_whole_right) 0 0 .none).qual ++ "<lambda>"
theorem mk_law {P : Program} (X : K.In h) (G : h.Ns mainGlobals mg) (c : He.SaysX fa fn ts tf ex w h K) (base : Heap) (TB : ∀ p ∈ [He.cT K tMr, He.cT K tWr], LamX.TabB base mg p.1 p.2) :
    CalG P w K mg base "law" ["script"] 23 (sp_law [((He.cT K tMr).2, qM), ((He.cT K tWr).2, qW)] K) := by
  have T := mk_top X G c
  have M := mk_mt X G c
  obtain ⟨S, Nd, Nu, oi, fi, ti, ne⟩ := mk_exs X G c
  obtain ⟨fdI, FDI⟩ := (c.t.d.def_ 0 (d := d_InvalidNumbers___init__) rfl)
  have FI : Fun K "__init__" "InvalidNumbers.__init__" s_InvalidNumbers___init__ (He.ma K (He.ga K "InvalidNumbers") "__init__") fdI := funD_fun FDI
  have In : InvOk P w K mg base (He.ga K "InvalidNumbers") (He.ma K (He.ga K "InvalidNumbers") "__init__") fdI := ⟨oi, S.inm, fi, ti, in_init FI oi S.inV, FI.binds fun _ _ _ _ _ _ us hl => match us, hl with | [_, _], _ => rfl⟩
  have FW := mk_defC (x := "_law_whole_right") (st := s__law_whole_right) (p := tWr) rfl (c.t.d.def_ 68 (d := d__law_whole_right) rfl) (He.glo_ok X G (c.t.d.fact 58 (f := .glo "_law_whole_right") rfl))
  have FM := mk_defC (x := "_law_match_right") (st := s__law_match_right) (p := tMr) rfl (c.t.d.def_ 67 (d := d__law_match_right) rfl) (He.glo_ok X G (c.t.d.fact 57 (f := .glo "_law_match_right") rfl))
  have Wh := cal__law_whole_right (Tt := [((He.cT K tMr).2, qM), ((He.cT K tWr).2, qW)]) T M FW (TB _ (by simp)) S Nd Nu In (List.mem_cons_of_mem _ List.mem_cons_self) (fun p hp e => by
    rcases List.mem_cons.mp hp with z | z
    · subst z; exact absurd e ne
    · have z2 : p = ((He.cT K tWr).2, qW) := by simpa using z
      subst z2; rfl)
  have Mr := cal__law_match_right (Tt := [((He.cT K tMr).2, qM), ((He.cT K tWr).2, qW)]) T M FM (TB _ (by simp)) S Nd Nu In List.mem_cons_self (fun p hp e => by
    rcases List.mem_cons.mp hp with z | z
    · subst z; rfl
    · have z2 : p = ((He.cT K tWr).2, qW) := by simpa using z
      subst z2; exact absurd e.symm ne) Wh
  exact cal_law T (cal__law_right T Mr)
end
end K85

/-! ### text HF -/
theorem PySem.Challenge.cw_defended_k85_whole_matches_by_hand_holds : PySem.Challenge.rw_defended_k85_whole_matches_by_hand.Holds :=
  K85.fin (fun K => K85.sp_law [((He.cT K K85.tMr).2, K85.qM), ((He.cT K K85.tWr).2, K85.qW)] K)
    (fun K H a ns hl hb hT hS => ⟨a, ns, rfl, hS, hb, hl, fun p hp => by
      rcases List.mem_cons.mp hp with z | z
      · subst z; exact LamX.TabS.nil (hT _ List.mem_cons_self)
      · have z2 : p = ((He.cT K K85.tWr).2, K85.qW) := by simpa using z
        subst z2; exact LamX.TabS.nil (hT _ (List.mem_cons_of_mem _ List.mem_cons_self)), fun _ => rfl⟩)
    (fun w K mg h base KX G c TB => K85.mk_law KX G c base TB)
