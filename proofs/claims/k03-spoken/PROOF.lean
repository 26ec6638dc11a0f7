import PyProof.Rows.All
import Wide.All
import OpenK.AllK
import Wide.FinOn
import HandS.ForMost
import HandS.TupSets
import HandS.SetBool
import HandS.Deep
import HandS.Style
import HandS.Steps
import HandS.Walk
import HandS.Evl
import HandS.DictComp
import HandS.Iter
import KE.KDictWalk
import HandS.Lambda
import HandS.SortKw
import KE.SortKeyHeap
import HandS.ForExc
import HandS.ExcInit
import HandS.CallSlots
import PyProof.Rows.SeqMore
import HandS.EndTab
import KE.DataFind
import HandS.ExcField
import HandS.Conv
import HandS.ExcIs
import KE.KExcIs
import PyProof.Rows.CountFlat
import HandS.MakeKwOnly
import HandS.TupAny
import HandS.Flow
import HandS.Text
import PyProof.StrOps2
import HandS.Defaults
import PyProof.NeKinds
import KE.KStateDown
import HandS.Head0
import HandS.Head1
import HandS.Head2
import HandS.HeadEnd
import HandS.HeadHook1
import HandS.HeadHook2
import PySem.Challenge.RW_skiphall_k03_what_may_be_spoken_of
set_option Elab.async false
set_option linter.all false
set_option maxRecDepth 100000
set_option maxHeartbeats 8000000
/-! A layer of our own over HandS: sets made by a comprehension, whatever they hold; a walk over a list or a tuple. -/
namespace GK
open PySem PySem.Spec PyProof.Rows L2 PpSet
theorem hr65 {k : Nat} {A : Around} (r : Room k A) : A.units + 65 < cLine := by have := r.un; omega
section
variable {X : Cx}
/-- a list or a tuple -/
def iSeq (K : PySem.W.Frag) (tl : TE) : TI := fun σ H R => iList K tl σ H R ∨ iTup K tl σ H R
theorem pi_seq {l tg : Expr} {tl : TE} (hl : PE X l tl) : PI X tg l (iSeq X.K tl) :=
  ⟨fun pins s σ H R I h => h.elim (fun z => (pi_list hl).run pins s σ H R I z) (fun z => (pi_tup hl).run pins s σ H R I z)⟩
end
/-! ### tuples of ints -/
/-- one more tuple: the members behind it -/
def Added (L : List (Addr × List Int)) (t : Addr) (k : List Int) (L' : List (Addr × List Int)) : Prop :=
  (k ∈ L.map (·.2) → L' = L) ∧ (k ∉ L.map (·.2) → L'.Perm ((t, k) :: L))
/-! ### readings by name -/
def gLenQ (K : PySem.W.Frag) : List V → Hp → VK → Prop := fun xs H Q => ∃ p ys, xs = [.ref p] ∧ (SqL K H p ys ∨ SqT K H p ys) ∧ Q (.int ys.length) H
def gAbs : List V → Hp → VK → Prop := fun xs H Q => ∃ i, xs = [.int i] ∧ Q (.int (if i < 0 then -i else i)) H
def gInt1 : List V → Hp → VK → Prop := fun xs H Q => (∃ i, xs = [.int i] ∧ Q (.int i) H) ∨ ∃ k, xs = [.bl k] ∧ Q (.int (if k then 1 else 0)) H
def gListOf (K : PySem.W.Frag) : List V → Hp → VK → Prop := fun xs H Q => ∃ p ys, xs = [.ref p] ∧ (SqL K H p ys ∨ SqT K H p ys) ∧ ∀ l, H l = none → Q (.ref l) (upd H l (.lst ys))
def gTupOf (K : PySem.W.Frag) : List V → Hp → VK → Prop := fun xs H Q => ∃ p ys, xs = [.ref p] ∧ ((SqL K H p ys ∧ ∀ l, H l = none → Q (.ref l) (upd H l (.tup ys))) ∨ (SqT K H p ys ∧ Q (.ref p) H))
end GK
/-! Heaps that grow, data that stands in them, comprehensions that only make new things. -/
namespace GK
open PySem PySem.Spec PyProof.Rows L2
/-! ### heaps -/
/-- what H' has beyond H -/
def dif (H H' : Hp) : Hp := fun a => match H a with | none => H' a | some _ => none
theorem dif_some {H H' : Hp} {a : Addr} {o : HO} : dif H H' a = some o ↔ H a = none ∧ H' a = some o := by
  unfold dif
  cases H a <;> simp
theorem dif_mono {H H1 H2 H3 : Hp} (a : Same H H1) (b : Same H2 H3) : Same (dif H1 H2) (dif H H3) := fun c o h =>
  let ⟨h1, h2⟩ := dif_some.mp h
  dif_some.mpr ⟨a.free h1, b c o h2⟩
/-- all but the object at r -/
def off (r : Addr) (H : Hp) : Hp := fun a => if a = r then none else H a
theorem off_some {r a : Addr} {H : Hp} {o : HO} : off r H a = some o ↔ a ≠ r ∧ H a = some o := by
  unfold off
  by_cases h : a = r <;> simp [h]
theorem off_same (r : Addr) (H : Hp) : Same (off r H) H := fun a o h => (off_some.mp h).2
theorem off_mono {r : Addr} {H H' : Hp} (a : Same H H') : Same (off r H) (off r H') := fun c o h =>
  let ⟨h1, h2⟩ := off_some.mp h
  off_some.mpr ⟨h1, a c o h2⟩
theorem off_upd (r : Addr) (H : Hp) (o : HO) : off r (upd H r o) = off r H := by
  funext a
  unfold off upd
  by_cases h : a = r <;> simp [h]
theorem same_new {H : Hp} {p : Addr} {o : HO} (h : H p = none) : Same H (upd H p o) := fun a u e => by
  rw [upd_ne (ne_of_none e h)]
  exact e
/-- what H does not know may change -/
theorem same_mut {H H' : Hp} {p : Addr} {o : HO} (e : Same H H') (h : H p = none) : Same H (upd H' p o) := fun a u ha => by
  rw [upd_ne (ne_of_none ha h)]
  exact e a u ha
theorem sq_mono {K : PySem.W.Frag} {H H' : Hp} {a : Addr} {xs : List V} (e : Same H H') (h : SqL K H a xs) : SqL K H' a xs := e.seq h
theorem st_mono {K : PySem.W.Frag} {H H' : Hp} {a : Addr} {xs : List V} (e : Same H H') (h : SqT K H a xs) : SqT K H' a xs := by
  rcases h with (h | ⟨o, h⟩) | h
  · exact .inl (.inl (e _ _ h))
  · exact .inl (.inr ⟨o, e _ _ h⟩)
  · exact .inr h
/-! ### pairs of lists -/
section
variable {α β γ : Type} {F : α → β → Prop}
theorem pd_len : ∀ {xs : List α} {as : List β}, Paired F xs as → xs.length = as.length
  | _, _, .nil => rfl
  | _, _, .cons _ t => by rw [List.length_cons, List.length_cons, pd_len t]
theorem pd_get : ∀ {xs : List α} {as : List β} {i : Nat} {x : α}, Paired F xs as → xs[i]? = some x → ∃ a, as[i]? = some a ∧ F x a
  | _, _, _, _, .nil, e => by simp at e
  | _, _, 0, _, .cons r _, e => by simp at e; subst e; exact ⟨_, rfl, r⟩
  | _, _, i + 1, _, .cons _ t, e => by simpa using pd_get (i := i) t (by simpa using e)
theorem pd_back : ∀ {xs : List α} {as : List β} {i : Nat} {a : β}, Paired F xs as → as[i]? = some a → ∃ x, xs[i]? = some x ∧ F x a
  | _, _, _, _, .nil, e => by simp at e
  | _, _, 0, _, .cons r _, e => by simp at e; subst e; exact ⟨_, rfl, r⟩
  | _, _, i + 1, _, .cons _ t, e => by simpa using pd_back (i := i) t (by simpa using e)
theorem pd_imp {G : α → β → Prop} (f : ∀ x a, F x a → G x a) : ∀ {xs : List α} {as : List β}, Paired F xs as → Paired G xs as
  | _, _, .nil => .nil
  | _, _, .cons r t => .cons (f _ _ r) (pd_imp f t)
theorem pd_eq {f : β → α} : ∀ {xs : List α} {as : List β}, Paired (fun x a => x = f a) xs as → xs = as.map f
  | _, _, .nil => rfl
  | _, _, .cons r t => by rw [List.map_cons, r, pd_eq t]
theorem pd_map {f : β → α} : ∀ (as : List β), Paired (fun x a => x = f a) (as.map f) as
  | [] => .nil
  | a :: as => .cons rfl (pd_map as)
theorem pd_append : ∀ {xs ys : List α} {as bs : List β}, Paired F xs as → Paired F ys bs → Paired F (xs ++ ys) (as ++ bs)
  | _, _, _, _, .nil, s => s
  | _, _, _, _, .cons r t, s => .cons r (pd_append t s)
theorem pd_snoc {xs : List α} {as : List β} {x : α} {a : β} (h : Paired F xs as) (r : F x a) : Paired F (xs ++ [x]) (as ++ [a]) := pd_append h (.cons r .nil)
/-- by places -/
theorem pd_ix : ∀ {xs : List α} {as : List β}, xs.length = as.length → (∀ (i : Nat) x a, xs[i]? = some x → as[i]? = some a → F x a) → Paired F xs as
  | [], [], _, _ => .nil
  | x :: xs, a :: as, h, f => .cons (f 0 x a rfl rfl) (pd_ix (by simpa using h) fun i y b h1 h2 => f (i + 1) y b h1 h2)
end
/-! ### data: what a value stands for; all by Same -/
/-- a list | a tuple of things of which D tells -/
def LOf {α : Type} (K : PySem.W.Frag) (D : Hp → V → α → Prop) (H : Hp) (v : V) (as : List α) : Prop := ∃ a vs, v = .ref a ∧ SqL K H a vs ∧ Paired (D H) vs as
def TOf {α : Type} (K : PySem.W.Frag) (D : Hp → V → α → Prop) (H : Hp) (v : V) (as : List α) : Prop := ∃ a vs, v = .ref a ∧ SqT K H a vs ∧ Paired (D H) vs as
def Up {α : Type} (D : Hp → V → α → Prop) : Prop := ∀ H H' v a, Same H H' → D H v a → D H' v a
def CellD (K : PySem.W.Frag) : Hp → V → Int × Int → Prop := fun H v c => ∃ t, v = .ref t ∧ SqT K H t [.int c.1, .int c.2]
/-! ### data as PyData (deep ==, in) -/
theorem shp {d : PyData} (h : d.canLay0 = true) (h2 : d.depth ≤ 64) : SeqAt.shaped d = true := by
  show (d.canLay0 && decide (d.depth ≤ 64)) = true
  rw [Bool.and_eq_true]
  exact ⟨h, decide_eq_true h2⟩
/-! ### comprehensions that make new things and change nothing -/
/-- one turn at the item x: whether something is kept (f), and what (D, of what is new) -/
def El (g : TG) (tt : TT) (te : TE) (vs : List Nat) (σ : L2.St) (H1 : Hp) (x : V) (f : Bool) (D : Hp → V → Prop) : Prop :=
  ∀ H', Same H1 H' → ∀ (N : Hp → Prop) (Y : V → Hp → Prop), (f = false → ∀ H2, Same H' H2 → N H2) → (f = true → ∀ y H2, Same H' H2 → D (dif H' H2) y → Y y H2) →
    g x (wipe σ vs) H' fun σ2 H2 => wipe σ2 vs = wipe σ vs ∧ tt σ2 H2 fun b H3 => if b = true then te σ2 H3 Y else N H3
/-- no test: all are kept -/
theorem el_yes {te : TE} {vs : List Nat} {σ : L2.St} {H1 : Hp} {x : V} {j : Nat} {D : Hp → V → Prop} (hw : wipe ((wipe σ vs).set j (some x)) vs = wipe σ vs)
    (h : ∀ H', Same H1 H' → ∀ Y : V → Hp → Prop, (∀ y H2, Same H' H2 → D (dif H' H2) y → Y y H2) → te ((wipe σ vs).set j (some x)) H' Y) : El (gName j) tYes te vs σ H1 x true D :=
  fun H' e N Y _ hY => ⟨hw, by show (if true = true then te _ H' Y else N H'); rw [if_pos rfl]; exact h H' e Y (hY rfl)⟩
section
variable {α : Type} {J : It} {n : Nat} {G : Hp → Prop} {Yd : Nat → Hp → V → Hp → Prop} {g : TG} {tt : TT} {te : TE} {vs : List Nat} {σ : L2.St} {H1 : Hp} {Dl : Addr} {Qd : Hp → Prop}
/-- a comprehension over a walk that changes nothing: as tells what the items stand for -/
theorem lc_pure (w : Walk J n G Yd) (Sx : Nat → V → Prop) (hY : ∀ i H x H', i < n → Yd i H x H' → H' = H ∧ Sx i x) (hG : ∀ H', Same H1 H' → G H') (hD : H1 Dl = none)
    (as : List α) (hn : as.length = n) (hz : n ≤ 100000) (f : α → Bool) (D : α → Hp → V → Prop) (up : ∀ a H H' v, Same H H' → D a H v → D a H' v)
    (el : ∀ (i : Nat) a x, as[i]? = some a → Sx i x → El g tt te vs σ H1 x (f a) (D a))
    (done : ∀ ys H2, Same H1 H2 → H2 Dl = some (.lst ys) → Paired (fun y a => D a (dif H1 (off Dl H2)) y) ys (as.filter f) → Qd H2) :
    ∃ W : Nat → Nat → Hp → Prop, (∃ m, W 0 m (upd H1 Dl (.lst []))) ∧ ∀ i m H, W i m H →
      (J.stop i H ∧ Qd H) ∨ (J.go i H ∧ ∃ Nx : Hp → Prop, (∀ H', Nx H' → ∃ m', m' < m ∧ W (i + 1) m' H') ∧ ∀ x H', J.yld i H x H' → g x (wipe σ vs) H' fun σ2 H2 => wipe σ2 vs = wipe σ vs ∧ tt σ2 H2 fun b H3 =>
        if b = true then te σ2 H3 fun y H4 => ∃ acc, H4 Dl = some (.lst acc) ∧ acc.length < sizeLine ∧ Nx (upd H4 Dl (.lst (acc ++ [y]))) else Nx H3) := by
  let Pv : Nat → Hp → Prop := fun i H => Same H1 H ∧ ∃ ys, H Dl = some (.lst ys) ∧ Paired (fun y a => D a (dif H1 (off Dl H)) y) ys ((as.take i).filter f)
  refine lc_it w Pv ⟨same_new hD, [], upd_same, by rw [List.take_zero]; exact .nil⟩ (fun i H _ p => hG H p.1) (fun i x H H' hi p y => ?_) (fun H p => ?_)
  · obtain ⟨rfl, hx⟩ := hY i H x H' hi y
    obtain ⟨e, ys, hl, pd⟩ := p
    have hia : i < as.length := by omega
    have ha : as[i]? = some as[i] := List.getElem?_eq_getElem hia
    have tk : as.take (i + 1) = as.take i ++ [as[i]] := by rw [List.take_succ, ha]; rfl
    refine el i as[i] x ha hx H' e (Pv (i + 1)) (fun y H4 => ∃ acc, H4 Dl = some (.lst acc) ∧ acc.length < sizeLine ∧ Pv (i + 1) (upd H4 Dl (.lst (acc ++ [y])))) (fun hf H2 e2 => ?_) (fun hf y H2 e2 hy => ?_)
    · refine ⟨e.trans e2, ys, e2 _ _ hl, ?_⟩
      rw [tk, List.filter_append]
      have z : [as[i]].filter f = [] := by rw [List.filter_cons, if_neg (by rw [hf]; decide)]; rfl
      rw [z, List.append_nil]
      exact pd_imp (fun v a q => up a _ _ v (dif_mono (Same.refl _) (off_mono e2)) q) pd
    · have hlen : ys.length < sizeLine := by
        have h1 := pd_len pd
        have h2 : ((as.take i).filter f).length ≤ i := Nat.le_trans (List.length_filter_le _ _) (by rw [List.length_take]; exact Nat.min_le_left _ _)
        exact Nat.lt_of_le_of_lt (by omega : ys.length ≤ 100000) (by decide)
      refine ⟨ys, e2 _ _ hl, hlen, same_mut (e.trans e2) hD, ys ++ [y], upd_same, ?_⟩
      rw [tk, List.filter_append]
      have z : [as[i]].filter f = [as[i]] := by rw [List.filter_cons, if_pos hf]; rfl
      rw [z, off_upd]
      refine pd_snoc (pd_imp (fun v a q => up a _ _ v (dif_mono (Same.refl _) (off_mono e2)) q) pd) ?_
      refine up _ _ _ y (fun c o hc => ?_) hy
      obtain ⟨c1, c2⟩ := dif_some.mp hc
      exact dif_some.mpr ⟨e.free c1, off_some.mpr ⟨fun z => (by subst z; rw [hl] at c1; cases c1), c2⟩⟩
  · obtain ⟨e, ys, hl, pd⟩ := p
    rw [← hn, List.take_length] at pd
    exact done ys H e hl pd
/-- over a list of things xs (at a), which as tells -/
theorem lc_pureL {K : PySem.W.Frag} {a : Addr} {xs : List V} (S : V → α → Prop) (hx : SqL K H1 a xs) (as : List α) (hp : Paired S xs as) (hz : xs.length ≤ 100000) (hD : H1 Dl = none) (f : α → Bool) (D : α → Hp → V → Prop) (up : ∀ a H H' v, Same H H' → D a H v → D a H' v)
    (el : ∀ (i : Nat) b x, as[i]? = some b → xs[i]? = some x → S x b → El g tt te vs σ H1 x (f b) (D b))
    (done : ∀ ys H2, Same H1 H2 → H2 Dl = some (.lst ys) → Paired (fun y b => D b (dif H1 (off Dl H2)) y) ys (as.filter f) → Qd H2) :
    ∃ W : Nat → Nat → Hp → Prop, (∃ m, W 0 m (upd H1 Dl (.lst []))) ∧ ∀ i m H, W i m H →
      ((Itl K a).stop i H ∧ Qd H) ∨ ((Itl K a).go i H ∧ ∃ Nx : Hp → Prop, (∀ H', Nx H' → ∃ m', m' < m ∧ W (i + 1) m' H') ∧ ∀ x H', (Itl K a).yld i H x H' → g x (wipe σ vs) H' fun σ2 H2 => wipe σ2 vs = wipe σ vs ∧ tt σ2 H2 fun b H3 =>
        if b = true then te σ2 H3 fun y H4 => ∃ acc, H4 Dl = some (.lst acc) ∧ acc.length < sizeLine ∧ Nx (upd H4 Dl (.lst (acc ++ [y]))) else Nx H3) :=
  lc_pure (walk_list (K := K) (a := a) (xs := xs)) (fun i x => xs[i]? = some x) (fun i H x H' _ y => y) (fun H' e => sq_mono e hx) hD as (pd_len hp).symm hz f D up
    (fun i b x hb hx' => by
      obtain ⟨c, h1, h2⟩ := pd_get hp hx'
      rw [hb] at h1
      cases h1
      exact el i b x hb hx' h2) done
end
end GK
/-! What an expression evaluates to while the heap only grows: more words beside Evl's. -/
namespace GK
open PySem PySem.Spec PyProof.Rows L2 Evl
variable {K : PySem.W.Frag} {σ : L2.St} {H H' : Hp} {ta tb tc te tl : TE} {t u : TT} {x y z v : V}
theorem ev_chain {p q : Int → Int → Bool} {i j k : Int} (ha : Ev ta σ H (.int i)) (hb : Ev tb σ H (.int j)) (hc : Ev tc σ H (.int k)) :
    Ev (tChain (rI0 fun i j => .bl (p i j)) (rI0 fun i j => .bl (q i j)) ta tb tc) σ H (.bl (p i j && q j k)) := fun H1 e Q r =>
  ha H1 e _ fun H2 e2 => hb H2 (e.trans e2) _ fun H3 e3 => ⟨i, j, rfl, rfl, p i j, rfl, by
    cases h : p i j with
    | false =>
      rw [h, Bool.false_and] at r
      exact iteF (r H3 (e2.trans e3))
    | true =>
      rw [h, Bool.true_and] at r
      exact iteT (hc H3 ((e.trans e2).trans e3) _ fun H4 e4 => ⟨j, k, rfl, rfl, r H4 ((e2.trans e3).trans e4)⟩)⟩
theorem ev_oI {g : Int → Int → V} {i j : Int} (ha : Ev ta σ H (.int i)) (hb : Ev tb σ H (.int j)) : Ev (tOp (rI0 g) ta tb) σ H (g i j) := ev_op ha hb rv_I0
theorem ev_oC {C : Int → Int → Prop} {g : Int → Int → V} {i j : Int} (ha : Ev ta σ H (.int i)) (hb : Ev tb σ H (.int j)) (hc : C i j) : Ev (tOp (rI C g) ta tb) σ H (g i j) := ev_op ha hb (rv_I hc)
theorem ev_eqS (ha : Ev ta σ H x) (hb : Ev tb σ H y) (h : scal x y = true) : Ev (tOp rEq ta tb) σ H (.bl (decide (x = y))) := ev_op ha hb (rv_eq h)
theorem ev_neS (ha : Ev ta σ H x) (hb : Ev tb σ H y) (h : scal x y = true) : Ev (tOp rNe ta tb) σ H (.bl (!decide (x = y))) := ev_op ha hb (rv_ne h)
theorem ev_ixL {p : Addr} {xs : List V} {i : Int} (ha : Ev ta σ H (.ref p)) (hb : Ev tb σ H (.int i)) (h : SqL K H p xs) (hi : atI xs i = some v) : Ev (tOp (rIxL K) ta tb) σ H v := ev_op ha hb (rv_ixL h hi)
theorem ev_ixT {p : Addr} {xs : List V} {i : Int} (ha : Ev ta σ H (.ref p)) (hb : Ev tb σ H (.int i)) (h : SqT K H p xs) (hi : atI xs i = some v) : Ev (tOp (rIxT K) ta tb) σ H v := ev_op ha hb (rv_ixT h hi)
theorem ev_lenS {p : Addr} {xs : List V} (ha : Ev ta σ H (.ref p)) (h : SqL K H p xs ∨ SqT K H p xs) : Ev (tCB (gLenQ K) (tCons ta tNil)) σ H (.int (xs.length : Int)) := fun H1 e Q q =>
  ha H1 e _ fun H2 e2 => ⟨p, xs, rfl, h.imp (ex_l (e.trans e2)) (ex_t (e.trans e2)), q H2 e2⟩
theorem ev_sumN {ns : List Int} (ha : EvL ta σ H (ns.map V.int)) : Ev (tCB (rSum K) (tCons ta tNil)) σ H (.int ns.sum) := fun H1 e Q q =>
  ha H1 e _ fun p H2 _ e2 h2 => ⟨p, ns, rfl, sq_of h2, q H2 e2⟩
theorem ev_allN {bs : List Bool} (ha : EvL ta σ H (bs.map V.bl)) : Ev (tCB (rAll K) (tCons ta tNil)) σ H (.bl (bs.all id)) := fun H1 e Q q =>
  ha H1 e _ fun p H2 _ e2 h2 => ⟨p, bs, rfl, sq_of h2, q H2 e2⟩
theorem ev_abs {i : Int} (ha : Ev ta σ H (.int i)) : Ev (tCB gAbs (tCons ta tNil)) σ H (.int (if i < 0 then -i else i)) := fun H1 e Q q =>
  ha H1 e _ fun H2 e2 => ⟨i, rfl, q H2 e2⟩
theorem el_listOf {p : Addr} {xs : List V} (ha : Ev ta σ H (.ref p)) (h : SqL K H p xs ∨ SqT K H p xs) : EvL (tCB (gListOf K) (tCons ta tNil)) σ H xs := fun H1 e Q q =>
  ha H1 e _ fun H2 e2 => ⟨p, xs, rfl, h.imp (ex_l (e.trans e2)) (ex_t (e.trans e2)), fun l hl => q l _ (fresh_back e2 hl) (e2.trans (Ex.new hl)) upd_same⟩
/-- a cut of a new list -/
theorem el_slN {tl' th : TO} {xs : List V} {lo hi : Option Int} (h : EvL te σ H xs) (h1 : EvO tl' σ H lo) (h2 : EvO th σ H hi) : EvL (tSl (rSlL K) te tl' th) σ H (cutV xs lo hi) := fun H1 e _ q =>
  h H1 e _ fun p H2 hp e2 hx => h1 H2 (e.trans e2) _ fun H3 e3 => h2 H3 ((e.trans e2).trans e3) _ fun H4 e4 =>
    ⟨p, xs, rfl, sq_of ((e3.trans e4) p _ hx), fun l hl => q l _ (fresh_back ((e2.trans e3).trans e4) hl) (((e2.trans e3).trans e4).trans (Ex.new hl)) upd_same⟩
/-! ### new data -/
def EvN (te : TE) (σ : L2.St) (H : Hp) (D : Hp → V → Prop) : Prop := ∀ H1, Same H H1 → ∀ Q : VK, (∀ v H2, Same H1 H2 → D (dif H1 H2) v → Q v H2) → te σ H1 Q
theorem EvN.mono {D : Hp → V → Prop} (e : Same H H') (h : EvN te σ H D) : EvN te σ H' D := fun H1 a Q q => h H1 (e.trans a) Q q
theorem EvN.imp {D D' : Hp → V → Prop} (h : EvN te σ H D) (f : ∀ H v, D H v → D' H v) : EvN te σ H D' := fun H1 a Q q => h H1 a Q fun v H2 e d => q v H2 e (f _ _ d)
theorem en_of (h : Ev te σ H v) : EvN te σ H (fun _ x => x = v) := fun H1 e Q q => h H1 e Q fun H2 e2 => q v H2 e2 rfl
/-- the source of a walk over a list: what stands in it, and what that tells -/
def Src {α : Type} (K : PySem.W.Frag) (tl : TE) (σ : L2.St) (H : Hp) (S : Hp → V → α → Prop) (as : List α) : Prop :=
  ∀ H1, Same H H1 → ∀ Q : VK, (∀ a xs H2, Same H1 H2 → SqL K H2 a xs → Paired (S H2) xs as → Q (.ref a) H2) → tl σ H1 Q
theorem src_of {α : Type} {S : Hp → V → α → Prop} {as : List α} {D : Hp → V → α → Prop} (up : Up S) (h : Ev tl σ H v) (hd : LOf K S H v as) : Src K tl σ H S as := fun H1 e Q q => by
  obtain ⟨a, xs, rfl, h1, h2⟩ := hd
  exact h H1 e _ fun H2 e2 => q a xs H2 e2 (sq_mono (e.trans e2) h1) (pd_imp (fun x b r => up _ _ x b (e.trans e2) r) h2)
/-- a new list of things of which D tells -/
def NL {α : Type} (D : Hp → V → α → Prop) (H : Hp) (v : V) (as : List α) : Prop := ∃ p ys, v = .ref p ∧ H p = some (.lst ys) ∧ Paired (D H) ys as
/-- a comprehension over it; a target of any form: the slots behind it are st x -/
theorem en_lc {α : Type} {S : Hp → V → α → Prop} {as : List α} {g : TG} {vs : List Nat} {f : α → Bool} {D : α → Hp → V → Prop} (src : Src K tl σ H S as) (hz : as.length ≤ 100000) (up : ∀ a H H' v, Same H H' → D a H v → D a H' v)
    (el : ∀ H1, Same H H1 → ∀ (i : Nat) b x, as[i]? = some b → S H1 x b → El g t te vs σ H1 x (f b) (D b)) : EvN (tLc (iList K tl) g t te vs) σ H (fun H' v => NL (fun H v b => D b H v) H' v (as.filter f)) := fun H0 e Q q =>
  src H0 e _ fun a xs H1 e1 hs hp => ⟨a, rfl, ⟨xs, hs⟩, fun Dl hD =>
    lc_pureL (K := K) (a := a) (xs := xs) (S H1) hs as hp (by rw [pd_len hp]; exact hz) hD f D up (fun i b x hb _ hS => el H1 (e.trans e1) i b x hb hS) (fun ys H2 e2 hl pd =>
      q _ H2 (e1.trans e2) ⟨Dl, ys, rfl, dif_some.mpr ⟨fresh_back e1 hD, hl⟩, pd_imp (fun y b r => up b _ _ y (dif_mono e1 (off_same _ _)) r) pd⟩)⟩
/-- one turn, the target a name, no test -/
theorem el_en {vs : List Nat} {j : Nat} {D : Hp → V → Prop} (hw : wipe ((wipe σ vs).set j (some x)) vs = wipe σ vs) (h : EvN te ((wipe σ vs).set j (some x)) H D) : El (gName j) tYes te vs σ H x true D := el_yes hw fun H' e Y hY => h H' e Y hY
theorem filter_yes {α : Type} (as : List α) : as.filter (fun _ => true) = as := List.filter_eq_self.mpr fun _ _ => rfl
/-- new things, one for each item; no test -/
theorem en_lcA {α : Type} {S : Hp → V → α → Prop} {as : List α} {vs : List Nat} {j : Nat} {D : α → Hp → V → Prop} (src : Src K tl σ H S as) (hz : as.length ≤ 100000) (up : ∀ a H H' v, Same H H' → D a H v → D a H' v) (hw : ∀ x, wipe ((wipe σ vs).set j (some x)) vs = wipe σ vs)
    (he : ∀ H1, Same H H1 → ∀ (i : Nat) b x, as[i]? = some b → S H1 x b → EvN te ((wipe σ vs).set j (some x)) H1 (D b)) : EvN (tLc (iList K tl) (gName j) tYes te vs) σ H (fun H' v => NL (fun H v b => D b H v) H' v as) := by
  have h := en_lc (f := fun _ => true) (g := gName j) (t := tYes) (te := te) (vs := vs) src hz up fun H1 e i b x hb hs => el_en (hw x) (he H1 e i b x hb hs)
  rw [filter_yes] at h
  exact h
end GK
/-! A comprehension over two ranges; a set made of a sequence of tuples. -/
namespace GK
open PySem PySem.Spec PyProof.Rows L2 Evl
variable {K : PySem.W.Frag} {σ : L2.St} {H H' : Hp} {te : TE}
theorem yes_of {A B : Hp → Prop} {σ : L2.St} {H : Hp} (h : A H) : tYes σ H (fun b H3 => if b = true then A H3 else B H3) := by
  show (if true = true then A H else B H)
  exact iteT h
/-! ### a set of tuples, made of a list or a tuple of cells -/
/-- what a set has got of the first cells: its members' contents are just these -/
structure Has (cs : List (Int × Int)) (L : List (Addr × List Int)) : Prop where
  sub : ∀ p ∈ L, ∃ c ∈ cs, p.2 = [c.1, c.2]
  all : ∀ c ∈ cs, [c.1, c.2] ∈ L.map (·.2)
  len : L.length ≤ cs.length
theorem Has.nil : Has [] [] := ⟨fun p h => (by cases h), fun c h => (by cases h), Nat.le_refl _⟩
theorem Has.more {cs : List (Int × Int)} {L L' : List (Addr × List Int)} {c : Int × Int} {t : Addr} (h : Has cs L) (a : Added L t [c.1, c.2] L') : Has (cs ++ [c]) L' := by
  by_cases hm : [c.1, c.2] ∈ L.map (·.2)
  · rw [a.1 hm]
    refine ⟨fun p hp => ?_, fun d hd => ?_, ?_⟩
    · obtain ⟨d, h1, h2⟩ := h.sub p hp
      exact ⟨d, List.mem_append_left _ h1, h2⟩
    · rcases List.mem_append.mp hd with z | z
      · exact h.all d z
      · rw [List.mem_singleton.mp z]; exact hm
    · rw [List.length_append]; have := h.len; omega
  · have pm := a.2 hm
    refine ⟨fun p hp => ?_, fun d hd => ?_, ?_⟩
    · rcases List.mem_cons.mp (pm.mem_iff.mp hp) with z | z
      · exact ⟨c, List.mem_append_right _ (List.mem_singleton.mpr rfl), by rw [z]⟩
      · obtain ⟨d, h1, h2⟩ := h.sub p z
        exact ⟨d, List.mem_append_left _ h1, h2⟩
    · rw [(pm.map (·.2)).mem_iff, List.map_cons]
      rcases List.mem_append.mp hd with z | z
      · exact List.mem_cons_of_mem _ (h.all d z)
      · rw [List.mem_singleton.mp z]; exact List.mem_cons_self
    · rw [pm.length_eq, List.length_cons, List.length_append]
      exact Nat.succ_le_succ h.len
theorem Added.sub {L L' : List (Addr × List Int)} {t : Addr} {k : List Int} (a : Added L t k L') : ∀ p ∈ L', p = (t, k) ∨ p ∈ L := fun p hp => by
  by_cases hm : k ∈ L.map (·.2)
  · rw [a.1 hm] at hp; exact .inr hp
  · exact List.mem_cons.mp ((a.2 hm).mem_iff.mp hp)
/-- a for over a list or a tuple of cells: nothing is changed, Pv tells of slots and heap -/
theorem for_seq {tl : TE} {g : TG} {tb : TS} {D : Ends} {α : Type} {S : Hp → V → α → Prop} {v : V} {as : List α} (up : Up S) (h : Ev tl σ H v) (hd : LOf K S H v as ∨ TOf K S H v as) (Pv : Nat → L2.St → Hp → Prop) (h0 : ∀ H1, Same H H1 → Pv 0 σ H1) (hP : ∀ i σ' H', Pv i σ' H' → Same H H')
    (hs : ∀ (i : Nat) x a σ' H', as[i]? = some a → S H' x a → Pv i σ' H' → g x σ' H' fun σ2 H2 => tb { D with nx := Pv (i + 1), ct := Pv (i + 1), bk := D.nx } σ2 H2) (hd' : ∀ σ' H', Pv as.length σ' H' → D.nx σ' H') : tFor (iSeq K tl) g tb D σ H := by
  rcases hd with ⟨a, xs, rfl, hs', hp⟩ | ⟨a, xs, rfl, hs', hp⟩
  · refine .inl (h H (Same.refl _) _ fun H1 e1 => ⟨a, rfl, ⟨xs, sq_mono e1 hs'⟩, ?_⟩)
    refine for_list (xs := xs) Pv (h0 H1 e1) (fun i σ' H' _ p => sq_mono (hP i σ' H' p) hs') (fun i x σ' H' hx p => ?_) (fun σ' H' p => hd' σ' H' (by rw [← pd_len hp]; exact p))
    obtain ⟨b, hb, hS⟩ := pd_get hp hx
    exact hs i x b σ' H' hb (up _ _ _ _ (hP i σ' H' p) hS) p
  · refine .inr (h H (Same.refl _) _ fun H1 e1 => ⟨a, rfl, ⟨xs, st_mono e1 hs'⟩, ?_⟩)
    refine for_tup (xs := xs) Pv (h0 H1 e1) (fun i σ' H' _ p => st_mono (hP i σ' H' p) hs') (fun i x σ' H' hx p => ?_) (fun σ' H' p => hd' σ' H' (by rw [← pd_len hp]; exact p))
    obtain ⟨b, hb, hS⟩ := pd_get hp hx
    exact hs i x b σ' H' hb (up _ _ _ _ (hP i σ' H' p) hS) p
end GK
/-! Lists of ints and tables of them: items, cuts, sums. -/
namespace GK
open PySem PySem.Spec PyProof.Rows L2 Evl
variable {K : PySem.W.Frag} {σ : L2.St} {H H' : Hp} {ta tb tc te tl : TE} {x y z v : V}
theorem at_neg1 {α : Type} {xs : List α} {d : α} (h : xs ≠ []) : atI xs (-1) = some (xs.getLastD d) := by
  have e : xs = xs.dropLast ++ [xs.getLast h] := (List.dropLast_concat_getLast h).symm
  have z : xs.getLastD d = xs.getLast h := by
    cases xs with
    | nil => exact absurd rfl h
    | cons a r => simp [List.getLastD, List.getLast?_eq_getLast]
  rw [z]
  conv => lhs; rw [e]
  exact atI_last _ _
/-! ### truths -/
noncomputable def tr (p : Prop) : Bool := @decide p (Classical.propDecidable p)
end GK
/-! Items kept as they are; items that are cells, unpacked. -/
namespace GK
open PySem PySem.Spec PyProof.Rows L2 Evl
variable {K : PySem.W.Frag} {σ : L2.St} {H H' : Hp} {ta tb tc te tl : TE} {t : TT} {x y z v : V}
/-! ### statements as they stand -/
section
variable {D : Ends} {tz : TS} {i : Nat}
theorem q_set (h : te σ H fun x H1 => tz D (σ.set i (some x)) H1) : tSeq (tAsg te (gName i)) tz D σ H := h
theorem q_do (h : te σ H fun _ H1 => tz D σ H1) : tSeq (tDrop te) tz D σ H := h
theorem s_do (h : te σ H fun _ H1 => D.nx σ H1) : tDrop te D σ H := h
theorem s_give (h : te σ H D.rt) : tRet te D σ H := h
theorem q_seq {t u : TS} (h : t { D with nx := u D } σ H) : tSeq t u D σ H := h
/-- a call, by the promise and what its arguments are -/
theorem t_call {sp : Sp} {dvs vs : List V} {E : XK} {ta : TA} {Q : VK} (h : EvA ta σ H vs) (k : ∀ H1, Same H H1 → sp (vs ++ dvs) H1 Q E) : tCall sp dvs E ta σ H Q := h H (Same.refl _) _ fun H1 e => k H1 e
end
end GK
/-! New lists put together; a for over what an expression makes. -/
namespace GK
open PySem PySem.Spec PyProof.Rows L2 Evl
end GK
/-! Tables of one's own that are changed by place; a list of ints at r that draws change. -/
namespace GK
open PySem PySem.Spec PyProof.Rows L2 Evl
variable {K : PySem.W.Frag} {σ : L2.St} {H H' H0 H1 H2 : Hp} {ta tb tc te tl : TE} {t : TT} {x y z v : V}
/-! ### the state of draws: a list of three ints at r -/
abbrev Small := { b : Int // 0 ≤ b ∧ b < 1099511627776 }
def Rng (H : Hp) (r : Addr) : Prop := ∃ (a : Int) (b : Small) (c : Int), H r = some (.lst [.int a, .int b.1, .int c])
/-- all but it stays -/
structure Fr (r : Addr) (H H' : Hp) : Prop where
  same : Same (off r H) (off r H')
  rng : Rng H' r
theorem Fr.trans {r : Addr} (a : Fr r H H1) (b : Fr r H1 H2) : Fr r H H2 := ⟨a.same.trans b.same, b.rng⟩
theorem Fr.of {r : Addr} (h : Rng H r) (e : Same H H') : Fr r H H' := ⟨off_mono e, by obtain ⟨a, b, c, h⟩ := h; exact ⟨a, b, c, e _ _ h⟩⟩
theorem Rng.up {r : Addr} (h : Rng H r) (e : Same H H') : Rng H' r := by obtain ⟨a, b, c, h⟩ := h; exact ⟨a, b, c, e _ _ h⟩
theorem Fr.then {r : Addr} (a : Fr r H H1) (e : Same H1 H2) : Fr r H H2 := a.trans (Fr.of a.rng e)
theorem Fr.refl {r : Addr} (h : Rng H r) : Fr r H H := Fr.of h (Same.refl _)
/-! ### a table of one's own -/
structure MT (H : Hp) (o : Addr) (rs : List Addr) (M : List (List Int)) : Prop where
  top : H o = some (.lst (rs.map V.ref))
  out : o ∉ rs
  nd : rs.Nodup
  rows : Paired (fun r row => H r = some (.lst (row.map V.int))) rs M
theorem MT.up {o : Addr} {rs : List Addr} {M : List (List Int)} (m : MT H o rs M) (e : Same H H') : MT H' o rs M := ⟨e _ _ m.top, m.out, m.nd, pd_imp (fun r row h => e _ _ h) m.rows⟩
theorem pd_split {α β : Type} {F : α → β → Prop} {xs : List α} {as : List β} {i : Nat} {x : α} {a : β} {G : α → β → Prop} (h : Paired F xs as) (hx : xs[i]? = some x) (ha : as[i]? = some a) (hn : xs.Nodup) {a' : β} (f : ∀ y b, y ≠ x → F y b → G y b) (g : G x a') : Paired G xs (as.set i a') := by
  refine pd_ix (by rw [List.length_set]; exact pd_len h) fun j y b hy hb => ?_
  by_cases e : j = i
  · subst e
    rw [hx] at hy
    cases hy
    have lt : j < as.length := (List.getElem?_eq_some_iff.mp ha).1
    rw [List.getElem?_set_self lt] at hb
    cases hb
    exact g
  · rw [List.getElem?_set_ne (fun z => e z.symm)] at hb
    obtain ⟨c, hc, hF⟩ := pd_get h hy
    rw [hc] at hb
    cases hb
    refine f y _ (fun z => ?_) hF
    subst z
    exact e (nd_ix hn hy hx)
/-- M[i][j] = n -/
theorem MT.set {o r : Addr} {rs : List Addr} {M : List (List Int)} {i j : Nat} {row : List Int} {n : Int} (m : MT H o rs M) (hr : rs[i]? = some r) (hrow : M[i]? = some row) : MT (upd H r (.lst ((row.set j n).map V.int))) o rs (M.set i (row.set j n)) := by
  have hro : o ≠ r := fun z => m.out (by rw [z]; exact List.mem_of_getElem? hr)
  refine ⟨by rw [upd_ne hro]; exact m.top, m.out, m.nd, pd_split m.rows hr hrow m.nd (fun y b hy h => ?_) upd_same⟩
  rw [upd_ne hy]
  exact h
theorem MT.row {o : Addr} {rs : List Addr} {M : List (List Int)} {i : Nat} (m : MT H o rs M) (hi : i < M.length) : ∃ r, rs[i]? = some r ∧ M[i]? = some (M.getD i []) ∧ H r = some (.lst ((M.getD i []).map V.int)) := by
  have e : M[i]? = some (M.getD i []) := by rw [List.getD_eq_getElem?_getD, List.getElem?_eq_getElem hi]; rfl
  obtain ⟨r, h1, h2⟩ := pd_back m.rows e
  exact ⟨r, h1, e, h2⟩
/-! ### [list(row) ..], [row[:-1] ..]: a table of one's own is made -/
end GK
/-! Comprehensions whose turns draw. -/
namespace GK
open PySem PySem.Spec PyProof.Rows L2 Evl
end GK
/-! Dicts whose keys are tuples: made by a comprehension, walked by items(). -/
namespace GK
open PySem PySem.Spec PyProof.Rows L2
/-! ### the items of a dict whose keys are tuples -/
/-! ### an attribute among the targets of a tuple -/
end GK
/-! The plain law of the web: shifts along steps, what is reached, the cut. No program here. -/
namespace GK
abbrev Cell := Int × Int
section
variable (arc : Cell → Int × Int)
def StepOk (num : Cell → Int) (u v : Int) (c : Cell) (m : Option Int) : Prop := (arc c = (u, v) ∧ m = none) ∨ (arc c = (v, u) ∧ 0 < num c ∧ m = some (num c))
variable {arc}
end
/-! ### the tree of what is reached -/
abbrev Ent := Int × Option (Int × Cell × Option Int)
def place (R : List Ent) (v : Int) : Nat := (R.map (·.1)).idxOf v
structure Tree (arc : Cell → Int × Int) (cs : List Cell) (num : Cell → Int) (beside : Cell) (begin_ : Int) (R : List Ent) : Prop where
  head : R[0]? = some (begin_, none)
  nd : (R.map (·.1)).Nodup
  root : ∀ (i : Nat) (v : Int), R[i]? = some (v, none) → i = 0
  par : ∀ (i : Nat) (v u : Int) (c : Cell) (m : Option Int), R[i]? = some (v, some (u, c, m)) → (∃ (j : Nat) (e : Option (Int × Cell × Option Int)), j < i ∧ R[j]? = some (u, e)) ∧ c ∈ cs ∧ c ≠ beside ∧ StepOk arc num u v c m
def Closed (arc : Cell → Int × Int) (cs : List Cell) (num : Cell → Int) (beside : Cell) (S : List Int) : Prop :=
  ∀ c ∈ cs, c ≠ beside → ((arc c).1 ∈ S → (arc c).2 ∈ S) ∧ ((arc c).2 ∈ S → 0 < num c → (arc c).1 ∈ S)
section
variable {arc : Cell → Int × Int} {cs : List Cell} {num : Cell → Int} {beside : Cell} {b : Int} {R : List Ent}
theorem place_at (nd : (R.map (·.1)).Nodup) {i : Nat} {v : Int} {e : Option (Int × Cell × Option Int)} (h : R[i]? = some (v, e)) : place R v = i := by
  have hi : i < (R.map (·.1)).length := by rw [List.length_map]; exact (List.getElem?_eq_some_iff.mp h).1
  have hv : (R.map (·.1))[i] = v := by
    have : (R.map (·.1))[i]? = some v := by rw [List.getElem?_map, h]; rfl
    rw [List.getElem?_eq_getElem hi] at this
    exact Option.some.inj this
  unfold place
  rw [← hv]
  exact nd.idxOf_getElem i hi
theorem Tree.up (T : Tree arc cs num beside b R) {v u : Int} {c : Cell} {m : Option Int} (h : (v, some (u, c, m)) ∈ R) : place R u < place R v ∧ c ∈ cs ∧ c ≠ beside ∧ StepOk arc num u v c m := by
  obtain ⟨i, hi⟩ := List.mem_iff_getElem?.mp h
  obtain ⟨⟨j, e, lt, hj⟩, r⟩ := T.par i v u c m hi
  rw [place_at T.nd hi, place_at T.nd hj]
  exact ⟨lt, r⟩
end
/-! ### balances -/
def hit (x v : Int) : Int := if x = v then 1 else 0
def bal (arc : Cell → Int × Int) (cs : List Cell) (f : Cell → Int) (v : Int) : Int := (cs.map fun c => f c * (hit (arc c).2 v - hit (arc c).1 v)).sum
section
variable {arc : Cell → Int × Int}
theorem sum_map_congr {α : Type} {f g : α → Int} : ∀ {l : List α}, (∀ x ∈ l, f x = g x) → (l.map f).sum = (l.map g).sum
  | [], _ => rfl
  | a :: l, h => by
    rw [List.map_cons, List.map_cons, List.sum_cons, List.sum_cons, h a List.mem_cons_self, sum_map_congr fun x hx => h x (List.mem_cons_of_mem _ hx)]
theorem sum_map_add {α : Type} {f g : α → Int} : ∀ l : List α, (l.map fun x => f x + g x).sum = (l.map f).sum + (l.map g).sum
  | [] => rfl
  | a :: l => by simp only [List.map_cons, List.sum_cons, sum_map_add l]; omega
theorem sum_map_sub {α : Type} {f g : α → Int} : ∀ l : List α, (l.map fun x => f x - g x).sum = (l.map f).sum - (l.map g).sum
  | [] => rfl
  | a :: l => by simp only [List.map_cons, List.sum_cons, sum_map_sub l]; omega
theorem sum_map_mul {α : Type} {f : α → Int} {k : Int} : ∀ l : List α, (l.map fun x => f x * k).sum = (l.map f).sum * k
  | [] => by simp
  | a :: l => by simp only [List.map_cons, List.sum_cons, sum_map_mul l, Int.add_mul]
theorem sum_map_nonneg {α : Type} {f : α → Int} : ∀ {l : List α}, (∀ x ∈ l, 0 ≤ f x) → 0 ≤ (l.map f).sum
  | [], _ => by simp
  | a :: l, h => by
    have := sum_map_nonneg (f := f) (l := l) fun x hx => h x (List.mem_cons_of_mem _ hx)
    have := h a List.mem_cons_self
    simp only [List.map_cons, List.sum_cons]; omega
theorem sum_swap {α β : Type} {f : α → β → Int} (l : List α) : ∀ m : List β, (m.map fun y => (l.map fun x => f x y).sum).sum = (l.map fun x => (m.map fun y => f x y).sum).sum
  | [] => by
    induction l with
    | nil => rfl
    | cons a l ih => rw [List.map_cons, List.sum_cons, ← ih]; rfl
  | y :: m => by
    rw [List.map_cons, List.sum_cons, sum_swap l m, ← sum_map_add]
    rfl
/-! ### the cut -/
theorem sum_hit {x : Int} : ∀ {S : List Int}, S.Nodup → (S.map fun v => hit x v).sum = if x ∈ S then 1 else 0
  | [], _ => rfl
  | a :: S, nd => by
    rw [List.nodup_cons] at nd
    rw [List.map_cons, List.sum_cons, sum_hit nd.2]
    by_cases e : x = a
    · subst e; simp [hit, nd.1]
    · simp [hit, e]
theorem cut_sum {cs : List Cell} {f : Cell → Int} {S : List Int} (nd : S.Nodup) : (S.map fun v => bal arc cs f v).sum = (cs.map fun c => f c * ((if (arc c).2 ∈ S then 1 else 0) - if (arc c).1 ∈ S then 1 else 0)).sum := by
  unfold bal
  rw [sum_swap]
  refine sum_map_congr fun c hc => ?_
  rw [sum_map_congr (g := fun v => (hit (arc c).2 v - hit (arc c).1 v) * f c) fun v _ => Int.mul_comm _ _, sum_map_mul, sum_map_sub, sum_hit nd, sum_hit nd, Int.mul_comm]
theorem sum_one {g : Cell → Int} {x : Cell} : ∀ {l : List Cell}, l.Nodup → x ∈ l → (∀ c ∈ l, c ≠ x → 0 ≤ g c) → g x ≤ (l.map g).sum
  | a :: l, nd, hx, h => by
    rw [List.nodup_cons] at nd
    simp only [List.map_cons, List.sum_cons]
    by_cases e : a = x
    · subst e
      have := sum_map_nonneg (f := g) (l := l) fun c hc => h c (List.mem_cons_of_mem _ hc) fun z => nd.1 (z ▸ hc)
      omega
    · have := sum_one nd.2 ((List.mem_cons.mp hx).resolve_left fun z => e z.symm) fun c hc => h c (List.mem_cons_of_mem _ hc)
      have := h a List.mem_cons_self e
      omega
/-- nothing goes out of S, what comes in is nought: the change at x is to one side -/
theorem cut {cs : List Cell} {x : Cell} {S : List Int} {num f g : Cell → Int} (ndc : cs.Nodup) (hx : x ∈ cs) (nd : S.Nodup) (C : Closed arc cs num x S) (hg : ∀ c ∈ cs, c ≠ x → g c = num c) (h0 : ∀ c ∈ cs, 0 ≤ num c) (hf : ∀ c ∈ cs, 0 ≤ f c)
    (hb : ∀ v, bal arc cs f v = bal arc cs g v) : (f x - g x) * ((if (arc x).2 ∈ S then 1 else 0) - if (arc x).1 ∈ S then 1 else 0) ≤ 0 := by
  have z : (cs.map fun c => (f c - g c) * ((if (arc c).2 ∈ S then 1 else 0) - if (arc c).1 ∈ S then 1 else 0)).sum = 0 := by
    rw [sum_map_congr (g := fun c => f c * ((if (arc c).2 ∈ S then 1 else 0) - if (arc c).1 ∈ S then 1 else 0) - g c * ((if (arc c).2 ∈ S then 1 else 0) - if (arc c).1 ∈ S then 1 else 0)) fun c _ => Int.sub_mul _ _ _,
      sum_map_sub, ← cut_sum nd, ← cut_sum nd, sum_map_congr (g := fun v => bal arc cs g v) fun v _ => hb v]
    omega
  refine Int.le_trans (sum_one (g := fun c => (f c - g c) * ((if (arc c).2 ∈ S then 1 else 0) - if (arc c).1 ∈ S then 1 else 0)) ndc hx fun c hc hne => ?_) (Int.le_of_eq z)
  obtain ⟨c1, c2⟩ := C c hc hne
  have hgc := hg c hc hne
  have := h0 c hc
  have hfc := hf c hc
  by_cases a : (arc c).2 ∈ S
  · by_cases b : (arc c).1 ∈ S
    · simp [a, b]
    · have : ¬ 0 < num c := fun z => b (c2 a z)
      simp only [a, b, if_true, if_false]
      omega
  · have b : (arc c).1 ∉ S := fun z => a (c1 z)
    simp [a, b]
end
end GK
/-! Dicts of cells in the heap; a web; fields. -/
namespace GK
open PySem PySem.Spec PyProof.Rows L2 Evl
variable {K : PySem.W.Frag} {σ : L2.St} {H H' H1 H2 : Hp} {ta tb tc te tl : TE} {t : TT} {x y z v : V}
/-! ### fields, entries of dicts -/
theorem ev_fld {p C dx : Addr} {fs : List (Str × V)} {f : Str} (ha : Ev ta σ H (.ref p)) (h : H p = some (.ins C dx fs)) (c : Cls K C) (n : NoAttr K C f) (l : fs.lookup f = some v) : Ev (tFld K ta f) σ H v := fun H1 e Q q =>
  ha H1 e _ fun H2 e2 => ⟨p, C, dx, fs, v, rfl, (e.trans e2) _ _ h, c, n, l, q H2 e2⟩
theorem dget_up {a : Addr} {y : V} {o : Option V} (e : Same H H') (h : DGet H a y o) : DGet H' a y o := by
  rcases h with ⟨kvs, k, r, h1, h2⟩ | ⟨kvs, k, b, r, h1, h2, h3⟩
  · exact .inl ⟨kvs, k, ex_rd e r, h1, h2⟩
  · exact .inr ⟨kvs, k, b, ex_rd e r, h1, e _ _ h2, h3⟩
theorem ev_dget {a : Addr} (ha : Ev ta σ H (.ref a)) (hb : Ev tb σ H y) (g : DGet H a y (some v)) : Ev (tDGet ta tb) σ H v := fun H1 e Q q =>
  ha H1 e _ fun H2 e2 => hb H2 (e.trans e2) _ fun H3 e3 => ⟨a, v, rfl, dget_up ((e.trans e2).trans e3) g, q H3 (e2.trans e3)⟩
theorem ev_isN (ha : Ev ta σ H x) : Ev (tOp rIsN ta (tC .non)) σ H (.bl (decide (x = .non))) := ev_op ha ev_c fun H1 e Q q => ⟨rfl, q H1 (Same.refl _)⟩
/-! ### cells as keys -/
def kC (c : Cell) : List Key := [Sum.inl c.1, Sum.inl c.2]
/-- a cell whose tuple is tracked -/
def CellT : Hp → V → Cell → Prop := fun H v c => ∃ q, v = .ref q ∧ H q = some (.tup [.int c.1, .int c.2])
theorem CellT.d {c : Cell} (h : CellT H v c) : CellD K H v c := by obtain ⟨q, h1, h2⟩ := h; exact ⟨q, h1, SqT.of h2⟩
def numsD (cs : List Cell) (f : Cell → Int) : List (List Key × V) := cs.map fun c => (kC c, V.int (f c))
/-! ### for over the items -/
/-! ### a dict made from cells -/
/-! ### the web -/
def webF (g : V) (dn da : Addr) : List (Str × V) := putF "arcs" (.ref da) (putF "numbers" (.ref dn) (putF "grid" g []))
def ArcD (arc : Cell → Int × Int) (H : Hp) (kv : List Key × V) (c : Cell) : Prop := kv.1 = kC c ∧ ∃ t, kv.2 = .ref t ∧ H t = some (.tup [.int (arc c).1, .int (arc c).2])
structure WebAt (C : Addr) (H : Hp) (p : Addr) (g : V) (dn da : Addr) (cs : List Cell) (f : Cell → Int) (arc : Cell → Int × Int) : Prop where
  ob : ∃ dx, H p = some (.ins C dx (webF g dn da))
  nm : H dn = some (.dT (numsD cs f))
  ar : ∃ kva, H da = some (.dT kva) ∧ Paired (ArcD arc H) kva cs
  ne : dn ≠ da
variable {C p dn da : Addr} {g : V} {cs : List Cell} {f : Cell → Int} {arc : Cell → Int × Int}
theorem WebAt.up (w : WebAt C H p g dn da cs f arc) (e : Same H H') : WebAt C H' p g dn da cs f arc := by
  obtain ⟨⟨dx, h1⟩, h2, ⟨kva, h3, h4⟩, h5⟩ := w
  exact ⟨⟨dx, e _ _ h1⟩, e _ _ h2, ⟨kva, e _ _ h3, pd_imp (fun kv c ⟨r1, t, r2, r3⟩ => ⟨r1, t, r2, e _ _ r3⟩) h4⟩, h5⟩
/-- other numbers -/
theorem WebAt.put (w : WebAt C H p g dn da cs f arc) (f' : Cell → Int) : WebAt C (upd H dn (.dT (numsD cs f'))) p g dn da cs f' arc := by
  obtain ⟨⟨dx, h1⟩, h2, ⟨kva, h3, h4⟩, h5⟩ := w
  refine ⟨⟨dx, ?_⟩, upd_same, ⟨kva, ?_, pd_imp (fun kv c ⟨r1, t, r2, r3⟩ => ⟨r1, t, r2, ?_⟩) h4⟩, h5⟩
  · rw [upd_ne (ne_of h1 h2 fun z => nomatch z)]; exact h1
  · rw [upd_ne (Ne.symm h5)]; exact h3
  · rw [upd_ne (ne_of r3 h2 fun z => nomatch z)]; exact r3
/-! ### hops, entries, steps in the heap -/
def oV : Option Int → V
  | none => .non
  | some n => .int n
/-- an entry of what is reached -/
def EntD (H : Hp) (kv : Key × V) (e : Ent) : Prop := kv.1 = Sum.inl e.1 ∧ match e.2 with
  | none => kv.2 = .non
  | some h => ∃ t q, kv.2 = .ref t ∧ H t = some (.tup [.int h.1, .ref q, oV h.2.2]) ∧ H q = some (.tup [.int h.2.1.1, .int h.2.1.2])
theorem EntD.up {kv : Key × V} {en : Ent} (e : Same H H') (h : EntD H kv en) : EntD H' kv en := by
  obtain ⟨h1, h2⟩ := h
  refine ⟨h1, ?_⟩
  cases hs : en.2 with
  | none => rw [hs] at h2; exact h2
  | some u =>
    rw [hs] at h2
    obtain ⟨t, q, a, b, c⟩ := h2
    exact ⟨t, q, a, e _ _ b, e _ _ c⟩
end GK
/-! Tables and their cells: sizes, places, arcs. -/
namespace GK
open PySem PySem.Spec PyProof.Rows L2 Evl
variable {K : PySem.W.Frag}
/-! ### the grid's size -/
abbrev wide (M : List (List Int)) : Nat := (M.headD []).length
/-- a cell of it -/
def IsCell (M : List (List Int)) (c : Int × Int) : Prop := (0 ≤ c.1 ∧ c.1 < M.length) ∧ 0 ≤ c.2 ∧ c.2 < wide M
instance (M : List (List Int)) (c : Int × Int) : Decidable (IsCell M c) := by unfold IsCell; infer_instance
/-! ### statements -/
section
variable {σ : L2.St} {H : Hp} {ta tb te tv : TE} {x y v : V} {D : Ends} {tz : TS} {i j : Nat}
theorem s_fld {C p dx : Addr} {fs : List (Str × V)} {f : Str} (hv : Ev tv σ H v) (ha : Ev ta σ H (.ref p)) (h : H p = some (.ins C dx fs)) (c : Cls K C) (n : NoAttr K C f) (l : fs.length < 1000)
    (k : ∀ H1, Same H H1 → D.nx σ (upd H1 p (.ins C dx (putF f v fs)))) : sFld K ta tv f D σ H :=
  hv H (Same.refl _) _ fun H1 e1 => ha H1 e1 _ fun H2 e2 => ⟨p, C, dx, fs, rfl, (Same.trans e1 e2) _ _ h, c, n, l, k H2 (Same.trans e1 e2)⟩
theorem q_fld {C p dx : Addr} {fs : List (Str × V)} {f : Str} (hv : Ev tv σ H v) (ha : Ev ta σ H (.ref p)) (h : H p = some (.ins C dx fs)) (c : Cls K C) (n : NoAttr K C f) (l : fs.length < 1000)
    (k : ∀ H1, Same H H1 → tz D σ (upd H1 p (.ins C dx (putF f v fs)))) : tSeq (sFld K ta tv f) tz D σ H := s_fld (D := { D with nx := tz D }) hv ha h c n l k
theorem q_fldT {f : Str} (h : tv σ H fun y H1 => ta σ H1 fun x H2 => ∃ a C dx fs, x = .ref a ∧ H2 a = some (.ins C dx fs) ∧ Cls K C ∧ NoAttr K C f ∧ fs.length < 1000 ∧ tz D σ (upd H2 a (.ins C dx (putF f y fs)))) : tSeq (sFld K ta tv f) tz D σ H := h
end
theorem small2 {a b : V} : [a, b].length ≤ 100000 := by simp
theorem small3 {a b c : V} : [a, b, c].length ≤ 100000 := by simp
/-! ### all cells -/
/-! ### numbers by place -/
def at2 (M : List (List Int)) (c : Int × Int) : Int := (M.getD c.1.toNat []).getD c.2.toNat 0
/-- a grid: rows of one length -/
structure Rect (G : List (List Int)) : Prop where
  tall : 2 ≤ G.length
  tall' : G.length ≤ 60
  wid : 2 ≤ wide G
  wid' : wide G ≤ 60
  rows : ∀ row ∈ G, row.length = wide G
theorem Rect.ne {G : List (List Int)} (h : Rect G) : G ≠ [] := fun z => by have := h.tall; rw [z] at this; simp at this
theorem getD_mem {α : Type} {M : List α} {k : Nat} {d : α} (h : k < M.length) : M.getD k d ∈ M := by
  rw [List.getD_eq_getElem?_getD, List.getElem?_eq_getElem h]
  exact List.getElem_mem h
/-! ### arcs -/
end GK
/-! The tree of what is reached grows. -/
namespace GK
open PySem PySem.Spec PyProof.Rows L2 Evl
section
variable {arc : Cell → Int × Int} {cs : List Cell} {num : Cell → Int} {x : Cell} {b : Int} {R : List Ent}
theorem Tree.more (T : Tree arc cs num x b R) {j : Nat} {u v : Int} {e : Option (Int × Cell × Option Int)} {c : Cell} {m : Option Int} (hj : R[j]? = some (u, e)) (hv : v ∉ R.map (·.1)) (hc : c ∈ cs) (hx : c ≠ x) (s : StepOk arc num u v c m) : Tree arc cs num x b (R ++ [(v, some (u, c, m))]) := by
  have hjl : j < R.length := (List.getElem?_eq_some_iff.mp hj).1
  refine ⟨?_, ?_, fun i w h => ?_, fun i w u' c' m' h => ?_⟩
  · rw [List.getElem?_append_left (by omega)]; exact T.head
  · rw [List.map_append, List.nodup_append]
    refine ⟨T.nd, by simp, fun a ha b' hb e => ?_⟩
    rw [List.map_singleton, List.mem_singleton] at hb
    rw [e, hb] at ha
    exact hv ha
  · by_cases lt : i < R.length
    · rw [List.getElem?_append_left lt] at h; exact T.root i w h
    · rw [List.getElem?_append_right (by omega)] at h
      cases hi : i - R.length with
      | zero => rw [hi] at h; simp at h
      | succ k => rw [hi] at h; simp at h
  · by_cases lt : i < R.length
    · rw [List.getElem?_append_left lt] at h
      obtain ⟨⟨k, e', hk, hk'⟩, r⟩ := T.par i w u' c' m' h
      exact ⟨⟨k, e', hk, by rw [List.getElem?_append_left (by omega)]; exact hk'⟩, r⟩
    · rw [List.getElem?_append_right (by omega)] at h
      cases hi : i - R.length with
      | zero =>
        rw [hi] at h
        simp only [List.getElem?_cons_zero, Option.some.injEq, Prod.mk.injEq] at h
        obtain ⟨rfl, rfl, rfl, rfl⟩ := h
        exact ⟨⟨j, e, by omega, by rw [List.getElem?_append_left hjl]; exact hj⟩, hc, hx, s⟩
      | succ k => rw [hi] at h; simp at h
end
/-! ### what is no tuple may go -/
section
variable {H H' : Hp} {l d : Addr} {o o' : HO}
def NoTup (o : HO) : Prop := ∀ xs, o ≠ .tup xs
theorem ne_notup {a : Addr} {xs : List V} (h : H a = some (.tup xs)) (hl : H l = some o) (n : NoTup o) : a ≠ l := ne_of h hl (Ne.symm (n xs))
theorem nt_dT {xs : List (List Key × V)} : NoTup (.dT xs) := fun _ z => nomatch z
end
end GK
/-! Words for way and shifted. -/
namespace GK
open PySem PySem.Spec PyProof.Rows L2 Evl
variable {K : PySem.W.Frag} {σ : L2.St} {H H' : Hp} {ta tb te tl : TE} {t : TT} {x y v : V} {D : Ends} {tz : TS}
theorem WebAt.frame {C p dn da : Addr} {g : V} {cs : List Cell} {f f' : Cell → Int} {arc : Cell → Int × Int} (w : WebAt C H p g dn da cs f arc) (s : Same (off dn H) H') (h : H' dn = some (.dT (numsD cs f'))) : WebAt C H' p g dn da cs f' arc := by
  obtain ⟨⟨dx, h1⟩, h2, ⟨kva, h3, h4⟩, h5⟩ := w
  refine ⟨⟨dx, s _ _ (off_some.mpr ⟨ne_of h1 h2 (fun z => nomatch z), h1⟩)⟩, h, ⟨kva, s _ _ (off_some.mpr ⟨Ne.symm h5, h3⟩), pd_imp (fun kv c ⟨r1, t, r2, r3⟩ => ⟨r1, t, r2, s _ _ (off_some.mpr ⟨ne_notup r3 h2 nt_dT, r3⟩)⟩) h4⟩, h5⟩
end GK
/-! Tables written over at some cells; what a reach is. -/
namespace GK
open PySem PySem.Spec PyProof.Rows L2 Evl
variable {K : PySem.W.Frag}
/-! ### tables written over -/
def put2 (M : List (List Int)) (c : Cell) (n : Int) : List (List Int) := M.set c.1.toNat ((M.getD c.1.toNat []).set c.2.toNat n)
theorem put2_len {M : List (List Int)} {c : Cell} {n : Int} : (put2 M c n).length = M.length := List.length_set
theorem put2_row {M : List (List Int)} {c : Cell} {n : Int} (r : Nat) : ((put2 M c n).getD r []).length = (M.getD r []).length := by
  unfold put2
  simp only [List.getD_eq_getElem?_getD, List.getElem?_set]
  by_cases e : c.1.toNat = r
  · subst e
    by_cases l : c.1.toNat < M.length
    · simp [l]
    · simp [l]
  · simp [e]
/-- a cell inside a table of any rows -/
def In2 (M : List (List Int)) (c : Cell) : Prop := (0 ≤ c.1 ∧ c.1 < M.length) ∧ 0 ≤ c.2 ∧ c.2 < (M.getD c.1.toNat []).length
theorem In2.of {M : List (List Int)} {c : Cell} (r : Rect M) (h : IsCell M c) : In2 M c := ⟨h.1, by rw [r.rows _ (getD_mem (by have := h.1; omega))]; exact h.2⟩
theorem In2.put {M : List (List Int)} {c d : Cell} {n : Int} (h : In2 M d) : In2 (put2 M c n) d := ⟨by rw [put2_len]; exact h.1, by rw [put2_row]; exact h.2⟩
/-! ### a reach in the heap -/
/-! ### what a reach is, in numbers -/
end GK
/-! Right sums are balances. -/
namespace GK
/-! ### sums over ranges -/
/-! ### balances of a whole table -/
/-! ### off the hidden cells nothing changes -/
end GK
/-! Plain: what is reached is the same for each greatest flow. -/
namespace GK
end GK
/-! What a fence tells: numbers that come in and go out of a set of nodes. Plain. -/
namespace GK
/-! ### numbers in order -/
/-! ### the two fences of a reach -/
end GK
/-! Tables made of their inner numbers; tables are told by their numbers. -/
namespace GK
/-- h rows of w numbers -/
structure Dim (h w : Nat) (T : List (List Int)) : Prop where
  tall : T.length = h
  rows : ∀ row ∈ T, row.length = w
theorem Dim.row {h w : Nat} {T : List (List Int)} (d : Dim h w T) {i : Nat} (hi : i < h) : (T.getD i []).length = w := d.rows _ (getD_mem (by rw [d.tall]; exact hi))
end GK
/-! sorted(cells, key=lambda one: (-grid[one[0]][one[1]], one)): the lambda's body leaves the heap as it is but for what is new. -/
namespace GK
open PySem PySem.Spec PyProof.Rows L2 LamX
/-! ### heaps without their tables of code objects -/
/-! ### one call of the lambda -/
theorem isList_keeps {h h' : Heap} {a : Addr} {its : Array Value} (x : h.IsList a its) (k : ∀ b o, h.get? b = some o → h'.get? b = some o) : h'.IsList a its := by
  obtain ⟨o, e, r⟩ := x
  exact ⟨o, k _ _ e, r⟩
end GK
/-! sorted(cells, key=lambda one: (-grid[one[0]][one[1]], one)) as a rule. -/
namespace GK
open PySem PySem.Spec PyProof.Rows L2 LamX
end GK
/-! Defs that raise an error of one's own; calls by keywords within a try; a def whose code object is known. -/
namespace GK
open PySem PySem.Spec PyProof.Rows L2 LamX
/-! ### a def whose code object is known -/
structure FunC (K : PySem.W.Frag) (x qual : Str) (st : Stmt) (f : Addr) (fd : FuncData) (c : Addr) : Prop where
  ex : ∃ (oc : Value) (od : Option Addr) (kV doc pm : Value) (an : Option Addr) (ct : Value) (osl : Array (Option Value)),
    fd = PySem.W.fnOf x qual (defArgs st) (defBody st) (defScope st) .none kV doc pm an (.ref c) ct ∧ K.lookup f = some ⟨oc, od, .func fd, osl⟩ ∧ PySem.W.codeIn K (.ref c) qual = true
  kp : PySem.W.keepIn K (.ref f) = true
section
variable {P : Program} {w : World} {K : PySem.W.Frag} {mg : Str → Option Value} {base : Heap}
theorem FunC.okX {x qual : Str} {st : Stmt} {f c : Addr} {fd : FuncData} {N ps : List Str} {k : Nat} {sp : Sp} (F : FunC K x qual st f fd c) (S : FnScope N ps (defScope st)) (len : ∀ vs H Q E, sp vs H Q E → vs.length = ps.length)
    (hbody : ∀ (A : Around) (outer : List Env) (s : Shared) (H : Hp) (vs : List V) (Q : VK) (E : XK), Room k (A.deeper (envOfC qual (defScope st) s.heap.objs.size f (.ref c))) → sp vs H Q E →
      ∃ t, PSs (cxOf (L2.CX P w) P w K mg base N qual (defScope st) f (.ref c) A outer s H E) (defBody st) t ∧ t { nx := fun _ H' => Q .non H', rt := Q } (start N vs) H) : FnOk P w K mg base (L2.CX P w) (k + 1) f fd ps sp := by
  obtain ⟨oc, od, kV, doc, pm, an, ct, osl, rfl, lk, hcd⟩ := F.ex
  exact fn_of lk hcd S len fun A outer s H vs Q E hr hsp => hbody A outer s H vs Q E hr hsp
end
/-! ### keywords: n values by place, m by keyword, in the parameters' order -/
def kwBy {α : Type} (n m : Nat) (us ws : List α) : List α := if us.length = n ∧ ws.length = m then us ++ ws else []
theorem kwBy_rel {n m : Nat} {vs zs : List V} {us ws : List Value} (r : Vals vs us) (z : Vals zs ws) : Vals (kwBy n m vs zs) (kwBy n m us ws) := by
  unfold kwBy
  rw [r.length, z.length]
  by_cases h : us.length = n ∧ ws.length = m
  · rw [if_pos h, if_pos h]; exact r.append z
  · rw [if_neg h, if_neg h]; exact .nil
/-! ### raise, try -/
def tRaiseO (E : XK) (t : L2.St → Hp → XK → Prop) : TS := fun _ σ H => t σ H fun cls d H' => E cls d H'
theorem ps_raiseE {X : Cx} {E : XK} {e : Expr} {t : L2.St → Hp → XK → Prop} {pos : Pos} (hc : X.calm = true) (tk : Takes X (fun cls d _ H => E cls d H)) (he : PMk X e t) : PS X (.Raise (some e) none pos) (tRaiseO E t) := ps_raise hc tk he
end GK
/-! xs + ys of lists that are read; tables of code objects beside a list that changes. -/
namespace GK
open PySem PySem.Spec PyProof.Rows L2 LamX Evl
def rCatS (K : PySem.W.Frag) : R2 := fun x y H Q => ∃ l b xs zs, x = .ref l ∧ y = .ref b ∧ SqL K H l xs ∧ SqL K H b zs ∧ xs.length + zs.length ≤ sizeLine ∧ ∀ p, H p = none → Q (.ref p) (upd H p (.lst (xs ++ zs)))
theorem op_catS {X : Cx} : OpR X (binaryOp .Add) (rCatS X.K) := by
  intro pins s σ H x y v u Q I rx ry h
  obtain ⟨l, b, xs, zs, rfl, rfl, hH, hB, hz, q⟩ := h
  cases rx
  cases ry
  obtain ⟨its, r, hl, z⟩ := I.list hH
  obtain ⟨its2, r2, hl2, z2⟩ := I.list hB
  obtain ⟨⟨cls, dd, data, sl⟩, ho, hc, n, hd⟩ := hl.isList
  obtain ⟨⟨cls2, dd2, data2, sl2⟩, ho2, hc2, n2, hd2⟩ := hl2.isList
  simp only at hc hd hc2 hd2
  subst hc hd hc2 hd2
  have e1 := r.length
  have e2 := r2.length
  have e : its.toArray ++ its2.toArray = (its ++ its2).toArray := by simp
  refine concat_meets ⟨_, ho, rfl⟩ ⟨_, ho2, rfl⟩ noFill_list_add seq_list_add PySem.F.slot_list_add PySem.F.entry_list_add (PySem.F.args_list_add_2 _ _) (list_addW l b its.toArray its2.toArray n n2 dd dd2 sl sl2 (by rw [List.size_toArray, List.size_toArray]; omega)) ⟨ho, ho2, ?_⟩
  rw [e]
  exact ⟨.ref _, _, I.lnew (t' := s.toks) (r.append r2) (by rw [List.length_append]; omega), rfl, q _ I.fresh⟩
section
variable {K : PySem.W.Frag} {σ : L2.St} {H H' : Hp} {ta tb : TE} {x y : V}
theorem el_catS {xs ys : List V} {p : Addr} (ha : Ev ta σ H (.ref p)) (hp : SqL K H p xs) (hb : EvL tb σ H ys) (hz : xs.length + ys.length ≤ 100000) : EvL (tOp (rCatS K) ta tb) σ H (xs ++ ys) := fun H1 e Q q =>
  ha H1 e _ fun H2 e2 => hb H2 (e.trans e2) _ fun r H3 _ e3 h3 => ⟨p, r, xs, ys, rfl, rfl, sq_mono ((e.trans e2).trans e3) hp, sq_of h3, sz_of hz, fun l hl => q l _ (fresh_back (e2.trans e3) hl) ((e2.trans e3).trans (Ex.new hl)) upd_same⟩
end
end GK
/-! The end of a law whose program makes a lambda: the code object's table is empty at the law's entry. -/
namespace GK
open PySem PySem.Spec PyProof.Rows L2 LamX
theorem FunC.fn {K : PySem.W.Frag} {x qual : Str} {st : Stmt} {f c : Addr} {fd : FuncData} (F : FunC K x qual st f fd c) : Fun K x qual st f fd := by
  obtain ⟨oc, od, kV, doc, pm, an, ct, osl, rfl, lk, hcd⟩ := F.ex
  exact ⟨⟨oc, od, kV, doc, pm, an, .ref c, ct, osl, rfl, lk, hcd⟩, F.kp⟩
end GK
/-! Tables that are lists or tuples of lists or tuples. -/
namespace GK
open PySem PySem.Spec PyProof.Rows L2 LamX Evl PpSet
variable {K : PySem.W.Frag} {σ : L2.St} {H H' : Hp} {ta tb tc te tl : TE} {x y v : V}
abbrev SqQ (K : PySem.W.Frag) (H : Hp) (a : Addr) (xs : List V) : Prop := SqL K H a xs ∨ SqT K H a xs
def QOf {α : Type} (K : PySem.W.Frag) (D : Hp → V → α → Prop) (H : Hp) (v : V) (as : List α) : Prop := ∃ a vs, v = .ref a ∧ SqQ K H a vs ∧ Paired (D H) vs as
/-! ### subscripts -/
/-! ### [list(row) for row in grid] -/
/-! ### a set of new cells -/
/-- a for over a list or a tuple -/
theorem for_q {g : TG} {tb : TS} {D : Ends} {α : Type} {S : Hp → V → α → Prop} {as : List α} (up : Up S) (h : Ev tl σ H v) (hd : QOf K S H v as) (Pv : Nat → L2.St → Hp → Prop) (h0 : ∀ H1, Same H H1 → Pv 0 σ H1) (hP : ∀ i σ' H', Pv i σ' H' → Same H H')
    (hs : ∀ (i : Nat) x a σ' H', as[i]? = some a → S H' x a → Pv i σ' H' → g x σ' H' fun σ2 H2 => tb { D with nx := Pv (i + 1), ct := Pv (i + 1), bk := D.nx } σ2 H2) (hd' : ∀ σ' H', Pv as.length σ' H' → D.nx σ' H') : tFor (iSeq K tl) g tb D σ H := by
  obtain ⟨a, xs, rfl, hq, hp⟩ := hd
  exact for_seq up h (hq.imp (fun z => ⟨a, xs, rfl, z, hp⟩) (fun z => ⟨a, xs, rfl, z, hp⟩)) Pv h0 hP hs hd'
end GK
/-! The sort by the lambda over a table of lists or tuples. -/
namespace GK
open PySem PySem.Spec PyProof.Rows L2 LamX
def IsSq (h : Heap) (a : Addr) (vs : List Value) : Prop := h.IsList a vs.toArray ∨ IsTup h a vs.toArray
theorem IsSq.keeps {h h' : Heap} {a : Addr} {vs : List Value} (x : IsSq h a vs) (k : ∀ b o, h.get? b = some o → h'.get? b = some o) : IsSq h' a vs := x.imp (fun z => isList_keeps z k) (fun z => z.keeps k)
end GK
/-! A cell removed from a list; xs[::2]; except .. as e. -/
namespace GK
open PySem PySem.Spec PyProof.Rows L2 LamX
variable {K : PySem.W.Frag}
/-! ### l.remove(cell) -/
/-! ### xs[::2] -/
/-! ### try .. except x as n -/
def tTryAs (K : PySem.W.Frag) (c : Value) (i : Nat) (tb : WX → TS) (ts : Addr → Value → Option Addr → TS) : TS := fun D σ H => tb (wAs K c i ts (fun _ _ _ _ => False) D) D σ H
theorem ps_tryAs {X : Cx} {x n : Str} {c : Value} {i : Nat} {body suite : List Stmt} {b0 : Stmt} {np pos pos' : Pos} {tb : WX → TS} {ts : Addr → Value → Option Addr → TS} (hs : X.stack = X.env :: X.outer) (hf : X.env.frame = some X.env.locals) (hN : X.N.Nodup) (hi : X.N[i]? = some n) (hln : X.env.kindOf n = some .local) (hc : Names X x c)
    (hb : ∀ (W : WX) (pn : List (Addr × Obj)) (xe : Value → Shared → Prop), Takes (X.tr pn xe) W → PassesOwn (model X.prog X.w) X.A X.env xe → PSs (X.tr pn xe) body (tb W))
    (hsu : ∀ (a : Addr) (oe : Obj) (cls : Value) (d : Option Addr) (pn : List (Addr × Obj)), Zc cls d oe → (∃ vs, oe.data = .fields vs) → PSs (X.suite a ((a, oe) :: pn)) (b0 :: suite) (ts a cls d)) :
    PS X (.Try body [.ExceptHandler (some (.Name x np)) (some n) (b0 :: suite) pos'] [] [] pos) (tTryAs X.K c i tb ts) :=
  ps_try_as (tb := tb) (ts := ts) hs hf hN hi hln hc L2.takes0 hb hsu
end GK
/-! A table of one's own, drawn row by row. -/
namespace GK
open PySem PySem.Spec PyProof.Rows L2 LamX Evl PpSet
end GK
/-! A cut of a list or a tuple. -/
namespace GK
open PySem PySem.Spec PyProof.Rows L2 LamX Evl PpSet
variable {K : PySem.W.Frag} {σ : L2.St} {H H' : Hp} {ta tb tc te tl : TE} {x y v : V}
/-- // by a positive divisor below 2^62 -/
def CDivW (i j : Int) : Prop := 0 < j ∧ j < 4611686018427387904
theorem op_fdivW {X : Cx} : OpR X (binaryOp .FloorDiv) (rI CDivW fun i j => .int (i / j)) := opI fun i j _ _ _ _ _ hc q => by
  have h1 : (0 : Int) < j := hc.1
  have h2 : j < 4611686018427387904 := hc.2
  have h3 : j.natAbs.log2 < 62 := (Nat.log2_lt (by omega)).mpr (by show j.natAbs < 4611686018427387904; omega)
  exact floordiv_int (by omega) (by rw [Int.fdiv_eq_ediv_of_nonneg i (by omega)]; exact q) (.inl (PyProof.noPylong_of_log2 (by omega)))
end GK
/-! Sum and least of a tuple of ints; comprehensions over lists or tuples; a dict with int keys. -/
namespace GK
open PySem PySem.Spec PyProof.Rows L2 LamX Evl PpSet
/-! ### row[:-1] of a list or a tuple -/
/-! ### comprehensions over a list or a tuple -/
/-! ### {node: True for node in ..} -/
/-! ### == and in -/
/-! ### x = {k: v for ..} -/
end GK
/-! Expressions told by their data; tables with right sums. -/
namespace GK
open PySem PySem.Spec PyProof.Rows L2 LamX Evl PpSet
variable {K : PySem.W.Frag} {σ : L2.St} {H H' : Hp} {ta tb tc te tl : TE} {t : TT} {x y v : V} {d e : PyData}
mutual
theorem dp_up (s : Same H H') : ∀ {v : V} {d : PyData}, Dp K H v d → Dp K H' v d
  | _, _, .non => .non
  | _, _, .bl b => .bl b
  | _, _, .int i => .int i
  | _, _, .str x => .str x
  | _, _, .lst h t => .lst (sq_mono s h) (dpAll_up s t)
  | _, _, .tup h t => .tup (st_mono s h) (dpAll_up s t)
theorem dpAll_up (s : Same H H') : ∀ {vs : List V} {ds : List PyData}, DpAll K H vs ds → DpAll K H' vs ds
  | _, _, .nil => .nil
  | _, _, .cons h t => .cons (dp_up s h) (dpAll_up s t)
end
def EvP (K : PySem.W.Frag) (te : TE) (σ : L2.St) (H : Hp) (d : PyData) : Prop := ∀ H1, Same H H1 → ∀ Q : VK, (∀ v H2, Same H1 H2 → Dp K H2 v d → Q v H2) → te σ H1 Q
theorem EvP.mono (s : Same H H') (h : EvP K te σ H d) : EvP K te σ H' d := fun H1 a Q q => h H1 (s.trans a) Q q
theorem eqv_same {d : PyData} (h : SeqAt.shaped d = true) : PyData.eqv d d = true := PySem.SeqAt.eqv_refl d (by
  have h' : (d.canLay0 && decide (d.depth ≤ 64)) = true := h
  exact (Bool.and_eq_true_iff.mp h').1)
/-! ### sums by rows and columns -/
end GK
/-! What is reached and what is shifted, as it is done turn by turn: the same each time. Plain. -/
namespace GK
end GK
/-! repr of nested data: defs that are called where no repr is under way. -/
namespace GK
open PySem PySem.Spec PyProof.Rows L2 LamX Evl PpSet
/-- a def's promise where no repr is under way -/
structure FnOkG (P : Program) (w : World) (K : PySem.W.Frag) (mg : Str → Option Value) (base : Heap) (CX : CXT) (k : Nat) (f : Addr) (fd : FuncData) (ps : List Str) (sp : Sp) : Prop where
  len : ∀ vs H Q E, sp vs H Q E → vs.length = ps.length
  run : ∀ (A : Around) (outer : List Env) (s : Shared) (H : Hp) (args : Args) (us : List Value) (vs : List V) (Q : VK) (E : XK), A.guards = some [] → Room k A → Env0 P w K mg base A outer s H → BindsTo s fd args (ps.zip us) → Vals vs us → sp vs H Q E →
    codeAny (model P w) A (.call (.ref f) args) (CR CX outer P w H s Q E) s
theorem FnOkG.mono {P : Program} {w : World} {K : PySem.W.Frag} {mg : Str → Option Value} {base : Heap} {CX : CXT} {j k : Nat} {f : Addr} {fd : FuncData} {ps : List Str} {sp : Sp} (F : FnOkG P w K mg base CX j f fd ps sp) (h : j ≤ k) : FnOkG P w K mg base CX k f fd ps sp :=
  ⟨F.len, fun A outer s H args us vs Q E g hr => F.run A outer s H args us vs Q E g (hr.mono h)⟩
/-! ### repr -/
end GK
/-! The end for a law whose def is called where no repr is under way. -/
namespace GK
open PySem PySem.Spec PyProof.Rows L2 LamX Evl PpSet
end GK
/-! Defs that refuse: two promises of one def put together; what a def lets out; isinstance of an exception that has fields; list.count of truths. -/
namespace GK
open PySem PySem.Spec PyProof.Rows L2 LamX
section
variable {P : Program} {w : World} {K : PySem.W.Frag} {mg : Str → Option Value} {base : Heap}
theorem ok_orX {CX : CXT} {k : Nat} {f : Addr} {fd : FuncData} {ps : List Str} {sp sp' : Sp} (F : FnOk P w K mg base CX k f fd ps sp) (G : FnOk P w K mg base CX k f fd ps sp') : FnOk P w K mg base CX k f fd ps (fun vs H Q E => sp vs H Q E ∨ sp' vs H Q E) :=
  ⟨fun vs H Q E h => h.elim (F.len vs H Q E) (G.len vs H Q E), fun A outer s H args us vs Q E hr e0 hb hv h => h.elim (F.run A outer s H args us vs Q E hr e0 hb hv) (G.run A outer s H args us vs Q E hr e0 hb hv)⟩
/-- a def that may let out an exception -/
theorem funX_ok {x qual : Str} {st : Stmt} {f : Addr} {fd : FuncData} {N ps : List Str} {k : Nat} {sp : Sp} (F : Fun K x qual st f fd) (S : FnScope N ps (defScope st)) (len : ∀ vs H Q E, sp vs H Q E → vs.length = ps.length)
    (hbody : ∀ (cdv : Value) (A : Around) (outer : List Env) (s : Shared) (H : Hp) (vs : List V) (Q : VK) (E : XK), Room k (A.deeper (envOfC qual (defScope st) s.heap.objs.size f cdv)) → sp vs H Q E →
      ∃ t, PSs (cxOf (L2.CX P w) P w K mg base N qual (defScope st) f cdv A outer s H E) (defBody st) t ∧ t { nx := fun _ H' => Q .non H', rt := Q } (start N vs) H) : FnOk P w K mg base (L2.CX P w) (k + 1) f fd ps sp := by
  obtain ⟨oc, od, kV, doc, pm, an, cdv, ct, osl, rfl, lk, hcd⟩ := F.ex
  exact fn_of lk hcd S len fun A outer s H vs Q E hr hsp => hbody cdv A outer s H vs Q E hr hsp
end
/-! ### what is let out -/
def Lets (H : Hp) (E : XK) (C : Addr) (fs : List (Str × V)) : Prop := ∀ dd H', Same H H' → H dd = none → H' dd = some (.xd fs) → E (.ref C) (some dd) H'
theorem Lets.up {H H1 : Hp} {E : XK} {C : Addr} {fs : List (Str × V)} (h : Lets H E C fs) (e : Same H H1) : Lets H1 E C fs := fun dd H' s n hd => h dd H' (e.trans s) (Same.free e n) hd
theorem passX {X : Cx} {E : XK} (tk : Takes X (fun cls d _ H => E cls d H)) : Passes (L2.CX X.prog X.w) X E := passes_call tk fun _ _ _ _ z => z
/-- the frame's slots are as many as its names -/
theorem Takes.len {X : Cx} {W : WX} (t : Takes X W) : Takes X (fun cls d σ H => σ.length = X.N.length → W cls d σ H) := fun u s' ⟨a, B, sI, pins, σ, H, cls, d, e, I, nb, up, sky, na, os, ag, w⟩ =>
  t u s' ⟨a, B, sI, pins, σ, H, cls, d, e, I, nb, up, sky, na, os, ag, w I.len⟩
/-! ### isinstance(e, c) -/
def rIsX (K : PySem.W.Frag) (a : Addr) (cls : Value) (d : Option Addr) : List V → Hp → VK → Prop := fun xs H Q => ∃ (D dd : Addr) (fs : List (Str × V)) (c : V) (cv : Value) (b : Bool), cls = .ref D ∧ d = some dd ∧ H dd = some (.xd fs) ∧ ExcC K D ∧ xs = [.ref a, c] ∧ (∀ u, RelV c u → u = cv) ∧ PySem.W.kitOne K (.ref D) cv = some b ∧ Q (.bl b) H
theorem call_isX {X : Cx} {a : Addr} {oe : Obj} {cls : Value} {d : Option Addr} {pn : List (Addr × Obj)} (hz : Zc cls d oe) (hf : ∃ vs, oe.data = .fields vs) : CallR (X.suite a ((a, oe) :: pn)) (.builtin "isinstance") (rIsX X.K a cls d) := by
  intro pins s σ H xs us Q I r h
  obtain ⟨D, dd, fs, c, cv, b, rfl, rfl, ea, C, rfl, hcv, e, q⟩ := h
  cases r with
  | cons rx rr =>
    cases rr with
    | cons rt rr =>
      cases rr
      cases rx
      have ec := hcv _ rt
      subst ec
      obtain ⟨hget, _⟩ := I.pin (a, oe) (List.mem_append.mpr (.inl List.mem_cons_self))
      obtain ⟨vs, hv⟩ := hf
      have hx : ObjOk X.prog X.w H s.heap dd (.xd fs) := I.hok dd _ ea
      obtain ⟨mA, hns, hr⟩ := hx
      obtain ⟨od, ho, hl⟩ := lookIn_ns hns
      have J : PySem.W.InstAt s.heap a oe D (some od) := ⟨hget, hz.1, by unfold PySem.W.notCls; rw [hv] <;> rfl, by rw [hz.2]; exact ho⟩
      have hcl : (PySem.W.clsIn X.K D).isSome = true := by
        obtain ⟨cd, hc, _⟩ := PySem.W.any_some C.hd
        rw [hc]; rfl
      exact PySem.W.kia_one (PySem.W.kitx_exc hcl C.hg C.hk C.hs C.ha C.hn C.ht C.hm) I.kIn J e (fun z => nomatch z) fun tk => ⟨.bl b, H, I.kept (t' := tk) fun _ _ z => z, rfl, q⟩
/-! ### list.count of truths -/
def rCntB (K : PySem.W.Frag) : V → List V → Hp → VK → Prop := fun x xs H Q => ∃ (p : Addr) (bs : List Bool) (k : Bool), x = .ref p ∧ xs = [.bl k] ∧ SqL K H p (bs.map V.bl) ∧ Q (.int (bs.count k : Nat)) H
theorem bools_of : ∀ {bs : List Bool} {us : List Value}, Vals (bs.map V.bl) us → us = bs.map Value.bool
  | [], _, .nil => rfl
  | b :: bs, _, .cons r t => by rw [bools_of t, show _ = Value.bool b from r]; rfl
theorem mt_countB {X : Cx} : MtR X "list.count" (rCntB X.K) := by
  intro pins s σ H x xs v us Q I rx rxs h
  obtain ⟨p, bs, k, rfl, rfl, hs, q⟩ := h
  cases rx
  obtain ⟨u, rfl, ru⟩ := rxs.one
  obtain rfl : u = Value.bool k := ru
  obtain ⟨its, rv, ⟨⟨cls, dd, data, sl⟩, n, ho, hc, hdn, hd⟩, hlen⟩ := I.list hs
  simp only at hc hd
  subst hc hd
  have e := bools_of rv
  subst e
  refine call_meets PySem.F.slot_list_count ⟨_, ho, rfl⟩ PySem.F.entry_list_count (PySem.F.args_list_count_2 _ _)
    (SeqAt.list_countAt p (bs.map Value.bool).toArray n dd sl (.bool k) (isBoolOf k)) ⟨ho, fun y hy => ?_, ?_⟩
  · obtain ⟨b, _, rfl⟩ := List.mem_map.mp (show y ∈ bs.map Value.bool by simpa using hy)
    exact SeqAt.EqAt.bool_bool b k
  · have ec : (bs.map Value.bool).toArray.toList.countP (isBoolOf k) = bs.count k := by
      show (bs.map Value.bool).countP (isBoolOf k) = bs.count k
      rw [List.countP_map]
      rfl
    refine ⟨.int (bs.count k : Nat), H, I.tok _, ⟨s.toks, ?_⟩, q⟩
    show Value.int (((bs.map Value.bool).toArray.toList.countP (isBoolOf k) : Nat) : Int) s.toks = Value.int ((bs.count k : Nat) : Int) s.toks
    rw [ec]
/-! ### xs.insert(i, y) -/
/-! ### an exception of one's own is made -/
structure Made (H : Hp) (a C dx : Addr) (fs : List (Str × V)) (H2 : Hp) : Prop where
  free : H dx = none
  ne : dx ≠ a
  obj : H2 a = some (exo a C (some dx))
  dic : H2 dx = some (exd dx fs)
  keep : ∀ b, b ≠ a → b ≠ dx → H2 b = H b
theorem made_lets {H1 H2 : Hp} {a dx C : Addr} {fs : List (Str × V)} {E : XK} (ha : H1 a = none) (m : Made (upd H1 a (exo a C none)) a C dx fs H2) (l : Lets H1 E C fs) :
    ∃ (d : Addr) (fs' : List (Str × V)), H2 a = some (exo a C (some d)) ∧ H2 d = some (exd d fs') ∧ H1 d = none ∧ E (.ref C) (some d) (upd (del H2 a) d (.xd fs')) := by
  have hf : H1 dx = none := by have := m.free; rw [upd_ne m.ne] at this; exact this
  refine ⟨dx, fs, m.obj, m.dic, hf, l dx _ (fun b o h => ?_) hf upd_same⟩
  have n1 : b ≠ dx := ne_of_none h hf
  have n2 : b ≠ a := ne_of_none h ha
  rw [upd_ne n1, del_ne n2, m.keep b n2 n1, upd_ne n2]
  exact h
end GK
/-! Regions: a part S of the heap that is written to, told by an assertion I; all else only grows. Data that stand outside of S. Expressions told by predicates. -/
namespace GK
open PySem PySem.Spec PyProof.Rows L2 LamX Evl
/-! ### heaps without a part -/
def offS (S : List Addr) (H : Hp) : Hp := fun a => if a ∈ S then none else H a
section
variable {S S' : List Addr} {H H' H1 H2 H3 : Hp} {a p r : Addr} {o : HO}
theorem offS_some : offS S H a = some o ↔ a ∉ S ∧ H a = some o := by
  unfold offS
  by_cases h : a ∈ S <;> simp [h]
theorem offS_same (S : List Addr) (H : Hp) : Same (offS S H) H := fun a o h => (offS_some.mp h).2
theorem offS_mono (e : Same H H') : Same (offS S H) (offS S H') := fun c o h =>
  let ⟨h1, h2⟩ := offS_some.mp h
  offS_some.mpr ⟨h1, e c o h2⟩
theorem offS_sub (h : ∀ a ∈ S, a ∈ S') : Same (offS S' H) (offS S H) := fun c o e =>
  let ⟨h1, h2⟩ := offS_some.mp e
  offS_some.mpr ⟨fun z => h1 (h c z), h2⟩
theorem offS_upd (h : p ∈ S) : offS S (upd H p o) = offS S H := by
  funext a
  unfold offS upd
  by_cases e : a = p
  · subst e; simp [h]
  · simp [e]
theorem offS_cons (h : H p = none) (e : Same H H') : Same (offS S H) (offS (p :: S) H') := fun c o z =>
  let ⟨h1, h2⟩ := offS_some.mp z
  offS_some.mpr ⟨fun m => by
    rcases List.mem_cons.mp m with m | m
    · subst m; rw [h] at h2; cases h2
    · exact h1 m, e c o h2⟩
theorem offS_of_off (hr : r ∈ S) (e : Same (off r H) (off r H')) : Same (offS S H) (offS S H') := fun c o z =>
  let ⟨h1, h2⟩ := offS_some.mp z
  have n : c ≠ r := fun m => h1 (m ▸ hr)
  offS_some.mpr ⟨h1, (off_some.mp (e c o (off_some.mpr ⟨n, h2⟩))).2⟩
end
/-- a region: the addresses that may be written to, and what is true of what stands there -/
structure Rg where
  S : List Addr
  I : Hp → Prop
  loc : ∀ {H H' : Hp}, (∀ a ∈ S, H' a = H a) → I H → I H'
  dom : ∀ {H : Hp}, I H → ∀ a ∈ S, ∃ o, H a = some o
def Rg.off (R : Rg) (H : Hp) : Hp := offS R.S H
structure Go (R : Rg) (H H' : Hp) : Prop where
  same : Same (R.off H) (R.off H')
  inv : R.I H'
section
variable {R : Rg} {H H' H0 H1 H2 H3 : Hp} {a p r : Addr} {o : HO}
theorem Rg.up (h : R.I H) (e : Same H H') : R.I H' := R.loc (fun a ha => by obtain ⟨o, ho⟩ := R.dom h a ha; rw [ho, e _ _ ho]) h
theorem Go.of (h : R.I H) (e : Same H H') : Go R H H' := ⟨offS_mono e, R.up h e⟩
theorem Go.refl (h : R.I H) : Go R H H := ⟨Same.refl _, h⟩
theorem Go.trans (a : Go R H H1) (b : Go R H1 H2) : Go R H H2 := ⟨a.same.trans b.same, b.inv⟩
theorem Go.new (h : R.I H) (n : H p = none) : Go R H (upd H p o) := Go.of h (same_new n)
theorem Rg.fresh (h : R.I H) (n : H p = none) : p ∉ R.S := fun z => by
  obtain ⟨o, ho⟩ := R.dom h p z
  rw [n] at ho
  cases ho
theorem Go.free (g : Go R H H') (n : H' p = none) : R.off H p = none := by
  cases e : R.off H p with
  | none => rfl
  | some o =>
    have z := (offS_some.mp (g.same _ _ e)).2
    rw [n] at z
    cases z
theorem off_new (h : R.I H) (n : H p = none) : R.off (upd H p o) p = some o := offS_some.mpr ⟨R.fresh h n, upd_same⟩
/-- nothing is written to: what stands at S stays -/
def still (S : List Addr) (H0 : Hp) (d : ∀ a ∈ S, ∃ o, H0 a = some o) : Rg where
  S := S
  I := fun H => ∀ a ∈ S, H a = H0 a
  loc := fun e h a ha => (e a ha).trans (h a ha)
  dom := fun h a ha => by obtain ⟨o, ho⟩ := d a ha; exact ⟨o, (h a ha).trans ho⟩
theorem still_refl {S : List Addr} {d : ∀ a ∈ S, ∃ o, H0 a = some o} : (still S H0 d).I H0 := fun _ _ => rfl
theorem still_same {S : List Addr} {d : ∀ a ∈ S, ∃ o, H0 a = some o} (g : Go (still S H0 d) H0 H) : Same H0 H := fun b o h => by
  by_cases m : b ∈ S
  · rw [g.inv b m]; exact h
  · exact (offS_some.mp (g.same b o (offS_some.mpr ⟨m, h⟩))).2
/-- the draws' list at r is written to, the rest of S stays -/
def draw (S : List Addr) (r : Addr) (H0 : Hp) (d : ∀ a ∈ S, ∃ o, H0 a = some o) (hr : r ∈ S) : Rg where
  S := S
  I := fun H => Rng H r ∧ ∀ a ∈ S, a ≠ r → H a = H0 a
  loc := fun {H H'} e h => ⟨by obtain ⟨a, b, c, z⟩ := h.1; exact ⟨a, b, c, by rw [e r hr]; exact z⟩, fun a ha n => (e a ha).trans (h.2 a ha n)⟩
  dom := fun h a ha => by
    by_cases n : a = r
    · obtain ⟨x, b, c, z⟩ := h.1; exact ⟨_, by rw [n]; exact z⟩
    · obtain ⟨o, ho⟩ := d a ha; exact ⟨o, (h.2 a ha n).trans ho⟩
theorem draw_refl {S : List Addr} {d : ∀ a ∈ S, ∃ o, H0 a = some o} {hr : r ∈ S} (h : Rng H0 r) : (draw S r H0 d hr).I H0 := ⟨h, fun _ _ _ => rfl⟩
theorem draw_fr {S : List Addr} {d : ∀ a ∈ S, ∃ o, H0 a = some o} {hr : r ∈ S} (g : Go (draw S r H0 d hr) H0 H) : Fr r H0 H := ⟨fun b o h => by
  obtain ⟨n, h⟩ := off_some.mp h
  refine off_some.mpr ⟨n, ?_⟩
  by_cases m : b ∈ S
  · rw [g.inv.2 b m n]; exact h
  · exact (offS_some.mp (g.same b o (offS_some.mpr ⟨m, h⟩))).2, g.inv.1⟩
/-- a region in which draws may be made -/
structure Drw (R : Rg) (r : Addr) : Prop where
  mem : r ∈ R.S
  rng : ∀ {H}, R.I H → Rng H r
  fr : ∀ {H H'}, R.I H → Fr r H H' → R.I H'
theorem Drw.go (d : Drw R r) (h : R.I H) (f : Fr r H H') : Go R H H' := ⟨offS_of_off d.mem f.same, d.fr h f⟩
theorem drw_draw {S : List Addr} {d : ∀ a ∈ S, ∃ o, H0 a = some o} {hr : r ∈ S} : Drw (draw S r H0 d hr) r := ⟨hr, fun h => h.1, fun {H H'} h f => ⟨f.rng, fun a ha n => by
  obtain ⟨o, ho⟩ := d a ha
  have z := (off_some.mp (f.same a o (off_some.mpr ⟨n, (h.2 a ha n).trans ho⟩))).2
  rw [z, ho]⟩⟩
end
/-! ### predicates that stay as heaps grow -/
structure Pd where
  p : Hp → V → Prop
  up : ∀ {H H' : Hp} {v : V}, Same H H' → p H v → p H' v
/-- data of which P is true -/
def Dt (K : PySem.W.Frag) (P : PyData → Prop) : Pd := ⟨fun H v => ∃ d, P d ∧ Dp K H v d, fun e ⟨d, h, hd⟩ => ⟨d, h, dp_up e hd⟩⟩
/-- that very data -/
abbrev Dq (K : PySem.W.Frag) (d : PyData) : Pd := Dt K (fun x => x = d)
theorem dq {K : PySem.W.Frag} {H : Hp} {v : V} {d : PyData} (h : Dp K H v d) : (Dq K d).p H v := ⟨d, rfl, h⟩
theorem of_dq {K : PySem.W.Frag} {H : Hp} {v : V} {d : PyData} (h : (Dq K d).p H v) : Dp K H v d := by obtain ⟨_, rfl, h⟩ := h; exact h
inductive PdAll (H : Hp) : List Pd → List V → Prop
  | nil : PdAll H [] []
  | cons {D : Pd} {Ds : List Pd} {v : V} {vs : List V} : D.p H v → PdAll H Ds vs → PdAll H (D :: Ds) (v :: vs)
theorem PdAll.up {H H' : Hp} (e : Same H H') : ∀ {Ds : List Pd} {vs : List V}, PdAll H Ds vs → PdAll H' Ds vs
  | _, _, .nil => .nil
  | _, _, .cons (D := D) h t => .cons (D.up e h) (t.up e)
/-- data, one by one -/
inductive Al : List (PyData → Prop) → List PyData → Prop
  | nil : Al [] []
  | cons {P : PyData → Prop} {Ps : List (PyData → Prop)} {d : PyData} {ds : List PyData} : P d → Al Ps ds → Al (P :: Ps) (d :: ds)
def isI (A : Int → Prop) : PyData → Prop := fun d => ∃ i, d = .int i ∧ A i
def isS (A : Str → Prop) : PyData → Prop := fun d => ∃ s, d = .str s ∧ A s
def isB (A : Bool → Prop) : PyData → Prop := fun d => ∃ b, d = .bool b ∧ A b
theorem dp_int_of {K : PySem.W.Frag} {H : Hp} {v : V} {A : Int → Prop} (h : (Dt K (isI A)).p H v) : ∃ i, v = .int i ∧ A i := by
  obtain ⟨_, ⟨i, rfl, a⟩, h⟩ := h
  cases h
  exact ⟨i, rfl, a⟩
theorem dp_str_of {K : PySem.W.Frag} {H : Hp} {v : V} {A : Str → Prop} (h : (Dt K (isS A)).p H v) : ∃ i, v = .str i ∧ A i := by
  obtain ⟨_, ⟨i, rfl, a⟩, h⟩ := h
  cases h
  exact ⟨i, rfl, a⟩
theorem dp_tup {K : PySem.W.Frag} {H : Hp} {v : V} {ds : List PyData} (h : Dp K H v (.tuple ds)) : ∃ a vs, v = .ref a ∧ SqT K H a vs ∧ DpAll K H vs ds := by
  cases h with
  | tup h1 h2 => exact ⟨_, _, rfl, h1, h2⟩
theorem dp_lst {K : PySem.W.Frag} {H : Hp} {v : V} {ds : List PyData} (h : Dp K H v (.list ds)) : ∃ a vs, v = .ref a ∧ SqL K H a vs ∧ DpAll K H vs ds := by
  cases h with
  | lst h1 h2 => exact ⟨_, _, rfl, h1, h2⟩
theorem dpAll_len {K : PySem.W.Frag} {H : Hp} : ∀ {vs : List V} {ds : List PyData}, DpAll K H vs ds → vs.length = ds.length
  | _, _, .nil => rfl
  | _, _, .cons _ t => by rw [List.length_cons, List.length_cons, dpAll_len t]
theorem dpAll_get {K : PySem.W.Frag} {H : Hp} : ∀ {vs : List V} {ds : List PyData} {i : Nat} {d : PyData}, DpAll K H vs ds → ds[i]? = some d → ∃ v, vs[i]? = some v ∧ Dp K H v d
  | _, _, _, _, .nil, e => by simp at e
  | _, _, 0, _, .cons h _, e => by simp at e; subst e; exact ⟨_, rfl, h⟩
  | _, _, i + 1, _, .cons _ t, e => by simpa using dpAll_get (i := i) t (by simpa using e)
theorem dpAll_getV {K : PySem.W.Frag} {H : Hp} : ∀ {vs : List V} {ds : List PyData} {i : Nat} {v : V}, DpAll K H vs ds → vs[i]? = some v → ∃ d, ds[i]? = some d ∧ Dp K H v d
  | _, _, _, _, .nil, e => by simp at e
  | _, _, 0, _, .cons h _, e => by simp at e; subst e; exact ⟨_, rfl, h⟩
  | _, _, i + 1, _, .cons _ t, e => by simpa using dpAll_getV (i := i) t (by simpa using e)
theorem dpAll_append {K : PySem.W.Frag} {H : Hp} : ∀ {vs us : List V} {ds es : List PyData}, DpAll K H vs ds → DpAll K H us es → DpAll K H (vs ++ us) (ds ++ es)
  | _, _, _, _, .nil, s => s
  | _, _, _, _, .cons r t, s => .cons r (dpAll_append t s)
theorem dpAll_take {K : PySem.W.Frag} {H : Hp} : ∀ {vs : List V} {ds : List PyData} (n : Nat), DpAll K H vs ds → DpAll K H (vs.take n) (ds.take n)
  | _, _, 0, _ => .nil
  | _, _, _ + 1, .nil => .nil
  | _, _, n + 1, .cons r t => .cons r (dpAll_take n t)
theorem dpAll_drop {K : PySem.W.Frag} {H : Hp} : ∀ {vs : List V} {ds : List PyData} (n : Nat), DpAll K H vs ds → DpAll K H (vs.drop n) (ds.drop n)
  | _, _, 0, r => r
  | _, _, _ + 1, .nil => .nil
  | _, _, n + 1, .cons _ t => dpAll_drop n t
/-- an item at a place, told of lists of one length -/
theorem at_len {α β : Type} {xs : List α} {ys : List β} (h : xs.length = ys.length) {i : Int} {y : β} (e : atI ys i = some y) : ∃ (k : Nat) (x : α), atI xs i = some x ∧ xs[k]? = some x ∧ ys[k]? = some y := by
  unfold atI at e ⊢
  rw [h]
  cases hk : ixN ys.length i with
  | none => rw [hk] at e; simp at e
  | some k =>
    rw [hk] at e
    have e : ys[k]? = some y := by simpa using e
    have lt := (List.getElem?_eq_some_iff.mp e).1
    exact ⟨k, xs[k], by simp [List.getElem?_eq_getElem (h ▸ lt)], List.getElem?_eq_getElem (h ▸ lt), e⟩
theorem dpAll_at {K : PySem.W.Frag} {H : Hp} {vs : List V} {ds : List PyData} {i : Int} {d : PyData} (h : DpAll K H vs ds) (e : atI ds i = some d) : ∃ v, atI vs i = some v ∧ Dp K H v d := by
  obtain ⟨k, x, h1, h2, h3⟩ := at_len (dpAll_len h) e
  obtain ⟨v, h4, h5⟩ := dpAll_get h h3
  rw [h2] at h4
  cases h4
  exact ⟨_, h1, h5⟩
end GK
/-! Expressions told by predicates within a region; statements. -/
namespace GK
open PySem PySem.Spec PyProof.Rows L2 LamX Evl
def EvX (R : Rg) (te : TE) (σ : L2.St) (H : Hp) (D : Pd) : Prop := ∀ H1, Go R H H1 → ∀ Q : VK, (∀ v H2, Go R H1 H2 → D.p (R.off H2) v → Q v H2) → te σ H1 Q
/-- arguments that are data -/
def EvDs (K : PySem.W.Frag) (R : Rg) (ta : TA) (σ : L2.St) (H : Hp) (Ps : List (PyData → Prop)) : Prop := ∀ H1, Go R H H1 → ∀ Q : List V → Hp → Prop, (∀ vs ds H2, Go R H1 H2 → Al Ps ds → DpAll K (R.off H2) vs ds → Q vs H2) → ta σ H1 Q
def EvXT (R : Rg) (tt : TT) (σ : L2.St) (H : Hp) (B : Bool → Prop) : Prop := ∀ H1, Go R H H1 → ∀ Q : Bool → Hp → Prop, (∀ b H2, Go R H1 H2 → B b → Q b H2) → tt σ H1 Q
def EvXO (R : Rg) (to : TO) (σ : L2.St) (H : Hp) (A : Option Int → Prop) : Prop := ∀ H1, Go R H H1 → ∀ Q : Option Int → Hp → Prop, (∀ o H2, Go R H1 H2 → A o → Q o H2) → to σ H1 Q
section
variable {K : PySem.W.Frag} {R : Rg} {σ : L2.St} {H H' H1 : Hp} {ta tb tc te tl : TE} {t u : TT} {v x y : V} {D A B : Pd} {P : PyData → Prop}
theorem EvX.mono (g : Go R H H1) (h : EvX R te σ H D) : EvX R te σ H1 D := fun H2 g2 Q q => h H2 (g.trans g2) Q q
theorem EvXT.mono {B : Bool → Prop} (g : Go R H H1) (h : EvXT R t σ H B) : EvXT R t σ H1 B := fun H2 g2 Q q => h H2 (g.trans g2) Q q
theorem EvX.imp {D' : Pd} (h : EvX R te σ H D) (f : ∀ H v, D.p H v → D'.p H v) : EvX R te σ H D' := fun H1 g Q q => h H1 g Q fun v H2 g2 d => q v H2 g2 (f _ _ d)
theorem EvX.data {P' : PyData → Prop} (h : EvX R te σ H (Dt K P)) (f : ∀ d, P d → P' d) : EvX R te σ H (Dt K P') := h.imp fun _ _ ⟨d, a, b⟩ => ⟨d, f d a, b⟩
theorem EvXT.imp {B B' : Bool → Prop} (h : EvXT R t σ H B) (f : ∀ b, B b → B' b) : EvXT R t σ H B' := fun H1 g Q q => h H1 g Q fun v H2 g2 d => q v H2 g2 (f _ d)
theorem x_var {i : Nat} (hi : σ[i]? = some (some v)) (h : D.p (R.off H) v) : EvX R (tVar i) σ H D := fun H1 g Q q => ⟨v, hi, q v H1 (Go.refl g.inv) (D.up g.same h)⟩
theorem x_d {i : Nat} {d : PyData} (hi : σ[i]? = some (some v)) (h : Dp K (R.off H) v d) (hP : P d) : EvX R (tVar i) σ H (Dt K P) := x_var hi ⟨d, hP, h⟩
theorem x_c (h : ∀ H, D.p H v) : EvX R (tC v) σ H D := fun H1 g Q q => q v H1 (Go.refl g.inv) (h _)
theorem x_i {n : Int} {A : Int → Prop} (h : A n) : EvX R (tC (.int n)) σ H (Dt K (isI A)) := x_c fun _ => ⟨.int n, ⟨n, rfl, h⟩, .int n⟩
theorem x_s {s : Str} {A : Str → Prop} (h : A s) : EvX R (tC (.str s)) σ H (Dt K (isS A)) := x_c fun _ => ⟨.str s, ⟨s, rfl, h⟩, .str s⟩
theorem x_n : EvX R (tC .non) σ H (Dq K .none) := x_c fun _ => ⟨.none, rfl, .non⟩
theorem x_vi {i : Nat} {n : Int} {A : Int → Prop} (hi : σ[i]? = some (some (.int n))) (h : A n) : EvX R (tVar i) σ H (Dt K (isI A)) := x_var hi ⟨.int n, ⟨n, rfl, h⟩, .int n⟩
theorem x_vs {i : Nat} {n : Str} {A : Str → Prop} (hi : σ[i]? = some (some (.str n))) (h : A n) : EvX R (tVar i) σ H (Dt K (isS A)) := x_var hi ⟨.str n, ⟨n, rfl, h⟩, .str n⟩
theorem x_is {d : PyData} (hv : ∀ H, Dp K H v d) (hP : P d) : EvX R (tC v) σ H (Dt K P) := x_c fun H => ⟨d, hP, hv H⟩
theorem x_op {r : R2} (ha : EvX R ta σ H A) (hb : EvX R tb σ H B) (hr : ∀ H1 x y Q, Go R H H1 → A.p (R.off H1) x → B.p (R.off H1) y → (∀ v H2, Go R H1 H2 → D.p (R.off H2) v → Q v H2) → r x y H1 Q) : EvX R (tOp r ta tb) σ H D := fun H1 g Q q =>
  ha H1 g _ fun x H2 g2 hx => hb H2 (g.trans g2) _ fun y H3 g3 hy => hr H3 x y Q ((g.trans g2).trans g3) (A.up g3.same hx) hy fun v H4 g4 hv => q v H4 ((g2.trans g3).trans g4) hv
theorem x_un {r : V → Hp → VK → Prop} (ha : EvX R ta σ H A) (hr : ∀ H1 x Q, Go R H H1 → A.p (R.off H1) x → (∀ v H2, Go R H1 H2 → D.p (R.off H2) v → Q v H2) → r x H1 Q) : EvX R (tUn r ta) σ H D := fun H1 g Q q =>
  ha H1 g _ fun x H2 g2 hx => hr H2 x Q (g.trans g2) hx fun v H4 g4 hv => q v H4 (g2.trans g4) hv
/-! ### arguments -/
theorem ds_nil : EvDs K R tNil σ H [] := fun H1 g Q q => q [] [] H1 (Go.refl g.inv) .nil .nil
theorem ds_cons {tr : TA} {Ps : List (PyData → Prop)} (ha : EvX R ta σ H (Dt K P)) (hb : EvDs K R tr σ H Ps) : EvDs K R (tCons ta tr) σ H (P :: Ps) := fun H1 g Q q =>
  ha H1 g _ fun x H2 g2 ⟨d, hp, hd⟩ => hb H2 (g.trans g2) _ fun xs ds H3 g3 al hs => q (x :: xs) (d :: ds) H3 (g2.trans g3) (.cons hp al) (.cons (dp_up g3.same hd) hs)
theorem al_len : ∀ {Ps : List (PyData → Prop)} {ds : List PyData}, Al Ps ds → ds.length = Ps.length
  | _, _, .nil => rfl
  | _, _, .cons _ t => by rw [List.length_cons, List.length_cons, al_len t]
theorem x_tup {ta : TA} {Ps : List (PyData → Prop)} (h : EvDs K R ta σ H Ps) (f : ∀ ds, Al Ps ds → P (.tuple ds)) (hz : Ps.length ≤ 1000 := by decide) : EvX R (tTup ta) σ H (Dt K P) := fun H1 g Q q =>
  h H1 g _ fun vs ds H2 g2 al hd => ⟨by rw [dpAll_len hd, al_len al]; exact Nat.le_trans hz (by decide), fun p hp => q _ _ (g2.trans (Go.new g2.inv hp)) ⟨.tuple ds, f ds al, .tup (SqT.of (off_new g2.inv hp)) (dpAll_up (Go.new g2.inv hp).same hd)⟩⟩
theorem x_lst {ta : TA} {Ps : List (PyData → Prop)} (h : EvDs K R ta σ H Ps) (f : ∀ ds, Al Ps ds → P (.list ds)) (hz : Ps.length ≤ 1000 := by decide) : EvX R (tLst ta) σ H (Dt K P) := fun H1 g Q q =>
  h H1 g _ fun vs ds H2 g2 al hd => ⟨by rw [dpAll_len hd, al_len al]; exact Nat.le_trans hz (by decide), fun p hp => q _ _ (g2.trans (Go.new g2.inv hp)) ⟨.list ds, f ds al, .lst (SqL.of (off_new g2.inv hp)) (dpAll_up (Go.new g2.inv hp).same hd)⟩⟩
/-! ### numbers -/
theorem x_I0 {g : Int → Int → Int} {A B : Int → Prop} (ha : EvX R ta σ H (Dt K (isI A))) (hb : EvX R tb σ H (Dt K (isI B))) (h : ∀ i j, A i → B j → P (.int (g i j))) : EvX R (tOp (rI0 fun i j => .int (g i j)) ta tb) σ H (Dt K P) :=
  x_op ha hb fun H1 x y Q go hx hy q => by
    obtain ⟨i, rfl, hi⟩ := dp_int_of hx
    obtain ⟨j, rfl, hj⟩ := dp_int_of hy
    exact ⟨i, j, rfl, rfl, q _ _ (Go.refl go.inv) ⟨_, h i j hi hj, .int _⟩⟩
theorem x_IC {C : Int → Int → Prop} {g : Int → Int → Int} {A B : Int → Prop} (ha : EvX R ta σ H (Dt K (isI A))) (hb : EvX R tb σ H (Dt K (isI B))) (h : ∀ i j, A i → B j → C i j ∧ P (.int (g i j))) : EvX R (tOp (rI C fun i j => .int (g i j)) ta tb) σ H (Dt K P) :=
  x_op ha hb fun H1 x y Q go hx hy q => by
    obtain ⟨i, rfl, hi⟩ := dp_int_of hx
    obtain ⟨j, rfl, hj⟩ := dp_int_of hy
    exact ⟨i, j, rfl, rfl, (h i j hi hj).1, q _ _ (Go.refl go.inv) ⟨_, (h i j hi hj).2, .int _⟩⟩
theorem x_neg {A : Int → Prop} (ha : EvX R ta σ H (Dt K (isI A))) (h : ∀ i, A i → P (.int (-i))) : EvX R (tUn (rU fun i => .int (-i)) ta) σ H (Dt K P) :=
  x_un ha fun H1 x Q go hx q => by
    obtain ⟨i, rfl, hi⟩ := dp_int_of hx
    exact ⟨i, rfl, q _ _ (Go.refl go.inv) ⟨_, h i hi, .int _⟩⟩
/-! ### items -/
theorem x_ixT {A : PyData → Prop} {N : Int → Prop} (ha : EvX R ta σ H (Dt K A)) (hb : EvX R tb σ H (Dt K (isI N))) (h : ∀ d i, A d → N i → ∃ ds e, d = .tuple ds ∧ atI ds i = some e ∧ P e) : EvX R (tOp (rIxT K) ta tb) σ H (Dt K P) :=
  x_op ha hb fun H1 x y Q go hx hy q => by
    obtain ⟨d, hd, dp⟩ := hx
    obtain ⟨i, rfl, hi⟩ := dp_int_of hy
    obtain ⟨ds, e, rfl, ha', he⟩ := h d i hd hi
    obtain ⟨a, vs, rfl, hs, hds⟩ := dp_tup dp
    obtain ⟨v, hv, hdv⟩ := dpAll_at hds ha'
    exact ⟨a, vs, i, v, rfl, rfl, st_mono (offS_same _ _) hs, hv, q _ _ (Go.refl go.inv) ⟨e, he, hdv⟩⟩
theorem x_ixL {A : PyData → Prop} {N : Int → Prop} (ha : EvX R ta σ H (Dt K A)) (hb : EvX R tb σ H (Dt K (isI N))) (h : ∀ d i, A d → N i → ∃ ds e, d = .list ds ∧ atI ds i = some e ∧ P e) : EvX R (tOp (rIxL K) ta tb) σ H (Dt K P) :=
  x_op ha hb fun H1 x y Q go hx hy q => by
    obtain ⟨d, hd, dp⟩ := hx
    obtain ⟨i, rfl, hi⟩ := dp_int_of hy
    obtain ⟨ds, e, rfl, ha', he⟩ := h d i hd hi
    obtain ⟨a, vs, rfl, hs, hds⟩ := dp_lst dp
    obtain ⟨v, hv, hdv⟩ := dpAll_at hds ha'
    exact ⟨a, vs, i, v, rfl, rfl, sq_mono (offS_same _ _) hs, hv, q _ _ (Go.refl go.inv) ⟨e, he, hdv⟩⟩
/-! ### texts -/
theorem x_ixS {A : Str → Prop} {N : Int → Prop} (ha : EvX R ta σ H (Dt K (isS A))) (hb : EvX R tb σ H (Dt K (isI N))) (h : ∀ s i, A s → N i → s.length ≤ 100000 ∧ ∃ c, atI s.cps.toList i = some c ∧ P (.str ⟨#[c]⟩)) : EvX R (tOp rIxS ta tb) σ H (Dt K P) :=
  x_op ha hb fun H1 x y Q go hx hy q => by
    obtain ⟨s, rfl, hs⟩ := dp_str_of hx
    obtain ⟨i, rfl, hi⟩ := dp_int_of hy
    obtain ⟨hz, c, hc, hp⟩ := h s i hs hi
    exact ⟨s, i, c, rfl, rfl, sz_of hz, hc, q _ _ (Go.refl go.inv) ⟨_, hp, .str _⟩⟩
def rAddT : R2 := fun x y H Q => ∃ i j, x = .str i ∧ y = .str j ∧ i.length + j.length ≤ sizeLine ∧ Q (.str (i ++ j)) H
theorem op_addT {X : Cx} : OpR X (binaryOp .Add) rAddT := op_add_str
theorem x_addS {A B : Str → Prop} (ha : EvX R ta σ H (Dt K (isS A))) (hb : EvX R tb σ H (Dt K (isS B))) (h : ∀ i j, A i → B j → i.length + j.length ≤ 100000 ∧ P (.str (i ++ j))) : EvX R (tOp rAddT ta tb) σ H (Dt K P) :=
  x_op ha hb fun H1 x y Q go hx hy q => by
    obtain ⟨i, rfl, hi⟩ := dp_str_of hx
    obtain ⟨j, rfl, hj⟩ := dp_str_of hy
    exact ⟨i, j, rfl, rfl, sz_of (h i j hi hj).1, q _ _ (Go.refl go.inv) ⟨_, (h i j hi hj).2, .str _⟩⟩
/-! ### parts of a slice -/
theorem xo_none : EvXO R tNoPart σ H (fun o => o = none) := fun H1 g Q q => q none H1 (Go.refl g.inv) rfl
theorem xo_some {A : Int → Prop} (h : EvX R te σ H (Dt K (isI A))) : EvXO R (tPart te) σ H (fun o => ∃ i, o = some i ∧ A i) := fun H1 g Q q => h H1 g _ fun v H2 g2 hv => by
  obtain ⟨i, rfl, hi⟩ := dp_int_of hv
  exact ⟨i, rfl, q _ H2 g2 ⟨i, rfl, hi⟩⟩
def cutG {α : Type} (xs : List α) (lo hi : Option Int) : List α := (xs.drop (HT.sIx xs.length 0 lo)).take (HT.sIx xs.length xs.length hi - HT.sIx xs.length 0 lo)
theorem dpAll_cut {H : Hp} {vs : List V} {ds : List PyData} {lo hi : Option Int} (h : DpAll K H vs ds) : DpAll K H (cutV vs lo hi) (cutG ds lo hi) := by
  unfold cutV cutG
  rw [dpAll_len h]
  exact dpAll_take _ (dpAll_drop _ h)
theorem x_sl {r : V → Option Int → Option Int → Hp → VK → Prop} {tlo thi : TO} {L U : Option Int → Prop} (ha : EvX R ta σ H A) (h1 : EvXO R tlo σ H L) (h2 : EvXO R thi σ H U) (hr : ∀ H1 x lo hi Q, Go R H H1 → A.p (R.off H1) x → L lo → U hi → (∀ v H2, Go R H1 H2 → D.p (R.off H2) v → Q v H2) → r x lo hi H1 Q) : EvX R (tSl r ta tlo thi) σ H D := fun H1 g Q q =>
  ha H1 g _ fun x H2 g2 hx => h1 H2 (g.trans g2) _ fun lo H3 g3 hlo => h2 H3 ((g.trans g2).trans g3) _ fun hi H4 g4 hhi => hr H4 x lo hi Q (((g.trans g2).trans g3).trans g4) (A.up (g3.trans g4).same hx) hlo hhi fun v H5 g5 hv => q v H5 (((g2.trans g3).trans g4).trans g5) hv
theorem x_slL {A : PyData → Prop} {tlo thi : TO} {L U : Option Int → Prop} (ha : EvX R ta σ H (Dt K A)) (h1 : EvXO R tlo σ H L) (h2 : EvXO R thi σ H U) (h : ∀ d lo hi, A d → L lo → U hi → ∃ ds, d = .list ds ∧ P (.list (cutG ds lo hi))) : EvX R (tSl (rSlL K) ta tlo thi) σ H (Dt K P) :=
  x_sl ha h1 h2 fun H1 x lo hi Q go hx hlo hhi q => by
    obtain ⟨d, hd, dp⟩ := hx
    obtain ⟨ds, rfl, hp⟩ := h d lo hi hd hlo hhi
    obtain ⟨a, vs, rfl, hs, hds⟩ := dp_lst dp
    exact ⟨a, vs, rfl, sq_mono (offS_same _ _) hs, fun p np => q _ _ (Go.new go.inv np) ⟨_, hp, .lst (SqL.of (off_new go.inv np)) (dpAll_up (Go.new go.inv np).same (dpAll_cut hds))⟩⟩
theorem cut_whole {α : Type} {xs : List α} {lo hi : Option Int} (h : HT.sIx xs.length 0 lo = 0 ∧ HT.sIx xs.length xs.length hi = xs.length) : cutG xs lo hi = xs := by
  unfold cutG
  rw [h.1, h.2, List.drop_zero, Nat.sub_zero, List.take_length]
theorem x_slT {A : PyData → Prop} {tlo thi : TO} {L U : Option Int → Prop} (ha : EvX R ta σ H (Dt K A)) (h1 : EvXO R tlo σ H L) (h2 : EvXO R thi σ H U) (h : ∀ d lo hi, A d → L lo → U hi → ∃ ds, d = .tuple ds ∧ P (.tuple (cutG ds lo hi))) : EvX R (tSl (rSlA K) ta tlo thi) σ H (Dt K P) :=
  x_sl ha h1 h2 fun H1 x lo hi Q go hx hlo hhi q => by
    obtain ⟨d, hd, dp⟩ := hx
    obtain ⟨ds, rfl, hp⟩ := h d lo hi hd hlo hhi
    obtain ⟨a, vs, rfl, hs, hds⟩ := dp_tup dp
    refine ⟨a, vs, rfl, st_mono (offS_same _ _) hs, fun w => q _ _ (Go.refl go.inv) ⟨_, hp, ?_⟩, fun _ p np => q _ _ (Go.new go.inv np) ⟨_, hp, .tup (SqT.of (off_new go.inv np)) (dpAll_up (Go.new go.inv np).same (dpAll_cut hds))⟩⟩
    rw [dpAll_len hds] at w
    rw [cut_whole w]
    exact .tup hs hds
theorem x_slS {A : Str → Prop} {tlo thi : TO} {L U : Option Int → Prop} (ha : EvX R ta σ H (Dt K (isS A))) (h1 : EvXO R tlo σ H L) (h2 : EvXO R thi σ H U) (h : ∀ d lo hi, A d → L lo → U hi → d.length ≤ 100000 ∧ P (.str (cutS d lo hi))) : EvX R (tSl rSlS ta tlo thi) σ H (Dt K P) :=
  x_sl ha h1 h2 fun H1 x lo hi Q go hx hlo hhi q => by
    obtain ⟨s, rfl, hs⟩ := dp_str_of hx
    exact ⟨s, rfl, sz_of (h s lo hi hs hlo hhi).1, q _ _ (Go.refl go.inv) ⟨_, (h s lo hi hs hlo hhi).2, .str _⟩⟩
/-! ### put together -/
theorem x_catL {A B : PyData → Prop} (ha : EvX R ta σ H (Dt K A)) (hb : EvX R tb σ H (Dt K B)) (h : ∀ d e, A d → B e → ∃ ds es, d = .list ds ∧ e = .list es ∧ ds.length + es.length ≤ 100000 ∧ P (.list (ds ++ es))) : EvX R (tOp (rCatS K) ta tb) σ H (Dt K P) :=
  x_op ha hb fun H1 x y Q go hx hy q => by
    obtain ⟨d, hd, dp⟩ := hx
    obtain ⟨e, he, ep⟩ := hy
    obtain ⟨ds, es, rfl, rfl, hz, hp⟩ := h d e hd he
    obtain ⟨a, vs, rfl, hs, hds⟩ := dp_lst dp
    obtain ⟨b, us, rfl, ht, hes⟩ := dp_lst ep
    exact ⟨a, b, vs, us, rfl, rfl, sq_mono (offS_same _ _) hs, sq_mono (offS_same _ _) ht, by rw [dpAll_len hds, dpAll_len hes]; exact sz_of hz, fun p np => q _ _ (Go.new go.inv np) ⟨_, hp, .lst (SqL.of (off_new go.inv np)) (dpAll_up (Go.new go.inv np).same (dpAll_append hds hes))⟩⟩
theorem x_catT {A B : PyData → Prop} (ha : EvX R ta σ H (Dt K A)) (hb : EvX R tb σ H (Dt K B)) (h : ∀ d e, A d → B e → ∃ ds es, d = .tuple ds ∧ e = .tuple es ∧ ds.length + es.length ≤ 100000 ∧ P (.tuple (ds ++ es))) : EvX R (tOp (rCatA K) ta tb) σ H (Dt K P) :=
  x_op ha hb fun H1 x y Q go hx hy q => by
    obtain ⟨d, hd, dp⟩ := hx
    obtain ⟨e, he, ep⟩ := hy
    obtain ⟨ds, es, rfl, rfl, hz, hp⟩ := h d e hd he
    obtain ⟨a, vs, rfl, hs, hds⟩ := dp_tup dp
    obtain ⟨b, us, rfl, ht, hes⟩ := dp_tup ep
    refine ⟨a, b, vs, us, rfl, rfl, st_mono (offS_same _ _) hs, st_mono (offS_same _ _) ht, by rw [dpAll_len hds, dpAll_len hes]; exact sz_of hz, fun z => q _ _ (Go.refl go.inv) ⟨_, hp, ?_⟩, fun _ z => q _ _ (Go.refl go.inv) ⟨_, hp, ?_⟩, fun _ _ p np => q _ _ (Go.new go.inv np) ⟨_, hp, .tup (SqT.of (off_new go.inv np)) (dpAll_up (Go.new go.inv np).same (dpAll_append hds hes))⟩⟩
    · subst z
      cases hds
      exact .tup ht hes
    · subst z
      cases hes
      rw [List.append_nil]
      exact .tup hs hds
/-! ### calls of builtins, defs -/
theorem x_cb {ta : TA} {r : List V → Hp → VK → Prop} {Ps : List (PyData → Prop)} (ha : EvDs K R ta σ H Ps) (hr : ∀ H1 vs ds Q, Go R H H1 → Al Ps ds → DpAll K (R.off H1) vs ds → (∀ v H2, Go R H1 H2 → D.p (R.off H2) v → Q v H2) → r vs H1 Q) : EvX R (tCB r ta) σ H D := fun H1 g Q q =>
  ha H1 g _ fun vs ds H2 g2 al hd => hr H2 vs ds Q (g.trans g2) al hd fun v H3 g3 hv => q v H3 (g2.trans g3) hv
theorem x_call {ta : TA} {sp : Sp} {dvs : List V} {E : XK} {Ps : List (PyData → Prop)} (ha : EvDs K R ta σ H Ps) (hr : ∀ H1 vs ds Q, Go R H H1 → Al Ps ds → DpAll K (R.off H1) vs ds → (∀ v H2, Go R H1 H2 → D.p (R.off H2) v → Q v H2) → sp (vs ++ dvs) H1 Q E) : EvX R (tCall sp dvs E ta) σ H D := fun H1 g Q q =>
  ha H1 g _ fun vs ds H2 g2 al hd => hr H2 vs ds Q (g.trans g2) al hd fun v H3 g3 hv => q v H3 (g2.trans g3) hv
theorem x_len {A : PyData → Prop} (ha : EvX R ta σ H (Dt K A)) (h : ∀ d, A d → ∃ ds, (d = .list ds ∨ d = .tuple ds) ∧ P (.int ds.length)) : EvX R (tCB (gLenQ K) (tCons ta tNil)) σ H (Dt K P) :=
  x_cb (ds_cons ha ds_nil) fun H1 vs ds Q go al hd q => by
    cases al with
    | cons h1 t =>
      cases t
      cases hd with
      | cons d1 t =>
        cases t
        obtain ⟨es, hh, hp⟩ := h _ h1
        rcases hh with rfl | rfl
        · obtain ⟨a, us, rfl, hs, hes⟩ := dp_lst d1
          exact ⟨a, us, rfl, .inl (sq_mono (offS_same _ _) hs), q _ _ (Go.refl go.inv) ⟨_, hp, by rw [dpAll_len hes]; exact .int _⟩⟩
        · obtain ⟨a, us, rfl, hs, hes⟩ := dp_tup d1
          exact ⟨a, us, rfl, .inr (st_mono (offS_same _ _) hs), q _ _ (Go.refl go.inv) ⟨_, hp, by rw [dpAll_len hes]; exact .int _⟩⟩
theorem x_intb {A : Bool → Prop} (ha : EvX R ta σ H (Dt K (isB A))) (h : ∀ b, A b → P (.int (if b then 1 else 0))) : EvX R (tCB gInt1 (tCons ta tNil)) σ H (Dt K P) :=
  x_cb (ds_cons ha ds_nil) fun H1 vs ds Q go al hd q => by
    cases al with
    | cons h1 t =>
      cases t
      obtain ⟨b, rfl, hb⟩ := h1
      cases hd with
      | cons d1 t =>
        cases t
        cases d1
        exact .inr ⟨b, rfl, q _ _ (Go.refl go.inv) ⟨_, h b hb, .int _⟩⟩
/-! ### comparisons, tests -/
def isNon : PyData → Bool
  | .none => true
  | _ => false
theorem x_cmpI {p : Int → Int → Bool} {A B : Int → Prop} {C : Bool → Prop} (ha : EvX R ta σ H (Dt K (isI A))) (hb : EvX R tb σ H (Dt K (isI B))) (h : ∀ i j, A i → B j → C (p i j)) : EvX R (tOp (rI0 fun i j => .bl (p i j)) ta tb) σ H (Dt K (isB C)) :=
  x_op ha hb fun H1 x y Q go hx hy q => by
    obtain ⟨i, rfl, hi⟩ := dp_int_of hx
    obtain ⟨j, rfl, hj⟩ := dp_int_of hy
    exact ⟨i, j, rfl, rfl, q _ _ (Go.refl go.inv) ⟨_, ⟨_, rfl, h i j hi hj⟩, .bl _⟩⟩
theorem dec_str {s t : Str} : decide (V.str s = V.str t) = decide (s = t) := by
  by_cases h : s = t
  · subst h; simp
  · rw [decide_eq_false h, decide_eq_false (fun z => h (V.str.inj z))]
theorem dec_int {s t : Int} : decide (V.int s = V.int t) = decide (s = t) := by
  by_cases h : s = t
  · subst h; simp
  · rw [decide_eq_false h, decide_eq_false (fun z => h (V.int.inj z))]
theorem x_eqS {A B : Str → Prop} {C : Bool → Prop} (ha : EvX R ta σ H (Dt K (isS A))) (hb : EvX R tb σ H (Dt K (isS B))) (h : ∀ i j, A i → B j → C (decide (i = j))) : EvX R (tOp rEq ta tb) σ H (Dt K (isB C)) :=
  x_op ha hb fun H1 x y Q go hx hy q => by
    obtain ⟨i, rfl, hi⟩ := dp_str_of hx
    obtain ⟨j, rfl, hj⟩ := dp_str_of hy
    exact ⟨rfl, q _ _ (Go.refl go.inv) ⟨_, ⟨_, rfl, by rw [dec_str]; exact h i j hi hj⟩, .bl _⟩⟩
theorem x_neS {A B : Str → Prop} {C : Bool → Prop} (ha : EvX R ta σ H (Dt K (isS A))) (hb : EvX R tb σ H (Dt K (isS B))) (h : ∀ i j, A i → B j → C (!decide (i = j))) : EvX R (tOp rNe ta tb) σ H (Dt K (isB C)) :=
  x_op ha hb fun H1 x y Q go hx hy q => by
    obtain ⟨i, rfl, hi⟩ := dp_str_of hx
    obtain ⟨j, rfl, hj⟩ := dp_str_of hy
    exact ⟨rfl, q _ _ (Go.refl go.inv) ⟨_, ⟨_, rfl, by rw [dec_str]; exact h i j hi hj⟩, .bl _⟩⟩
theorem x_eqI {A B : Int → Prop} {C : Bool → Prop} (ha : EvX R ta σ H (Dt K (isI A))) (hb : EvX R tb σ H (Dt K (isI B))) (h : ∀ i j, A i → B j → C (decide (i = j))) : EvX R (tOp rEq ta tb) σ H (Dt K (isB C)) :=
  x_op ha hb fun H1 x y Q go hx hy q => by
    obtain ⟨i, rfl, hi⟩ := dp_int_of hx
    obtain ⟨j, rfl, hj⟩ := dp_int_of hy
    exact ⟨rfl, q _ _ (Go.refl go.inv) ⟨_, ⟨_, rfl, by rw [dec_int]; exact h i j hi hj⟩, .bl _⟩⟩
theorem x_neI {A B : Int → Prop} {C : Bool → Prop} (ha : EvX R ta σ H (Dt K (isI A))) (hb : EvX R tb σ H (Dt K (isI B))) (h : ∀ i j, A i → B j → C (!decide (i = j))) : EvX R (tOp rNe ta tb) σ H (Dt K (isB C)) :=
  x_op ha hb fun H1 x y Q go hx hy q => by
    obtain ⟨i, rfl, hi⟩ := dp_int_of hx
    obtain ⟨j, rfl, hj⟩ := dp_int_of hy
    exact ⟨rfl, q _ _ (Go.refl go.inv) ⟨_, ⟨_, rfl, by rw [dec_int]; exact h i j hi hj⟩, .bl _⟩⟩
theorem x_eqD {A B : PyData → Prop} {C : Bool → Prop} (ha : EvX R ta σ H (Dt K A)) (hb : EvX R tb σ H (Dt K B)) (h : ∀ d e, A d → B e → SeqAt.shaped d = true ∧ SeqAt.shaped e = true ∧ C (PyData.eqv d e)) : EvX R (tOp (rEqD K) ta tb) σ H (Dt K (isB C)) :=
  x_op ha hb fun H1 x y Q go hx hy q => by
    obtain ⟨d, hd, dp⟩ := hx
    obtain ⟨e, he, ep⟩ := hy
    obtain ⟨s1, s2, hc⟩ := h d e hd he
    exact ⟨d, e, dp_up (offS_same _ _) dp, dp_up (offS_same _ _) ep, s1, s2, q _ _ (Go.refl go.inv) ⟨_, ⟨_, rfl, hc⟩, .bl _⟩⟩
theorem x_neD {A B : PyData → Prop} {C : Bool → Prop} (ha : EvX R ta σ H (Dt K A)) (hb : EvX R tb σ H (Dt K B)) (h : ∀ d e, A d → B e → SeqAt.shaped d = true ∧ SeqAt.shaped e = true ∧ C (!PyData.eqv d e)) : EvX R (tOp (rNeD K) ta tb) σ H (Dt K (isB C)) :=
  x_op ha hb fun H1 x y Q go hx hy q => by
    obtain ⟨d, hd, dp⟩ := hx
    obtain ⟨e, he, ep⟩ := hy
    obtain ⟨s1, s2, hc⟩ := h d e hd he
    exact ⟨d, e, dp_up (offS_same _ _) dp, dp_up (offS_same _ _) ep, s1, s2, q _ _ (Go.refl go.inv) ⟨_, ⟨_, rfl, hc⟩, .bl _⟩⟩
theorem dp_non {H : Hp} {v : V} {d : PyData} (h : Dp K H v d) : decide (v = .non) = isNon d := by
  cases h <;> simp [isNon]
theorem x_isN {A : PyData → Prop} {C : Bool → Prop} (ha : EvX R ta σ H (Dt K A)) (h : ∀ d, A d → C (isNon d)) : EvX R (tOp rIsN ta (tC .non)) σ H (Dt K (isB C)) :=
  x_op ha (x_n (K := K)) fun H1 x y Q go hx hy q => by
    obtain ⟨d, hd, dp⟩ := hx
    have := of_dq hy
    cases this
    exact ⟨rfl, q _ _ (Go.refl go.inv) ⟨_, ⟨_, rfl, by rw [dp_non dp]; exact h d hd⟩, .bl _⟩⟩
theorem x_notN {A : PyData → Prop} {C : Bool → Prop} (ha : EvX R ta σ H (Dt K A)) (h : ∀ d, A d → C (!isNon d)) : EvX R (tOp rNotN ta (tC .non)) σ H (Dt K (isB C)) :=
  x_op ha (x_n (K := K)) fun H1 x y Q go hx hy q => by
    obtain ⟨d, hd, dp⟩ := hx
    have := of_dq hy
    cases this
    exact ⟨rfl, q _ _ (Go.refl go.inv) ⟨_, ⟨_, rfl, by rw [dp_non dp]; exact h d hd⟩, .bl _⟩⟩
theorem xt_test {C : Bool → Prop} (h : EvX R te σ H (Dt K (isB C))) : EvXT R (tTest te) σ H C := fun H1 g Q q => h H1 g _ fun v H2 g2 hv => by
  obtain ⟨_, ⟨b, rfl, hb⟩, dp⟩ := hv
  cases dp
  exact ⟨b, rfl, q b H2 g2 hb⟩
theorem xt_B {C : Bool → Prop} (h : EvX R te σ H (Dt K (isB C))) : EvXT R (tB te) σ H C := fun H1 g Q q => h H1 g _ fun v H2 g2 hv => by
  obtain ⟨_, ⟨b, rfl, hb⟩, dp⟩ := hv
  cases dp
  exact ⟨b, rfl, q b H2 g2 hb⟩
theorem xt_and {A B C : Bool → Prop} (h1 : EvXT R t σ H A) (h2 : A true → EvXT R u σ H B) (hf : A false → C false) (ht : ∀ b, A true → B b → C b) : EvXT R (tAnd t u) σ H C := fun H1 g Q q => h1 H1 g _ fun b H2 g2 hb => by
  cases b with
  | true => exact iteT (h2 hb H2 (g.trans g2) Q fun c H3 g3 hc => q c H3 (g2.trans g3) (ht c hb hc))
  | false => exact iteF (q false H2 g2 (hf hb))
theorem xt_or {A B C : Bool → Prop} (h1 : EvXT R t σ H A) (h2 : A false → EvXT R u σ H B) (ht : A true → C true) (hf : ∀ b, A false → B b → C b) : EvXT R (tOr t u) σ H C := fun H1 g Q q => h1 H1 g _ fun b H2 g2 hb => by
  cases b with
  | false => exact iteF (h2 hb H2 (g.trans g2) Q fun c H3 g3 hc => q c H3 (g2.trans g3) (hf c hb hc))
  | true => exact iteT (q true H2 g2 (ht hb))
theorem xt_not {A C : Bool → Prop} (h1 : EvXT R t σ H A) (h : ∀ b, A b → C (!b)) : EvXT R (tNot t) σ H C := fun H1 g Q q => h1 H1 g _ fun b H2 g2 hb => q (!b) H2 g2 (h b hb)
theorem x_if {B : Bool → Prop} (ht : EvXT R t σ H B) (ha : B true → EvX R ta σ H D) (hb : B false → EvX R tb σ H D) : EvX R (tIf t ta tb) σ H D := fun H1 g Q q => ht H1 g _ fun b H2 g2 h => by
  cases b with
  | true => exact iteT (ha h H2 (g.trans g2) Q fun v H3 g3 hv => q v H3 (g2.trans g3) hv)
  | false => exact iteF (hb h H2 (g.trans g2) Q fun v H3 g3 hv => q v H3 (g2.trans g3) hv)
end
/-! ### statements -/
section
variable {K : PySem.W.Frag} {R : Rg} {σ : L2.St} {H H' H1 : Hp} {te : TE} {t : TT} {D : Pd} {E : Ends} {tz tu tw : TS} {i : Nat}
theorem w_asg (h : EvX R te σ H D) (hI : R.I H) (k : ∀ v H1, Go R H H1 → D.p (R.off H1) v → tz E (σ.set i (some v)) H1) : tSeq (tAsg te (gName i)) tz E σ H := h H (Go.refl hI) _ k
theorem w_asg1 (h : EvX R te σ H D) (hI : R.I H) (k : ∀ v H1, Go R H H1 → D.p (R.off H1) v → E.nx (σ.set i (some v)) H1) : tAsg te (gName i) E σ H := h H (Go.refl hI) _ k
theorem w_ret (h : EvX R te σ H D) (hI : R.I H) (k : ∀ v H1, Go R H H1 → D.p (R.off H1) v → E.rt v H1) : tRet te E σ H := h H (Go.refl hI) _ k
theorem w_if1 {B : Bool → Prop} (h : EvXT R t σ H B) (hI : R.I H) (h1 : ∀ H1, Go R H H1 → B true → tu E σ H1) (h2 : ∀ H1, Go R H H1 → B false → tw E σ H1) : tIfS t tu tw E σ H := h H (Go.refl hI) _ fun b H1 g hb => by
  cases b with
  | true => exact iteT (h1 H1 g hb)
  | false => exact iteF (h2 H1 g hb)
theorem w_if {B : Bool → Prop} (h : EvXT R t σ H B) (hI : R.I H) (h1 : ∀ H1, Go R H H1 → B true → tu { E with nx := tz E } σ H1) (h2 : ∀ H1, Go R H H1 → B false → tw { E with nx := tz E } σ H1) : tSeq (tIfS t tu tw) tz E σ H := w_if1 (E := { E with nx := tz E }) h hI h1 h2
theorem w_when {B : Bool → Prop} (h : EvXT R t σ H B) (hI : R.I H) (h1 : ∀ H1, Go R H H1 → B true → tu { E with nx := tz E } σ H1) (h2 : ∀ H1, Go R H H1 → B false → tz E σ H1) : tSeq (tIfS t tu tNext) tz E σ H := w_if1 (E := { E with nx := tz E }) (tw := tNext) h hI h1 h2
theorem w_when1 {B : Bool → Prop} (h : EvXT R t σ H B) (hI : R.I H) (h1 : ∀ H1, Go R H H1 → B true → tu E σ H1) (h2 : ∀ H1, Go R H H1 → B false → E.nx σ H1) : tIfS t tu tNext E σ H := w_if1 (tw := tNext) h hI h1 h2
end
/-! ### a method of one of several classes -/
def tAlt (t u : TE) : TE := fun σ H Q => t σ H Q ∨ u σ H Q
theorem pe_alt {X : Cx} {e : Expr} {t u : TE} (h1 : PE X e t) (h2 : PE X e u) : PE X e (tAlt t u) := ⟨fun pins s σ H Q I h => h.elim (h1.run pins s σ H Q I) (h2.run pins s σ H Q I)⟩
end GK
/-! More operations within regions: signs, texts, small dicts, comprehensions, loops; a new instance within a try. -/
namespace GK
open PySem PySem.Spec PyProof.Rows L2 LamX Evl
/-! ### named readings -/
def rInSg : R2 := fun x y H Q => ∃ (c : Nat) (z : Str), x = .str ⟨#[c]⟩ ∧ y = .str z ∧ Q (.bl (decide (c ∈ z.cps.toList))) H
def rNiSg : R2 := fun x y H Q => ∃ (c : Nat) (z : Str), x = .str ⟨#[c]⟩ ∧ y = .str z ∧ Q (.bl (!decide (c ∈ z.cps.toList))) H
theorem op_inSg {X : Cx} : OpR X (compareOp .In) rInSg := op_in_sign
theorem op_niSg {X : Cx} : OpR X (compareOp .NotIn) rNiSg := op_notIn_sign
def gLenT : List V → Hp → VK → Prop := fun xs H Q => ∃ z : Str, xs = [.str z] ∧ z.length ≤ sizeLine ∧ Q (.int z.length) H
theorem call_lenT {X : Cx} : CallR X (.builtin "len") gLenT := call_len_str
def gStrI : List V → Hp → VK → Prop := fun xs H Q => ∃ i : Int, xs = [.int i] ∧ i.natAbs.log2 < 1920 ∧ Q (.str (toString i)) H
theorem call_strI {X : Cx} : CallR X (.type "str") gStrI := call_str_int
/-- s * 0, s * 1 -/
def rMulT : R2 := fun x y H Q => ∃ (s : Str) (n : Int), x = .str s ∧ y = .int n ∧ (n = 0 ∨ n = 1) ∧ Q (.str (if n = 1 then s else Str.empty)) H
theorem op_mulT {X : Cx} : OpR X (binaryOp .Mult) rMulT := by
  intro pins s σ H x y v u Q I rx ry h
  obtain ⟨z, n, rfl, rfl, hn, q⟩ := h
  obtain ⟨t, rfl⟩ := rx
  obtain ⟨t', rfl⟩ := ry
  rcases hn with rfl | rfl
  · exact PySem.P.mul_str_none (by decide) (by decide) ⟨.str Str.empty, H, I.tok _, ⟨_, rfl⟩, q⟩
  · exact PySem.P.mul_str (by decide) (fun _ h => by simp at h) (fun _ h => by simp at h) ⟨.str z, H, I, ⟨t, rfl⟩, q⟩
/-! ### C(..) within a try -/
section
variable {X : Cx} {CX : CXT} {k : Nat} {f C : Addr} {fd : FuncData} {ps : List Str} {sp : Sp} {dvs : List V} {ds : List Value} {E : L2.St → XK} {x : Str} {p pos : Pos} {e : Expr} {es : List Expr} {t : TA}
def tMakeS (C : Addr) (sp : Sp) (dvs : List V) (E : L2.St → XK) (t : TA) : TE := fun σ H Q => t σ H fun vs H1 => ∀ x dx, H1 x = none → H1 dx = none → dx ≠ x →
  sp (.ref x :: (vs ++ dvs)) (upd (upd H1 dx (.own x)) x (.ins C dx [])) (fun v H2 => v = .non ∧ Q (.ref x) H2) (E σ)
theorem run_makeS {pins : List (Addr × Obj)} {σ : L2.St} {H : Hp} {s : Shared} {Q : VK} {us : List Value} {vs : List V} (M : Mk X.K C f) (F : FnOk X.prog X.w X.K X.mg X.base CX k f fd ps sp) (hr : Room (k + 1) X.A) (hb : Binds X.K fd ps ds) (hd : Vals dvs ds)
    (hx : PassesAt CX X σ (E σ)) (I : Inv X pins σ H s) (r : Vals vs us)
    (h : ∀ x dx, H x = none → H dx = none → dx ≠ x → sp (.ref x :: (vs ++ dvs)) (upd (upd H dx (.own x)) x (.ins C dx [])) (fun v H2 => v = .non ∧ Q (.ref x) H2) (E σ)) :
    wpAny (model X.prog X.w) X.A (call (.ref C) us) (EP X pins σ Q) X.xe s := by
  have hq := h (s.heap.objs.size + 1) s.heap.objs.size (I.hok.fresh (Nat.le_succ _)) (I.hok.fresh (Nat.le_refl _)) (Nat.ne_of_lt (Nat.lt_succ_self _))
  have I2 := Inv.made (C := C) I
  have r2 : Vals (V.ref (s.heap.objs.size + 1) :: (vs ++ dvs)) (Value.ref (s.heap.objs.size + 1) :: (us ++ ds)) := .cons rfl (r.append hd)
  have hl : (Value.ref (s.heap.objs.size + 1) :: us ++ ds).length = ps.length := by
    have e := r2.length
    rw [F.len _ _ _ _ hq] at e
    exact e.symm
  refine wpAny_call (make_map (f := f) I.kIn M.makes M.init (beq_iff_eq.mp M.fn) (codeAny_mono (F.run _ X.stack _ _ ⟨Value.ref (s.heap.objs.size + 1) :: us, []⟩ (Value.ref (s.heap.objs.size + 1) :: (us ++ ds)) _ _ (E σ) (hr.make C us [])
    (I2.env0.make C us []) (hb _ (Value.ref (s.heap.objs.size + 1) :: us) I2.kIn hl) r2 hq) fun r s' hq' => ?_))
  cases r with
  | error e => exact hx pins _ _ e s' I2 hq'
  | ok fl =>
    cases fl with
    | ret u =>
      obtain ⟨v, H', I3, rv, ev, q3⟩ := I2.after hq'
      subst ev
      exact ⟨rv, ⟨V.ref (s.heap.objs.size + 1), H', I3, rfl, q3⟩⟩
    | next => exact False.elim hq'
    | brk => exact False.elim hq'
    | cont => exact False.elim hq'
theorem pe_makeS (M : Mk X.K C f) (F : FnOk X.prog X.w X.K X.mg X.base CX k f fd ps sp) (hr : Room (k + 1) X.A) (hg : Gl X x) (hm : X.mg x = some (.ref C)) (hb : Binds X.K fd ps ds) (hd : Vals dvs ds) (hx : ∀ σ, PassesAt CX X σ (E σ))
    (ha : PA X (e :: es) t) (hdb : (x == ("__debug__" : Str)) = false := by decide) (he : starEach (e :: es) X.env = (false, eval e X.env) :: starEach es X.env := by rfl) (hpl : (backTo pos (starEach es X.env)).any (·.1) = false := by rfl) :
    PE X (.Call (.Name x p) (e :: es) [] pos) (tMakeS C sp dvs E t) := by
  refine ⟨fun pins s σ H Q I h => ?_⟩
  refine wpAny_Call_Name_kw (ld_glob I hg hm ?_ hdb)
  refine PySem.W.callWith_K (h₀ := X.base) I.ok.mod.kin M.kp (thn (ha.run pos pins s σ H _ I h) fun us s1 ⟨vs, H1, I1, r, q⟩ => ⟨I1.kIn, ?_⟩) he hpl
  exact run_makeS M F hr hb hd (hx σ) I1 r q
end
/-! ### within regions -/
section
variable {K : PySem.W.Frag} {R : Rg} {σ : L2.St} {H H' H1 : Hp} {ta tb tc te tl : TE} {t u : TT} {v x y : V} {D : Pd} {P : PyData → Prop}
theorem x_mulT {A : Str → Prop} {B : Int → Prop} (ha : EvX R ta σ H (Dt K (isS A))) (hb : EvX R tb σ H (Dt K (isI B))) (h : ∀ s n, A s → B n → (n = 0 ∨ n = 1) ∧ P (.str (if n = 1 then s else Str.empty))) : EvX R (tOp rMulT ta tb) σ H (Dt K P) :=
  x_op ha hb fun H1 x y Q go hx hy q => by
    obtain ⟨s, rfl, hs⟩ := dp_str_of hx
    obtain ⟨n, rfl, hn⟩ := dp_int_of hy
    exact ⟨s, n, rfl, rfl, (h s n hs hn).1, q _ _ (Go.refl go.inv) ⟨_, (h s n hs hn).2, .str _⟩⟩
theorem x_strI {A : Int → Prop} (ha : EvX R ta σ H (Dt K (isI A))) (h : ∀ i, A i → i.natAbs.log2 < 1920 ∧ P (.str (toString i))) : EvX R (tCB gStrI (tCons ta tNil)) σ H (Dt K P) :=
  x_cb (ds_cons ha ds_nil) fun H1 vs ds Q go al hd q => by
    cases al with
    | cons h1 t =>
      cases t
      obtain ⟨b, rfl, hb⟩ := h1
      cases hd with
      | cons d1 t =>
        cases t
        cases d1
        exact ⟨b, rfl, (h b hb).1, q _ _ (Go.refl go.inv) ⟨_, (h b hb).2, .str _⟩⟩
/-! x in a list or a tuple of flat data -/
def flatD : PyData → Bool
  | .none => true
  | .bool _ => true
  | .int _ => true
  | .str _ => true
  | _ => false
def eqF : PyData → PyData → Bool
  | .none, .none => true
  | .bool a, .bool b => a == b
  | .bool a, .int b => (if a then 1 else 0) == b
  | .int a, .bool b => a == (if b then 1 else 0)
  | .int a, .int b => a == b
  | .str a, .str b => a == b
  | _, _ => false
theorem dp_flat {H : Hp} {v : V} {d : PyData} (h : Dp K H v d) (f : flatD d = true) : flatV v = true := by
  cases h <;> first | rfl | cases f
theorem dp_eqF {H : Hp} {v w : V} {d e : PyData} (h : Dp K H v d) (k : Dp K H w e) : eqV v w = eqF d e := by
  cases h <;> cases k <;> rfl
theorem dpAll_flat {H : Hp} : ∀ {vs : List V} {ds : List PyData}, DpAll K H vs ds → ds.all flatD = true → vs.all flatV = true
  | _, _, .nil, _ => rfl
  | _, _, .cons h t, f => by
    rw [List.all_cons, Bool.and_eq_true] at f
    rw [List.all_cons, dp_flat h f.1, dpAll_flat t f.2]
    rfl
theorem dpAll_in {H : Hp} {x : V} {d : PyData} (hx : Dp K H x d) : ∀ {vs : List V} {ds : List PyData}, DpAll K H vs ds → inV x vs = ds.any (fun e => eqF e d)
  | _, _, .nil => rfl
  | _, _, .cons h t => by
    show (eqV _ x || inV x _) = _
    rw [List.any_cons, dp_eqF h hx, dpAll_in hx t]
theorem x_in {neg : Bool} {A B : PyData → Prop} {C : Bool → Prop} (ha : EvX R ta σ H (Dt K A)) (hb : EvX R tb σ H (Dt K B)) (h : ∀ d e, A d → B e → ∃ es, (e = .list es ∨ e = .tuple es) ∧ flatD d = true ∧ es.all flatD = true ∧ C (if neg then !es.any (fun e => eqF e d) else es.any (fun e => eqF e d))) : EvX R (tOp (rIn K neg) ta tb) σ H (Dt K (isB C)) :=
  x_op ha hb fun H1 x y Q go hx hy q => by
    obtain ⟨d, hd, dp⟩ := hx
    obtain ⟨e, he, ep⟩ := hy
    obtain ⟨es, hh, f1, f2, hc⟩ := h d e hd he
    rcases hh with rfl | rfl
    · obtain ⟨a, vs, rfl, hs, hds⟩ := dp_lst ep
      exact ⟨a, vs, rfl, .inl (sq_mono (offS_same _ _) hs), dp_flat dp f1, dpAll_flat hds f2, q _ _ (Go.refl go.inv) ⟨_, ⟨_, rfl, by rw [dpAll_in dp hds]; exact hc⟩, .bl _⟩⟩
    · obtain ⟨a, vs, rfl, hs, hds⟩ := dp_tup ep
      exact ⟨a, vs, rfl, .inr (st_mono (offS_same _ _) hs), dp_flat dp f1, dpAll_flat hds f2, q _ _ (Go.refl go.inv) ⟨_, ⟨_, rfl, by rw [dpAll_in dp hds]; exact hc⟩, .bl _⟩⟩
theorem any_str {s : Str} : ∀ {ss : List Str}, (ss.map PyData.str).any (fun e => eqF e (.str s)) = decide (s ∈ ss)
  | [] => rfl
  | t :: ss => by
    rw [List.map_cons, List.any_cons, any_str]
    show (t == s || _) = _
    by_cases h : t = s
    · subst h; simp
    · have h2 : ¬ s = t := fun z => h z.symm
      have e1 : (t == s) = false := by simpa using h
      rw [e1, Bool.false_or]
      by_cases h3 : s ∈ ss <;> simp [h2, h3]
theorem flat_strs : ∀ {ss : List Str}, (ss.map PyData.str).all flatD = true
  | [] => rfl
  | _ :: ss => by rw [List.map_cons, List.all_cons, flat_strs]; rfl
/-- x in a list of data of any depth -/
theorem x_inD {A B : PyData → Prop} {C : Bool → Prop} (ha : EvX R ta σ H (Dt K A)) (hb : EvX R tb σ H (Dt K B)) (h : ∀ d e, A d → B e → ∃ es, e = .list es ∧ SeqAt.shaped d = true ∧ SeqAt.shaped (.list es) = true ∧ C (es.any fun z => PyData.eqv z d)) : EvX R (tOp (rInD K) ta tb) σ H (Dt K (isB C)) :=
  x_op ha hb fun H1 x y Q go hx hy q => by
    obtain ⟨d, hd, dp⟩ := hx
    obtain ⟨e, he, ep⟩ := hy
    obtain ⟨es, rfl, s1, s2, hc⟩ := h d e hd he
    exact ⟨d, es, dp_up (offS_same _ _) dp, dp_up (offS_same _ _) ep, s1, s2, q _ _ (Go.refl go.inv) ⟨_, ⟨_, rfl, hc⟩, .bl _⟩⟩
/-! xs[lo:hi] * n -/
theorem x_repSl {A : PyData → Prop} {tlo thi : TO} {L U : Option Int → Prop} {n : Int} (ha : EvX R ta σ H (Dt K A)) (h1 : EvXO R tlo σ H L) (h2 : EvXO R thi σ H U) (hn : 0 ≤ n ∧ n ≤ 1000) (h : ∀ d lo hi, A d → L lo → U hi → ∃ ds, d = .list ds ∧ ds.length ≤ 1000 ∧ P (.list (List.replicate n.toNat (cutG ds lo hi)).flatten)) : EvX R (tOp rRep (tSl (rSlL K) ta tlo thi) (tC (.int n))) σ H (Dt K P) := fun H1 g Q q =>
  ha H1 g _ fun x H2 g2 hx => h1 H2 (g.trans g2) _ fun lo H3 g3 hlo => h2 H3 ((g.trans g2).trans g3) _ fun hi H4 g4 hhi => by
    obtain ⟨d, hd, dp⟩ := hx
    obtain ⟨ds, rfl, hz, hp⟩ := h d lo hi hd hlo hhi
    obtain ⟨a, vs, rfl, hs, hds⟩ := dp_lst (dp_up (g3.trans g4).same dp)
    refine ⟨a, vs, rfl, sq_mono (offS_same _ _) hs, fun p np => ⟨p, n, _, rfl, rfl, upd_same, by omega, by omega, ?_, fun p2 np2 => ?_⟩⟩
    · have hl : (cutV vs lo hi).length ≤ vs.length := by
        unfold cutV
        rw [List.length_take, List.length_drop]
        omega
      have e := dpAll_len hds
      have h3 : (cutV vs lo hi).length * n.toNat ≤ 1000 * 1000 := Nat.mul_le_mul (by omega) (by omega)
      exact Nat.le_trans h3 (by decide)
    · have g5 : Go R H4 (upd H4 p (.lst (cutV vs lo hi))) := Go.new g4.inv np
      have g6 := Go.new (o := .lst (List.replicate n.toNat (cutV vs lo hi)).flatten) g5.inv np2
      refine q _ _ ((((g2.trans g3).trans g4).trans g5).trans g6) ⟨_, hp, .lst (SqL.of (off_new g5.inv np2)) ?_⟩
      have h0 := dpAll_up (g5.trans g6).same (dpAll_cut (lo := lo) (hi := hi) hds)
      have rep : ∀ m : Nat, DpAll K _ (List.replicate m (cutV vs lo hi)).flatten (List.replicate m (cutG ds lo hi)).flatten := fun m => by
        induction m with
        | zero => exact .nil
        | succ m ih => rw [List.replicate_succ, List.replicate_succ, List.flatten_cons, List.flatten_cons]; exact dpAll_append h0 ih
      exact rep n.toNat
/-! {k1: v1, k2: v2}[k], .get(k, v) -/
theorem disp2 {k1 k2 : Str} {v1 v2 : V} {Q : VK} (h : ∀ p, H p = none → Q (.ref p) (upd (upd H p (.dK [])) p (.dK (mergeK [] [(Sum.inr k1, v1), (Sum.inr k2, v2)])))) : tDisp [(tC (.str k1), tC v1), (tC (.str k2), tC v2)] σ H Q := fun p np =>
  ⟨upd_same, [(Sum.inr k1, v1), (Sum.inr k2, v2)], rfl, by simp, h p np⟩
theorem x_pick2 {k1 k2 : Str} {d1 d2 : PyData} {v1 v2 : V} {A : Str → Prop} (ne : k1 ≠ k2) (hv1 : ∀ H, Dp K H v1 d1) (hv2 : ∀ H, Dp K H v2 d2) (hk : EvX R tb σ H (Dt K (isS A))) (h : ∀ k, A k → (k = k1 ∧ P d1) ∨ (k = k2 ∧ P d2)) : EvX R (tDGet (tDisp [(tC (.str k1), tC v1), (tC (.str k2), tC v2)]) tb) σ H (Dt K P) := fun H1 g Q q => disp2 fun p np => by
  generalize hH2 : upd (upd H1 p (.dK [])) p (.dK (mergeK [] [(Sum.inr k1, v1), (Sum.inr k2, v2)])) = H2
  have s2 : Same H1 H2 := by rw [← hH2]; exact same_mut (same_new np) np
  have at2 : H2 p = some (.dK (mergeK [] [(Sum.inr k1, v1), (Sum.inr k2, v2)])) := by rw [← hH2]; exact upd_same
  have mk : mergeK [] [((Sum.inr k1 : Key), v1), (Sum.inr k2, v2)] = [(Sum.inr k1, v1), (Sum.inr k2, v2)] := by
    have n1 : ¬ (Sum.inr k1 : Key) = Sum.inr k2 := fun z => ne (Sum.inr.inj z)
    simp [mergeK, putK, n1]
  rw [mk] at at2
  have g2 : Go R H1 H2 := Go.of g.inv s2
  refine hk H2 (g.trans g2) _ fun k H3 g3 hk' => ?_
  obtain ⟨s, rfl, hs⟩ := dp_str_of hk'
  have at3 : H3 p = some (.dK [(Sum.inr k1, v1), (Sum.inr k2, v2)]) := (offS_some.mp (g3.same p _ (offS_some.mpr ⟨R.fresh g.inv np, at2⟩))).2
  rcases h s hs with ⟨rfl, hP⟩ | ⟨rfl, hP⟩
  · refine ⟨p, v1, rfl, ?_, q _ _ (g2.trans g3) ⟨d1, hP, hv1 _⟩⟩
    have z := DGet.k (k := (Sum.inr s : Key)) at3
    rw [valV_pos rfl] at z
    exact z
  · refine ⟨p, v2, rfl, ?_, q _ _ (g2.trans g3) ⟨d2, hP, hv2 _⟩⟩
    have z := DGet.k (k := (Sum.inr s : Key)) at3
    rw [valV_neg (fun z => ne (Sum.inr.inj z)), valV_pos rfl] at z
    exact z
theorem x_get2 {k1 k2 : Str} {d1 d2 d3 : PyData} {v1 v2 v3 : V} {A : Str → Prop} (ne : k1 ≠ k2) (hv1 : ∀ H, Dp K H v1 d1) (hv2 : ∀ H, Dp K H v2 d2) (hv3 : ∀ H, Dp K H v3 d3) (hk : EvX R tb σ H (Dt K (isS A))) (h : ∀ k, A k → P (if k = k1 then d1 else if k = k2 then d2 else d3)) : EvX R (tDGet2 (tDisp [(tC (.str k1), tC v1), (tC (.str k2), tC v2)]) tb (tC v3)) σ H (Dt K P) := fun H1 g Q q => disp2 fun p np => by
  generalize hH2 : upd (upd H1 p (.dK [])) p (.dK (mergeK [] [(Sum.inr k1, v1), (Sum.inr k2, v2)])) = H2
  have s2 : Same H1 H2 := by rw [← hH2]; exact same_mut (same_new np) np
  have at2 : H2 p = some (.dK (mergeK [] [(Sum.inr k1, v1), (Sum.inr k2, v2)])) := by rw [← hH2]; exact upd_same
  have mk : mergeK [] [((Sum.inr k1 : Key), v1), (Sum.inr k2, v2)] = [(Sum.inr k1, v1), (Sum.inr k2, v2)] := by
    have n1 : ¬ (Sum.inr k1 : Key) = Sum.inr k2 := fun z => ne (Sum.inr.inj z)
    simp [mergeK, putK, n1]
  rw [mk] at at2
  have g2 : Go R H1 H2 := Go.of g.inv s2
  refine ⟨p, rfl, .inl ⟨_, .inl at2⟩, hk H2 (g.trans g2) _ fun k H3 g3 hk' => ?_⟩
  obtain ⟨s, rfl, hs⟩ := dp_str_of hk'
  have at3 : H3 p = some (.dK [(Sum.inr k1, v1), (Sum.inr k2, v2)]) := (offS_some.mp (g3.same p _ (offS_some.mpr ⟨R.fresh g.inv np, at2⟩))).2
  have z := DGet.k (k := (Sum.inr s : Key)) at3
  have hP := h s hs
  by_cases e1 : s = k1
  · subst e1
    rw [valV_pos rfl] at z
    rw [if_pos rfl] at hP
    exact ⟨_, z, q _ _ (g2.trans g3) ⟨d1, hP, hv1 _⟩⟩
  · rw [if_neg e1] at hP
    by_cases e2 : s = k2
    · subst e2
      rw [valV_neg (fun z => ne (Sum.inr.inj z)), valV_pos rfl] at z
      rw [if_pos rfl] at hP
      exact ⟨_, z, q _ _ (g2.trans g3) ⟨d2, hP, hv2 _⟩⟩
    · rw [if_neg e2] at hP
      rw [valV_neg (fun z => e1 (Sum.inr.inj z).symm), valV_neg (fun z => e2 (Sum.inr.inj z).symm), valV_nil] at z
      exact ⟨_, z, q _ _ (g2.trans g3) ⟨d3, hP, hv3 _⟩⟩
end
/-! ### a region and one more object -/
def Rg.plus (R : Rg) (p : Addr) (o : HO) : Rg where
  S := p :: R.S
  I := fun H => R.I H ∧ H p = some o
  loc := fun e h => ⟨R.loc (fun a ha => e a (List.mem_cons_of_mem _ ha)) h.1, (e p List.mem_cons_self).trans h.2⟩
  dom := fun h a ha => by
    rcases List.mem_cons.mp ha with z | z
    · exact ⟨o, by rw [z]; exact h.2⟩
    · exact R.dom h.1 a z
section
variable {R : Rg} {H H' H1 : Hp} {p r : Addr} {o o' : HO}
theorem plus_drw (d : Drw R r) (n : p ≠ r) : Drw (R.plus p o) r := ⟨List.mem_cons_of_mem _ d.mem, fun h => d.rng h.1, fun {H H'} h f => ⟨d.fr h.1 f, (off_some.mp (f.same p o (off_some.mpr ⟨n, h.2⟩))).2⟩⟩
/-- the object is written to -/
theorem plus_set (n : p ∉ R.S) (h : (R.plus p o).I H) : (R.plus p o').I (upd H p o') := ⟨R.loc (fun a ha => upd_ne fun z => n (z ▸ ha)) h.1, upd_same⟩
theorem plus_new (n : H p = none) (h : R.I H) : (R.plus p o).I (upd H p o) := ⟨R.up h (same_new n), upd_same⟩
theorem plus_sub : Same ((R.plus p o).off H) (R.off H) := offS_sub fun a h => List.mem_cons_of_mem _ h
theorem plus_same (n : H p = none) (e : Same H H') : Same (R.off H) ((R.plus p o).off H') := offS_cons n e
end
/-! ### comprehensions, loops -/
section
variable {K : PySem.W.Frag} {R : Rg} {σ : L2.St} {H H' H1 : Hp} {ta tb tc te tl : TE} {tt : TT} {v x y : V} {D : Pd} {P : PyData → Prop} {E0' : Ends} {tz tu : TS}
theorem x_lc {A : PyData → Prop} {L : List PyData → Prop} {f : PyData → Bool} {E : PyData → PyData → Prop} {vs : List Nat} {j : Nat} (src : EvX R tl σ H (Dt K A)) (hA : ∀ d, A d → ∃ ds, d = .list ds ∧ ds.length ≤ 90000 ∧ L ds)
    (hw : ∀ x, wipe ((wipe σ vs).set j (some x)) vs = wipe σ vs)
    (ht : ∀ (p : Addr) (acc : List V) (H1 : Hp), p ∉ R.S → (R.plus p (.lst acc)).I H1 → Same (R.off H) ((R.plus p (.lst acc)).off H1) → ∀ ds (i : Nat) d x, L ds → ds[i]? = some d → Dp K ((R.plus p (.lst acc)).off H1) x d → EvXT (R.plus p (.lst acc)) tt ((wipe σ vs).set j (some x)) H1 (fun b => b = f d))
    (he : ∀ (p : Addr) (acc : List V) (H1 : Hp), p ∉ R.S → (R.plus p (.lst acc)).I H1 → Same (R.off H) ((R.plus p (.lst acc)).off H1) → ∀ ds (i : Nat) d x, L ds → ds[i]? = some d → f d = true → Dp K ((R.plus p (.lst acc)).off H1) x d → EvX (R.plus p (.lst acc)) te ((wipe σ vs).set j (some x)) H1 (Dt K (E d)))
    (done : ∀ ds es, L ds → Paired (fun e d => E d e) es (ds.filter f) → P (.list es)) : EvX R (tLc (iList K tl) (gName j) tt te vs) σ H (Dt K P) := fun H1 g Q q =>
  src H1 g _ fun v H2 g2 ⟨d, hd, dp⟩ => by
    obtain ⟨ds, rfl, hz, hL⟩ := hA d hd
    obtain ⟨a, xs, rfl, hs, hds⟩ := dp_lst dp
    refine ⟨a, rfl, ⟨xs, sq_mono (offS_same _ _) hs⟩, fun Dl hD => ?_⟩
    have nS : Dl ∉ R.S := R.fresh g2.inv hD
    let Pv : Nat → Hp → Prop := fun i H' => ∃ ys es, (R.plus Dl (.lst ys)).I H' ∧ Same (R.off H2) ((R.plus Dl (.lst ys)).off H') ∧ DpAll K ((R.plus Dl (.lst ys)).off H') ys es ∧ Paired (fun e d => E d e) es ((ds.take i).filter f)
    refine lc_it (walk_list (K := K) (a := a) (xs := xs)) Pv ⟨[], [], plus_new hD g2.inv, plus_same hD (same_new hD), .nil, .nil⟩ (fun i H' _ ⟨ys, es, h1, h2, h3, h4⟩ => sq_mono (h2.trans (offS_same _ _)) hs) (fun i x H' H'' hi p y => ?_) (fun H' p => ?_)
    · obtain ⟨rfl, hx⟩ := y
      obtain ⟨ys, es, h1, h2, h3, h4⟩ := p
      obtain ⟨d, hdi, hdx⟩ := dpAll_getV (dpAll_up h2 hds) hx
      have tk : ds.take (i + 1) = ds.take i ++ [d] := by rw [List.take_succ, hdi]; rfl
      have s0 : Same (R.off H) ((R.plus Dl (.lst ys)).off H'') := ((g.trans g2).same).trans h2
      refine ⟨hw x, ht Dl ys H'' nS h1 s0 ds i d x hL hdi hdx H'' (Go.refl h1) _ fun b H3 g3 hb => ?_⟩
      subst hb
      cases hf : f d with
      | false =>
        rw [if_neg (by decide)]
        refine ⟨ys, es, g3.inv, h2.trans g3.same, dpAll_up g3.same h3, ?_⟩
        rw [tk, List.filter_append]
        have z : [d].filter f = [] := by rw [List.filter_cons, if_neg (by rw [hf]; decide)]; rfl
        rw [z, List.append_nil]
        exact h4
      | true =>
        rw [if_pos rfl]
        refine he Dl ys H'' nS h1 s0 ds i d x hL hdi hf hdx H3 g3 _ fun y H4 g4 ⟨e, hE, hey⟩ => ⟨ys, g4.inv.2, ?_, ys ++ [y], es ++ [e], plus_set nS g4.inv, ?_, ?_, ?_⟩
        · have e1 := dpAll_len h3
          have e2 := pd_len h4
          have e3 : ((ds.take i).filter f).length ≤ i := Nat.le_trans (List.length_filter_le _ _) (by rw [List.length_take]; exact Nat.min_le_left _ _)
          have e4 := (List.getElem?_eq_some_iff.mp hdi).1
          exact Nat.lt_of_le_of_lt (by omega : ys.length ≤ 90000) (by decide)
        · show Same _ (offS (Dl :: R.S) (upd H4 Dl _))
          rw [offS_upd List.mem_cons_self]
          exact h2.trans (g3.same.trans g4.same)
        · show DpAll K (offS (Dl :: R.S) (upd H4 Dl _)) _ _
          rw [offS_upd List.mem_cons_self]
          exact dpAll_append (dpAll_up (g3.same.trans g4.same) h3) (.cons hey .nil)
        · rw [tk, List.filter_append]
          have z : [d].filter f = [d] := by rw [List.filter_cons, if_pos hf]; rfl
          rw [z]
          exact pd_snoc h4 hE
    · obtain ⟨ys, es, h1, h2, h3, h4⟩ := p
      have hl : xs.length = ds.length := dpAll_len hds
      rw [hl, List.take_length] at h4
      exact q _ H' ⟨(g2.same.trans h2).trans plus_sub, h1.1⟩ ⟨_, done ds es hL h4, .lst (SqL.of (offS_some.mpr ⟨nS, h1.2⟩)) (dpAll_up plus_sub h3)⟩
/-- over a range -/
theorem x_lcR {A : Int → Prop} {E : Nat → PyData → Prop} {vs : List Nat} {j : Nat} (src : EvX R tl σ H (Dt K (isI A))) (hA : ∀ n, A n → 0 ≤ n ∧ n ≤ 90000)
    (hw : ∀ x, wipe ((wipe σ vs).set j (some x)) vs = wipe σ vs)
    (he : ∀ (p : Addr) (acc : List V) (H1 : Hp), p ∉ R.S → (R.plus p (.lst acc)).I H1 → Same (R.off H) ((R.plus p (.lst acc)).off H1) → ∀ (n : Int) (i : Nat), A n → (i : Int) < n → EvX (R.plus p (.lst acc)) te ((wipe σ vs).set j (some (.int (i : Int)))) H1 (Dt K (E i)))
    (done : ∀ n es, A n → Paired (fun e i => E i e) es (List.range n.toNat) → P (.list es)) : EvX R (tLc (iRng1 (tCons tl tNil)) (gName j) tYes te vs) σ H (Dt K P) := fun H1 g Q q =>
  src H1 g _ fun v H2 g2 hv => by
    obtain ⟨n, rfl, hn⟩ := dp_int_of hv
    have hz := hA n hn
    refine ⟨n, rfl, by omega, by omega, fun Dl hD => ?_⟩
    have nS : Dl ∉ R.S := R.fresh g2.inv hD
    let Pv : Nat → Hp → Prop := fun i H' => ∃ ys es, (R.plus Dl (.lst ys)).I H' ∧ Same (R.off H2) ((R.plus Dl (.lst ys)).off H') ∧ DpAll K ((R.plus Dl (.lst ys)).off H') ys es ∧ Paired (fun e i => E i e) es (List.range i)
    refine lc_it (walk_range (lo := 0) (n := n.toNat)) Pv ⟨[], [], plus_new hD g2.inv, plus_same hD (same_new hD), .nil, .nil⟩ (fun i H' _ _ => trivial) (fun i x H' H'' hi p y => ?_) (fun H' p => ?_)
    · obtain ⟨rfl, rfl⟩ := y
      obtain ⟨ys, es, h1, h2, h3, h4⟩ := p
      have s0 : Same (R.off H) ((R.plus Dl (.lst ys)).off H'') := ((g.trans g2).same).trans h2
      dsimp only
      rw [Int.zero_add]
      refine ⟨hw _, yes_of ?_⟩
      refine he Dl ys H'' nS h1 s0 n i hn (by omega) H'' (Go.refl h1) _ fun y H4 g4 ⟨e, hE, hey⟩ => ⟨ys, g4.inv.2, ?_, ys ++ [y], es ++ [e], plus_set nS g4.inv, ?_, ?_, ?_⟩
      · have e1 := dpAll_len h3
        have e2 := pd_len h4
        rw [List.length_range] at e2
        exact Nat.lt_of_le_of_lt (by omega : ys.length ≤ 90000) (by decide)
      · show Same _ (offS (Dl :: R.S) (upd H4 Dl _))
        rw [offS_upd List.mem_cons_self]
        exact h2.trans g4.same
      · show DpAll K (offS (Dl :: R.S) (upd H4 Dl _)) _ _
        rw [offS_upd List.mem_cons_self]
        exact dpAll_append (dpAll_up g4.same h3) (.cons hey .nil)
      · rw [List.range_succ]
        exact pd_snoc h4 hE
    · obtain ⟨ys, es, h1, h2, h3, h4⟩ := p
      exact q _ H' ⟨(g2.same.trans h2).trans plus_sub, h1.1⟩ ⟨_, done n es hn h4, .lst (SqL.of (offS_some.mpr ⟨nS, h1.2⟩)) (dpAll_up plus_sub h3)⟩
/-- for x in xs; Pv: what holds ahead of the i-th turn (H1: the heap behind the making of xs) -/
theorem w_forL1 {A : PyData → Prop} {L : List PyData → Prop} {g : TG} (src : EvX R tl σ H (Dt K A)) (hI : R.I H) (hA : ∀ d, A d → ∃ ds, d = .list ds ∧ L ds) (Pv : Hp → List PyData → Nat → L2.St → Hp → Prop)
    (h0 : ∀ H1 ds, L ds → Go R H H1 → Pv H1 ds 0 σ H1) (hP : ∀ H1 ds i σ' H', Pv H1 ds i σ' H' → Same (R.off H1) (R.off H'))
    (hs : ∀ H1 ds, L ds → Go R H H1 → ∀ (i : Nat) d x σ' H', ds[i]? = some d → Dp K (R.off H') x d → Pv H1 ds i σ' H' → g x σ' H' fun σ2 H2 => tu { E0' with nx := Pv H1 ds (i + 1), ct := Pv H1 ds (i + 1), bk := E0'.nx } σ2 H2)
    (hd : ∀ H1 ds, L ds → Go R H H1 → ∀ σ' H', Pv H1 ds ds.length σ' H' → E0'.nx σ' H') : tFor (iList K tl) g tu E0' σ H :=
  src H (Go.refl hI) _ fun v H1 g1 ⟨d, hd0, dp⟩ => by
    obtain ⟨ds, rfl, hL⟩ := hA d hd0
    obtain ⟨a, xs, rfl, hq, hds⟩ := dp_lst dp
    refine ⟨a, rfl, ⟨xs, sq_mono (offS_same _ _) hq⟩, for_list (xs := xs) (Pv H1 ds) (h0 H1 ds hL g1) (fun i σ' H' _ p => sq_mono ((hP H1 ds i σ' H' p).trans (offS_same _ _)) hq) (fun i x σ' H' hx p => ?_) (fun σ' H' p => hd H1 ds hL g1 σ' H' (by rw [← dpAll_len hds]; exact p))⟩
    obtain ⟨d, h1, h2⟩ := dpAll_getV (dpAll_up (hP H1 ds i σ' H' p) hds) hx
    exact hs H1 ds hL g1 i d x σ' H' h1 h2 p
theorem w_forL {A : PyData → Prop} {L : List PyData → Prop} {g : TG} (src : EvX R tl σ H (Dt K A)) (hI : R.I H) (hA : ∀ d, A d → ∃ ds, d = .list ds ∧ L ds) (Pv : Hp → List PyData → Nat → L2.St → Hp → Prop)
    (h0 : ∀ H1 ds, L ds → Go R H H1 → Pv H1 ds 0 σ H1) (hP : ∀ H1 ds i σ' H', Pv H1 ds i σ' H' → Same (R.off H1) (R.off H'))
    (hs : ∀ H1 ds, L ds → Go R H H1 → ∀ (i : Nat) d x σ' H', ds[i]? = some d → Dp K (R.off H') x d → Pv H1 ds i σ' H' → g x σ' H' fun σ2 H2 => tu { E0' with nx := Pv H1 ds (i + 1), ct := Pv H1 ds (i + 1), bk := tz E0' } σ2 H2)
    (hd : ∀ H1 ds, L ds → Go R H H1 → ∀ σ' H', Pv H1 ds ds.length σ' H' → tz E0' σ' H') : tSeq (tFor (iList K tl) g tu) tz E0' σ H := w_forL1 (E0' := { E0' with nx := tz E0' }) src hI hA Pv h0 hP hs hd
theorem w_forR {A : Int → Prop} {j : Nat} (h : EvX R tl σ H (Dt K (isI A))) (hI : R.I H) (hA : ∀ n, A n → 0 ≤ n ∧ n ≤ 90000) (Pv : Hp → Int → Nat → L2.St → Hp → Prop) (h0 : ∀ H1 n, A n → Go R H H1 → Pv H1 n 0 σ H1)
    (hs : ∀ H1 n, A n → Go R H H1 → ∀ (i : Nat) σ' H', (i : Int) < n → Pv H1 n i σ' H' → tu { E0' with nx := Pv H1 n (i + 1), ct := Pv H1 n (i + 1), bk := tz E0' } (σ'.set j (some (.int (i : Int)))) H')
    (hd : ∀ H1 n, A n → Go R H H1 → ∀ σ' H', Pv H1 n n.toNat σ' H' → tz E0' σ' H') : tSeq (tFor (iRng1 (tCons tl tNil)) (gName j) tu) tz E0' σ H :=
  h H (Go.refl hI) _ fun v H1 g1 hv => by
    obtain ⟨n, rfl, hn⟩ := dp_int_of hv
    have hz := hA n hn
    refine ⟨n, rfl, by omega, by omega, for_range (lo := 0) (n := n.toNat) (Pv H1 n) (h0 H1 n hn g1) (fun i σ' H' hi p => ?_) (fun σ' H' p => hd H1 n hn g1 σ' H' p)⟩
    rw [Int.zero_add]
    exact hs H1 n hn g1 i σ' H' (by omega) p
end
end GK
/-! What the top has written, in bundles: a def, a class, an error. -/
namespace GK
open PySem PySem.Spec PyProof.Rows L2 LamX
/-- a def of a class -/
structure DefT (K : PySem.W.Frag) (x qual : Str) (st : Stmt) (ps : List Str) where
  a : Addr
  d : FuncData
  F : Fun K x qual st a d
  b : Binds K d ps []
/-- a def of the module -/
structure GDefT (K : PySem.W.Frag) (mg : Str → Option Value) (x : Str) (st : Stmt) (ps : List Str) where
  a : Addr
  d : FuncData
  F : Fun K x x st a d
  b : Binds K d ps []
  g : mg x = some (.ref a)
/-- a def of a class with keyword-only parameters: n by place, m by keyword -/
structure KDefT (K : PySem.W.Frag) (x qual : Str) (st : Stmt) (ps ks : List Str) (n m : Nat) where
  a : Addr
  d : FuncData
  F : Fun K x qual st a d
  kn : KBn K d ps n ks (kwBy n m) (kwBy n m)
structure ClsT (K : PySem.W.Frag) (mg : Str → Option Value) (c : Str) (init : Addr) (fs : List Str) where
  C : Addr
  cl : Cls K C
  g : mg c = some (.ref C)
  M : Mk K C init
  na : ∀ f ∈ fs, NoAttr K C f
/-- an error of one's own; h: the class above it that is caught -/
structure ExcT (K : PySem.W.Frag) (mg : Str → Option Value) (c : Str) (init : Addr) (fs : List Str) (h : Addr) where
  C : Addr
  g : mg c = some (.ref C)
  x : OexC K C
  i : PySem.W.findIn K (.ref C) "__init__" = some (some (.ref init))
  ti : PySem.W.typeIn K (.ref init) = some (.type "function")
  em : PySem.W.exmOne K (.ref C) (.ref C) = some true
  xf : XfC K C
  nx : ∀ f ∈ fs, PySem.W.findIn K (.ref C) f = some none
  eh : PySem.W.exmOne K (.ref C) (.ref h) = some true
  xc : ExcC K C
  kv : PySem.W.kitOne K (.ref C) (.type "ValueError") = some true
structure ConT (mg : Str → Option Value) (x : Str) (v : V) where
  u : Value
  k : mg x = some u
  r : RelV v u
theorem kn_binds {K : PySem.W.Frag} {x qual : Str} {st : Stmt} {f : Addr} {fd : FuncData} {ps ks : List Str} {n m : Nat} (F : Fun K x qual st f fd) (hk : ks.length = m)
    (h : ∀ (kV doc pm : Value) (an : Option Addr) (cdv ct : Value) (us ws : List Value), us.length = n → ws.length = m → bindArgs (PySem.W.fnOf x qual (defArgs st) (defBody st) (defScope st) .none kV doc pm an cdv ct) ⟨us, ks.zip ws⟩ = pure (ps.zip (us ++ ws))) : KBn K fd ps n ks (kwBy n m) (kwBy n m) := by
  obtain ⟨oc, od, kV, doc, pm, an, cdv, ct, osl, rfl, lk, hcd⟩ := F.ex
  refine ⟨fun s us ws _ h1 h2 => ?_, fun r z => kwBy_rel r z⟩
  have h3 : ws.length = m := h2.trans hk
  unfold kwBy
  rw [if_pos ⟨h1, h3⟩]
  exact .of_eq (h kV doc pm an cdv ct us ws h1 h3)
end GK
namespace SF
open PySem PySem.Spec PyProof.Rows L2 GK LamX
def topS (i : Nat) : Stmt := PySem.Challenge.pw_skiphall_k03_what_may_be_spoken_of.main.body.getD i (.Pass ⟨0, 0, 0, 0⟩)
abbrev s_BadCount_new : Stmt := inClass (topS 3) 0
theorem sc_BadCount_new : FnScope ["self", "what", "count"] ["self", "what", "count"] (defScope s_BadCount_new) := ⟨rfl, rfl, rfl, by decide +kernel, rfl, by decide +kernel, by decide +kernel⟩
abbrev s_NoName_new : Stmt := inClass (topS 4) 0
theorem sc_NoName_new : FnScope ["self", "name"] ["self", "name"] (defScope s_NoName_new) := ⟨rfl, rfl, rfl, by decide +kernel, rfl, by decide +kernel, by decide +kernel⟩
abbrev s_Twice_new : Stmt := inClass (topS 5) 0
theorem sc_Twice_new : FnScope ["self", "name"] ["self", "name"] (defScope s_Twice_new) := ⟨rfl, rfl, rfl, by decide +kernel, rfl, by decide +kernel, by decide +kernel⟩
abbrev s_NoQuestion_new : Stmt := inClass (topS 6) 0
theorem sc_NoQuestion_new : FnScope ["self", "name"] ["self", "name"] (defScope s_NoQuestion_new) := ⟨rfl, rfl, rfl, by decide +kernel, rfl, by decide +kernel, by decide +kernel⟩
abbrev s_NoFit_new : Stmt := inClass (topS 7) 0
theorem sc_NoFit_new : FnScope ["self", "name"] ["self", "name"] (defScope s_NoFit_new) := ⟨rfl, rfl, rfl, by decide +kernel, rfl, by decide +kernel, by decide +kernel⟩
abbrev s_is_name : Stmt := topS 12
theorem sc_is_name : FnScope ["text", "sign"] ["text"] (defScope s_is_name) := ⟨rfl, rfl, rfl, by decide +kernel, rfl, by decide +kernel, by decide +kernel⟩
abbrev s_asked_names : Stmt := topS 13
theorem sc_asked_names : FnScope ["texts", "text"] ["texts"] (defScope s_asked_names) := ⟨rfl, rfl, rfl, by decide +kernel, rfl, by decide +kernel, by decide +kernel⟩
abbrev s_asked_once : Stmt := topS 14
theorem sc_asked_once : FnScope ["names", "seen", "name"] ["names"] (defScope s_asked_once) := ⟨rfl, rfl, rfl, by decide +kernel, rfl, by decide +kernel, by decide +kernel⟩
abbrev s_Is_new : Stmt := inClass (topS 29) 0
theorem sc_Is_new : FnScope ["self", "name", "option"] ["self", "name", "option"] (defScope s_Is_new) := ⟨rfl, rfl, rfl, by decide +kernel, rfl, by decide +kernel, by decide +kernel⟩
abbrev s_Has_new : Stmt := inClass (topS 30) 0
theorem sc_Has_new : FnScope ["self", "name", "option"] ["self", "name", "option"] (defScope s_Has_new) := ⟨rfl, rfl, rfl, by decide +kernel, rfl, by decide +kernel, by decide +kernel⟩
abbrev s_Above_new : Stmt := inClass (topS 31) 0
theorem sc_Above_new : FnScope ["self", "name", "number"] ["self", "name", "number"] (defScope s_Above_new) := ⟨rfl, rfl, rfl, by decide +kernel, rfl, by decide +kernel, by decide +kernel⟩
abbrev s_Below_new : Stmt := inClass (topS 32) 0
theorem sc_Below_new : FnScope ["self", "name", "number"] ["self", "name", "number"] (defScope s_Below_new) := ⟨rfl, rfl, rfl, by decide +kernel, rfl, by decide +kernel, by decide +kernel⟩
abbrev s_Not_new : Stmt := inClass (topS 33) 0
theorem sc_Not_new : FnScope ["self", "inner"] ["self", "inner"] (defScope s_Not_new) := ⟨rfl, rfl, rfl, by decide +kernel, rfl, by decide +kernel, by decide +kernel⟩
abbrev s_Both_new : Stmt := inClass (topS 34) 0
theorem sc_Both_new : FnScope ["self", "left", "right"] ["self", "left", "right"] (defScope s_Both_new) := ⟨rfl, rfl, rfl, by decide +kernel, rfl, by decide +kernel, by decide +kernel⟩
abbrev s_Either_new : Stmt := inClass (topS 35) 0
theorem sc_Either_new : FnScope ["self", "left", "right"] ["self", "left", "right"] (defScope s_Either_new) := ⟨rfl, rfl, rfl, by decide +kernel, rfl, by decide +kernel, by decide +kernel⟩
abbrev s_Is_spoken : Stmt := inClass (topS 29) 2
theorem sc_Is_spoken : FnScope ["self"] ["self"] (defScope s_Is_spoken) := ⟨rfl, rfl, rfl, by decide +kernel, rfl, by decide +kernel, by decide +kernel⟩
abbrev s_Has_spoken : Stmt := inClass (topS 30) 2
theorem sc_Has_spoken : FnScope ["self"] ["self"] (defScope s_Has_spoken) := ⟨rfl, rfl, rfl, by decide +kernel, rfl, by decide +kernel, by decide +kernel⟩
abbrev s_Above_spoken : Stmt := inClass (topS 31) 2
theorem sc_Above_spoken : FnScope ["self"] ["self"] (defScope s_Above_spoken) := ⟨rfl, rfl, rfl, by decide +kernel, rfl, by decide +kernel, by decide +kernel⟩
abbrev s_Below_spoken : Stmt := inClass (topS 32) 2
theorem sc_Below_spoken : FnScope ["self"] ["self"] (defScope s_Below_spoken) := ⟨rfl, rfl, rfl, by decide +kernel, rfl, by decide +kernel, by decide +kernel⟩
abbrev s_Not_spoken : Stmt := inClass (topS 33) 2
theorem sc_Not_spoken : FnScope ["self"] ["self"] (defScope s_Not_spoken) := ⟨rfl, rfl, rfl, by decide +kernel, rfl, by decide +kernel, by decide +kernel⟩
abbrev s_Both_spoken : Stmt := inClass (topS 34) 2
theorem sc_Both_spoken : FnScope ["self"] ["self"] (defScope s_Both_spoken) := ⟨rfl, rfl, rfl, by decide +kernel, rfl, by decide +kernel, by decide +kernel⟩
abbrev s_Either_spoken : Stmt := inClass (topS 35) 2
theorem sc_Either_spoken : FnScope ["self"] ["self"] (defScope s_Either_spoken) := ⟨rfl, rfl, rfl, by decide +kernel, rfl, by decide +kernel, by decide +kernel⟩
abbrev s_Row_within : Stmt := inClass (topS 18) 2
theorem sc_Row_within : FnScope ["self"] ["self"] (defScope s_Row_within) := ⟨rfl, rfl, rfl, by decide +kernel, rfl, by decide +kernel, by decide +kernel⟩
abbrev s_Row_asked_fields : Stmt := inClass (topS 18) 3
theorem sc_Row_asked_fields : FnScope ["self"] ["self"] (defScope s_Row_asked_fields) := ⟨rfl, rfl, rfl, by decide +kernel, rfl, by decide +kernel, by decide +kernel⟩
abbrev s_One_new : Stmt := inClass (topS 19) 0
theorem sc_One_new : FnScope ["self", "name", "options", "where"] ["self", "name", "options", "where"] (defScope s_One_new) := ⟨rfl, rfl, rfl, by decide +kernel, rfl, by decide +kernel, by decide +kernel⟩
abbrev s_Some_new : Stmt := inClass (topS 20) 0
theorem sc_Some_new : FnScope ["self", "name", "options", "where"] ["self", "name", "options", "where"] (defScope s_Some_new) := ⟨rfl, rfl, rfl, by decide +kernel, rfl, by decide +kernel, by decide +kernel⟩
abbrev s_Number_new : Stmt := inClass (topS 21) 0
theorem sc_Number_new : FnScope ["self", "name", "low", "high", "where"] ["self", "name", "low", "high", "where"] (defScope s_Number_new) := ⟨rfl, rfl, rfl, by decide +kernel, rfl, by decide +kernel, by decide +kernel⟩
abbrev s_Check_new : Stmt := inClass (topS 22) 0
theorem sc_Check_new : FnScope ["self", "name", "must", "where"] ["self", "name", "must", "where"] (defScope s_Check_new) := ⟨rfl, rfl, rfl, by decide +kernel, rfl, by decide +kernel, by decide +kernel⟩
abbrev s_Section_new : Stmt := inClass (topS 23) 0
theorem sc_Section_new : FnScope ["self", "rows", "where"] ["self", "rows", "where"] (defScope s_Section_new) := ⟨rfl, rfl, rfl, by decide +kernel, rfl, by decide +kernel, by decide +kernel⟩
abbrev s_Rounds_new : Stmt := inClass (topS 24) 0
theorem sc_Rounds_new : FnScope ["self", "count", "rows", "where"] ["self", "count", "rows", "where"] (defScope s_Rounds_new) := ⟨rfl, rfl, rfl, by decide +kernel, rfl, by decide +kernel, by decide +kernel⟩
abbrev s_One_kind : Stmt := inClass (topS 19) 1
theorem sc_One_kind : FnScope ["self"] ["self"] (defScope s_One_kind) := ⟨rfl, rfl, rfl, by decide +kernel, rfl, by decide +kernel, by decide +kernel⟩
abbrev s_Some_kind : Stmt := inClass (topS 20) 1
theorem sc_Some_kind : FnScope ["self"] ["self"] (defScope s_Some_kind) := ⟨rfl, rfl, rfl, by decide +kernel, rfl, by decide +kernel, by decide +kernel⟩
abbrev s_Number_kind : Stmt := inClass (topS 21) 1
theorem sc_Number_kind : FnScope ["self"] ["self"] (defScope s_Number_kind) := ⟨rfl, rfl, rfl, by decide +kernel, rfl, by decide +kernel, by decide +kernel⟩
abbrev s_Check_kind : Stmt := inClass (topS 22) 1
theorem sc_Check_kind : FnScope ["self"] ["self"] (defScope s_Check_kind) := ⟨rfl, rfl, rfl, by decide +kernel, rfl, by decide +kernel, by decide +kernel⟩
abbrev s_Section_kind : Stmt := inClass (topS 23) 1
theorem sc_Section_kind : FnScope ["self"] ["self"] (defScope s_Section_kind) := ⟨rfl, rfl, rfl, by decide +kernel, rfl, by decide +kernel, by decide +kernel⟩
abbrev s_Rounds_kind : Stmt := inClass (topS 24) 1
theorem sc_Rounds_kind : FnScope ["self"] ["self"] (defScope s_Rounds_kind) := ⟨rfl, rfl, rfl, by decide +kernel, rfl, by decide +kernel, by decide +kernel⟩
abbrev s_Section_within : Stmt := inClass (topS 23) 3
theorem sc_Section_within : FnScope ["self"] ["self"] (defScope s_Section_within) := ⟨rfl, rfl, rfl, by decide +kernel, rfl, by decide +kernel, by decide +kernel⟩
abbrev s_Rounds_within : Stmt := inClass (topS 24) 3
theorem sc_Rounds_within : FnScope ["self"] ["self"] (defScope s_Rounds_within) := ⟨rfl, rfl, rfl, by decide +kernel, rfl, by decide +kernel, by decide +kernel⟩
abbrev s_One_asked_fields : Stmt := inClass (topS 19) 3
theorem sc_One_asked_fields : FnScope ["self"] ["self"] (defScope s_One_asked_fields) := ⟨rfl, rfl, rfl, by decide +kernel, rfl, by decide +kernel, by decide +kernel⟩
abbrev s_Some_asked_fields : Stmt := inClass (topS 20) 3
theorem sc_Some_asked_fields : FnScope ["self"] ["self"] (defScope s_Some_asked_fields) := ⟨rfl, rfl, rfl, by decide +kernel, rfl, by decide +kernel, by decide +kernel⟩
abbrev s_Number_asked_fields : Stmt := inClass (topS 21) 3
theorem sc_Number_asked_fields : FnScope ["self"] ["self"] (defScope s_Number_asked_fields) := ⟨rfl, rfl, rfl, by decide +kernel, rfl, by decide +kernel, by decide +kernel⟩
abbrev s_many_rows : Stmt := topS 25
theorem sc_many_rows : FnScope ["rows", "row"] ["rows"] (defScope s_many_rows) := ⟨rfl, rfl, rfl, by decide +kernel, rfl, by decide +kernel, by decide +kernel⟩
abbrev s_Form_new : Stmt := inClass (topS 26) 0
theorem sc_Form_new : FnScope ["self", "rows"] ["self", "rows"] (defScope s_Form_new) := ⟨rfl, rfl, rfl, by decide +kernel, rfl, by decide +kernel, by decide +kernel⟩
abbrev s_Form_look_through : Stmt := inClass (topS 26) 1
theorem sc_Form_look_through : FnScope ["self", "rows", "here", "row", "inside"] ["self", "rows", "here"] (defScope s_Form_look_through) := ⟨rfl, rfl, rfl, by decide +kernel, rfl, by decide +kernel, by decide +kernel⟩
abbrev s_Form_look_at : Stmt := inClass (topS 26) 2
theorem sc_Form_look_at : FnScope ["self", "row", "here"] ["self", "row", "here"] (defScope s_Form_look_at) := ⟨rfl, rfl, rfl, by decide +kernel, rfl, by decide +kernel, by decide +kernel⟩
abbrev s_Form_look_at_rows : Stmt := inClass (topS 26) 3
theorem sc_Form_look_at_rows : FnScope ["self", "row", "here", "count"] ["self", "row", "here"] (defScope s_Form_look_at_rows) := ⟨rfl, rfl, rfl, by decide +kernel, rfl, by decide +kernel, by decide +kernel⟩
abbrev s_Form_spoken_of : Stmt := inClass (topS 26) 4
theorem sc_Form_spoken_of : FnScope ["self", "name", "here"] ["self", "name", "here"] (defScope s_Form_spoken_of) := ⟨rfl, rfl, rfl, by decide +kernel, rfl, by decide +kernel, by decide +kernel⟩
abbrev s_Form_look_at_condition : Stmt := inClass (topS 26) 5
theorem sc_Form_look_at_condition : FnScope ["self", "condition", "here", "name", "kind", "option", "question"] ["self", "condition", "here"] (defScope s_Form_look_at_condition) := ⟨rfl, rfl, rfl, by decide +kernel, rfl, by decide +kernel, by decide +kernel⟩
abbrev s_Form_outline : Stmt := inClass (topS 26) 6
theorem sc_Form_outline : FnScope ["self"] ["self"] (defScope s_Form_outline) := ⟨rfl, rfl, rfl, by decide +kernel, rfl, by decide +kernel, by decide +kernel⟩
abbrev s_Form_names : Stmt := inClass (topS 26) 7
theorem sc_Form_names : FnScope ["self"] ["self"] (defScope s_Form_names) := ⟨rfl, rfl, rfl, by decide +kernel, rfl, by decide +kernel, by decide +kernel⟩
abbrev s__law_source : Stmt := topS 37
theorem sc__law_source : FnScope ["_law_cell"] ["_law_cell"] (defScope s__law_source) := ⟨rfl, rfl, rfl, by decide +kernel, rfl, by decide +kernel, by decide +kernel⟩
abbrev s__law_take : Stmt := topS 38
theorem sc__law_take : FnScope ["_law_source_here", "_law_many", "_law_found", "_law_number"] ["_law_source_here", "_law_many"] (defScope s__law_take) := ⟨rfl, rfl, rfl, by decide +kernel, rfl, by decide +kernel, by decide +kernel⟩
abbrev s__law_names : Stmt := topS 39
theorem sc__law_names : FnScope ["_law_source_here", "_law_many", "_law_small", "_law_begin", "_law_stem", "_law_k", "_law_at", "_law_found", "_law_some"] ["_law_source_here", "_law_many"] (defScope s__law_names) := ⟨rfl, rfl, rfl, by decide +kernel, rfl, by decide +kernel, by decide +kernel⟩
abbrev s__law_simple : Stmt := topS 40
theorem sc__law_simple : FnScope ["_law_source_here", "_law_known", "_law_name", "_law_kind", "_law_some"] ["_law_source_here", "_law_known"] (defScope s__law_simple) := ⟨rfl, rfl, rfl, by decide +kernel, rfl, by decide +kernel, by decide +kernel⟩
abbrev s__law_condition : Stmt := topS 41
theorem sc__law_condition : FnScope ["_law_source_here", "_law_known", "_law_deep", "_law_way", "_law_left"] ["_law_source_here", "_law_known", "_law_deep"] (defScope s__law_condition) := ⟨rfl, rfl, rfl, by decide +kernel, rfl, by decide +kernel, by decide +kernel⟩
abbrev s__law_perhaps : Stmt := topS 42
theorem sc__law_perhaps : FnScope ["_law_source_here", "_law_known"] ["_law_source_here", "_law_known"] (defScope s__law_perhaps) := ⟨rfl, rfl, rfl, by decide +kernel, rfl, by decide +kernel, by decide +kernel⟩
abbrev s__law_question : Stmt := topS 43
theorem sc__law_question : FnScope ["_law_source_here", "_law_name", "_law_known", "_law_cond", "_law_way", "_law_some", "_law_low", "_law_high"] ["_law_source_here", "_law_name", "_law_known"] (defScope s__law_question) := ⟨rfl, rfl, rfl, by decide +kernel, rfl, by decide +kernel, by decide +kernel⟩
abbrev s__law_rows : Stmt := topS 44
theorem sc__law_rows : FnScope ["_law_source_here", "_law_names_here", "_law_known", "_law_many", "_law_place", "_law_is_inside", "_law_deep", "_law_found", "_law_k", "_law_way", "_law_counts", "_law_cond", "_law_count", "_law_inner", "_law_name", "_law_one"] ["_law_source_here", "_law_names_here", "_law_known", "_law_many", "_law_place"] (defScope s__law_rows) := ⟨rfl, rfl, rfl, by decide +kernel, rfl, by decide +kernel, by decide +kernel⟩
abbrev s__law_form : Stmt := topS 45
theorem sc__law_form : FnScope ["_law_source_here", "_law_many", "_law_names_here"] ["_law_source_here", "_law_many"] (defScope s__law_form) := ⟨rfl, rfl, rfl, by decide +kernel, rfl, by decide +kernel, by decide +kernel⟩
abbrev s__law_made_condition : Stmt := topS 46
theorem sc__law_made_condition : FnScope ["_law_cond", "_law_word"] ["_law_cond"] (defScope s__law_made_condition) := ⟨rfl, rfl, rfl, by decide +kernel, rfl, by decide +kernel, by decide +kernel⟩
abbrev s__law_made_row : Stmt := topS 47
theorem sc__law_made_row : FnScope ["_law_row", "_law_cond", "_law_one"] ["_law_row"] (defScope s__law_made_row) := ⟨rfl, rfl, rfl, by decide +kernel, rfl, by decide +kernel, by decide +kernel⟩
abbrev s__law_all : Stmt := topS 48
theorem sc__law_all : FnScope ["_law_rows_here", "_law_found", "_law_row"] ["_law_rows_here"] (defScope s__law_all) := ⟨rfl, rfl, rfl, by decide +kernel, rfl, by decide +kernel, by decide +kernel⟩
abbrev s__law_spoilt_fields : Stmt := topS 49
theorem sc__law_spoilt_fields : FnScope ["_law_source_here", "_law_row", "_law_every", "_law_way", "_law_odd", "_law_low", "_law_some"] ["_law_source_here", "_law_row", "_law_every"] (defScope s__law_spoilt_fields) := ⟨rfl, rfl, rfl, by decide +kernel, rfl, by decide +kernel, by decide +kernel⟩
abbrev s__law_any_condition : Stmt := topS 50
theorem sc__law_any_condition : FnScope ["_law_source_here", "_law_every", "_law_name", "_law_one", "_law_other"] ["_law_source_here", "_law_every"] (defScope s__law_any_condition) := ⟨rfl, rfl, rfl, by decide +kernel, rfl, by decide +kernel, by decide +kernel⟩
abbrev s__law_spoilt : Stmt := topS 51
theorem sc__law_spoilt : FnScope ["_law_source_here", "_law_rows_here", "_law_every", "_law_at", "_law_row", "_law_way"] ["_law_source_here", "_law_rows_here", "_law_every"] (defScope s__law_spoilt) := ⟨rfl, rfl, rfl, by decide +kernel, rfl, by decide +kernel, by decide +kernel⟩
abbrev s__law_big : Stmt := topS 52
theorem sc__law_big : FnScope ["_law_source_here", "_law_many", "_law_rows_here", "_law_at", "_law_k"] ["_law_source_here"] (defScope s__law_big) := ⟨rfl, rfl, rfl, by decide +kernel, rfl, by decide +kernel, by decide +kernel⟩
abbrev s__law_is_name : Stmt := topS 53
theorem sc__law_is_name : FnScope ["_law_text", "_law_small", "_law_sign"] ["_law_text"] (defScope s__law_is_name) := ⟨rfl, rfl, rfl, by decide +kernel, rfl, by decide +kernel, by decide +kernel⟩
abbrev s__law_spoken : Stmt := topS 54
theorem sc__law_spoken : FnScope ["_law_cond"] ["_law_cond"] (defScope s__law_spoken) := ⟨rfl, rfl, rfl, by decide +kernel, rfl, by decide +kernel, by decide +kernel⟩
abbrev s__law_heard : Stmt := topS 55
theorem sc__law_heard : FnScope ["_law_f", "_law_name", "_law_here"] ["_law_f", "_law_name", "_law_here"] (defScope s__law_heard) := ⟨rfl, rfl, rfl, by decide +kernel, rfl, by decide +kernel, by decide +kernel⟩
abbrev s__law_conditions_amiss : Stmt := topS 56
theorem sc__law_conditions_amiss : FnScope ["_law_f", "_law_conds", "_law_here", "_law_cond", "_law_name", "_law_kind", "_law_option", "_law_fault", "_law_row"] ["_law_f", "_law_conds", "_law_here"] (defScope s__law_conditions_amiss) := ⟨rfl, rfl, rfl, by decide +kernel, rfl, by decide +kernel, by decide +kernel⟩
abbrev s__law_fields_amiss : Stmt := topS 57
theorem sc__law_fields_amiss : FnScope ["_law_f", "_law_row", "_law_here", "_law_fault", "_law_count", "_law_is_right", "_law_bad", "_law_one", "_law_k"] ["_law_f", "_law_row", "_law_here"] (defScope s__law_fields_amiss) := ⟨rfl, rfl, rfl, by decide +kernel, rfl, by decide +kernel, by decide +kernel⟩
abbrev s__law_amiss : Stmt := topS 58
theorem sc__law_amiss : FnScope ["_law_f", "_law_rows_here", "_law_here", "_law_row", "_law_fault", "_law_must", "_law_inside"] ["_law_f", "_law_rows_here", "_law_here"] (defScope s__law_amiss) := ⟨rfl, rfl, rfl, by decide +kernel, rfl, by decide +kernel, by decide +kernel⟩
abbrev s__law_due : Stmt := topS 59
theorem sc__law_due : FnScope ["_law_rows_here", "_law_many", "_law_f", "_law_fault"] ["_law_rows_here"] (defScope s__law_due) := ⟨rfl, rfl, rfl, by decide +kernel, rfl, by decide +kernel, by decide +kernel⟩
abbrev s__law_said : Stmt := topS 60
theorem sc__law_said : FnScope ["_law_rows_here", "_law_handed", "_law_kept", "_law_form_here", "e", "_law_kinds", "_law_word", "_law_row"] ["_law_rows_here"] (defScope s__law_said) := ⟨rfl, rfl, rfl, by decide +kernel, rfl, by decide +kernel, by decide +kernel⟩
abbrev s_law : Stmt := topS 61
theorem sc_law : FnScope ["_law_script", "_law_cell", "_law_source_here", "_law_way", "_law_rows_here", "_law_turn", "_law_every", "_law_row"] ["_law_script"] (defScope s_law) := ⟨rfl, rfl, rfl, by decide +kernel, rfl, by decide +kernel, by decide +kernel⟩
structure Txt (K : PySem.W.Frag) (mg : Str → Option Value) where
  BadCount_new : DefT K "__init__" "BadCount.__init__" s_BadCount_new ["self", "what", "count"]
  NoName_new : DefT K "__init__" "NoName.__init__" s_NoName_new ["self", "name"]
  Twice_new : DefT K "__init__" "Twice.__init__" s_Twice_new ["self", "name"]
  NoQuestion_new : DefT K "__init__" "NoQuestion.__init__" s_NoQuestion_new ["self", "name"]
  NoFit_new : DefT K "__init__" "NoFit.__init__" s_NoFit_new ["self", "name"]
  is_name : GDefT K mg "is_name" s_is_name ["text"]
  asked_names : GDefT K mg "asked_names" s_asked_names ["texts"]
  asked_once : GDefT K mg "asked_once" s_asked_once ["names"]
  Is_new : DefT K "__init__" "Is.__init__" s_Is_new ["self", "name", "option"]
  Has_new : DefT K "__init__" "Has.__init__" s_Has_new ["self", "name", "option"]
  Above_new : DefT K "__init__" "Above.__init__" s_Above_new ["self", "name", "number"]
  Below_new : DefT K "__init__" "Below.__init__" s_Below_new ["self", "name", "number"]
  Not_new : DefT K "__init__" "Not.__init__" s_Not_new ["self", "inner"]
  Both_new : DefT K "__init__" "Both.__init__" s_Both_new ["self", "left", "right"]
  Either_new : DefT K "__init__" "Either.__init__" s_Either_new ["self", "left", "right"]
  Is_spoken : DefT K "spoken" "Is.spoken" s_Is_spoken ["self"]
  Has_spoken : DefT K "spoken" "Has.spoken" s_Has_spoken ["self"]
  Above_spoken : DefT K "spoken" "Above.spoken" s_Above_spoken ["self"]
  Below_spoken : DefT K "spoken" "Below.spoken" s_Below_spoken ["self"]
  Not_spoken : DefT K "spoken" "Not.spoken" s_Not_spoken ["self"]
  Both_spoken : DefT K "spoken" "Both.spoken" s_Both_spoken ["self"]
  Either_spoken : DefT K "spoken" "Either.spoken" s_Either_spoken ["self"]
  Row_within : DefT K "within" "Row.within" s_Row_within ["self"]
  Row_asked_fields : DefT K "asked_fields" "Row.asked_fields" s_Row_asked_fields ["self"]
  One_new : KDefT K "__init__" "One.__init__" s_One_new ["self", "name", "options", "where"] ["where"] 3 1
  Some_new : KDefT K "__init__" "Some.__init__" s_Some_new ["self", "name", "options", "where"] ["where"] 3 1
  Number_new : KDefT K "__init__" "Number.__init__" s_Number_new ["self", "name", "low", "high", "where"] ["where"] 4 1
  Check_new : KDefT K "__init__" "Check.__init__" s_Check_new ["self", "name", "must", "where"] ["where"] 3 1
  Section_new : KDefT K "__init__" "Section.__init__" s_Section_new ["self", "rows", "where"] ["where"] 2 1
  Rounds_new : KDefT K "__init__" "Rounds.__init__" s_Rounds_new ["self", "count", "rows", "where"] ["where"] 3 1
  One_kind : DefT K "kind" "One.kind" s_One_kind ["self"]
  Some_kind : DefT K "kind" "Some.kind" s_Some_kind ["self"]
  Number_kind : DefT K "kind" "Number.kind" s_Number_kind ["self"]
  Check_kind : DefT K "kind" "Check.kind" s_Check_kind ["self"]
  Section_kind : DefT K "kind" "Section.kind" s_Section_kind ["self"]
  Rounds_kind : DefT K "kind" "Rounds.kind" s_Rounds_kind ["self"]
  Section_within : DefT K "within" "Section.within" s_Section_within ["self"]
  Rounds_within : DefT K "within" "Rounds.within" s_Rounds_within ["self"]
  One_asked_fields : DefT K "asked_fields" "One.asked_fields" s_One_asked_fields ["self"]
  Some_asked_fields : DefT K "asked_fields" "Some.asked_fields" s_Some_asked_fields ["self"]
  Number_asked_fields : DefT K "asked_fields" "Number.asked_fields" s_Number_asked_fields ["self"]
  many_rows : GDefT K mg "many_rows" s_many_rows ["rows"]
  Form_new : DefT K "__init__" "Form.__init__" s_Form_new ["self", "rows"]
  Form_look_through : DefT K "look_through" "Form.look_through" s_Form_look_through ["self", "rows", "here"]
  Form_look_at : DefT K "look_at" "Form.look_at" s_Form_look_at ["self", "row", "here"]
  Form_look_at_rows : DefT K "look_at_rows" "Form.look_at_rows" s_Form_look_at_rows ["self", "row", "here"]
  Form_spoken_of : DefT K "spoken_of" "Form.spoken_of" s_Form_spoken_of ["self", "name", "here"]
  Form_look_at_condition : DefT K "look_at_condition" "Form.look_at_condition" s_Form_look_at_condition ["self", "condition", "here"]
  Form_outline : DefT K "outline" "Form.outline" s_Form_outline ["self"]
  Form_names : DefT K "names" "Form.names" s_Form_names ["self"]
  _law_source : GDefT K mg "_law_source" s__law_source ["_law_cell"]
  _law_take : GDefT K mg "_law_take" s__law_take ["_law_source_here", "_law_many"]
  _law_names : GDefT K mg "_law_names" s__law_names ["_law_source_here", "_law_many"]
  _law_simple : GDefT K mg "_law_simple" s__law_simple ["_law_source_here", "_law_known"]
  _law_condition : GDefT K mg "_law_condition" s__law_condition ["_law_source_here", "_law_known", "_law_deep"]
  _law_perhaps : GDefT K mg "_law_perhaps" s__law_perhaps ["_law_source_here", "_law_known"]
  _law_question : GDefT K mg "_law_question" s__law_question ["_law_source_here", "_law_name", "_law_known"]
  _law_rows : GDefT K mg "_law_rows" s__law_rows ["_law_source_here", "_law_names_here", "_law_known", "_law_many", "_law_place"]
  _law_form : GDefT K mg "_law_form" s__law_form ["_law_source_here", "_law_many"]
  _law_made_condition : GDefT K mg "_law_made_condition" s__law_made_condition ["_law_cond"]
  _law_made_row : GDefT K mg "_law_made_row" s__law_made_row ["_law_row"]
  _law_all : GDefT K mg "_law_all" s__law_all ["_law_rows_here"]
  _law_spoilt_fields : GDefT K mg "_law_spoilt_fields" s__law_spoilt_fields ["_law_source_here", "_law_row", "_law_every"]
  _law_any_condition : GDefT K mg "_law_any_condition" s__law_any_condition ["_law_source_here", "_law_every"]
  _law_spoilt : GDefT K mg "_law_spoilt" s__law_spoilt ["_law_source_here", "_law_rows_here", "_law_every"]
  _law_big : GDefT K mg "_law_big" s__law_big ["_law_source_here"]
  _law_is_name : GDefT K mg "_law_is_name" s__law_is_name ["_law_text"]
  _law_spoken : GDefT K mg "_law_spoken" s__law_spoken ["_law_cond"]
  _law_heard : GDefT K mg "_law_heard" s__law_heard ["_law_f", "_law_name", "_law_here"]
  _law_conditions_amiss : GDefT K mg "_law_conditions_amiss" s__law_conditions_amiss ["_law_f", "_law_conds", "_law_here"]
  _law_fields_amiss : GDefT K mg "_law_fields_amiss" s__law_fields_amiss ["_law_f", "_law_row", "_law_here"]
  _law_amiss : GDefT K mg "_law_amiss" s__law_amiss ["_law_f", "_law_rows_here", "_law_here"]
  _law_due : GDefT K mg "_law_due" s__law_due ["_law_rows_here"]
  _law_said : GDefT K mg "_law_said" s__law_said ["_law_rows_here"]
  law : GDefT K mg "law" s_law ["_law_script"]
  Is : ClsT K mg "Is" Is_new.a ["name", "option"]
  m_Is_spoken : Meth K Is.C "spoken" Is_spoken.a
  Has : ClsT K mg "Has" Has_new.a ["name", "option"]
  m_Has_spoken : Meth K Has.C "spoken" Has_spoken.a
  Above : ClsT K mg "Above" Above_new.a ["name", "number"]
  m_Above_spoken : Meth K Above.C "spoken" Above_spoken.a
  Below : ClsT K mg "Below" Below_new.a ["name", "number"]
  m_Below_spoken : Meth K Below.C "spoken" Below_spoken.a
  Not : ClsT K mg "Not" Not_new.a ["inner"]
  m_Not_spoken : Meth K Not.C "spoken" Not_spoken.a
  Both : ClsT K mg "Both" Both_new.a ["left", "right"]
  m_Both_spoken : Meth K Both.C "spoken" Both_spoken.a
  Either : ClsT K mg "Either" Either_new.a ["left", "right"]
  m_Either_spoken : Meth K Either.C "spoken" Either_spoken.a
  One : ClsT K mg "One" One_new.a ["name", "options", "where"]
  m_One_kind : Meth K One.C "kind" One_kind.a
  m_One_asked_fields : Meth K One.C "asked_fields" One_asked_fields.a
  m_One_within : Meth K One.C "within" Row_within.a
  Some : ClsT K mg "Some" Some_new.a ["name", "options", "where"]
  m_Some_kind : Meth K Some.C "kind" Some_kind.a
  m_Some_asked_fields : Meth K Some.C "asked_fields" Some_asked_fields.a
  m_Some_within : Meth K Some.C "within" Row_within.a
  Number : ClsT K mg "Number" Number_new.a ["name", "low", "high", "where"]
  m_Number_kind : Meth K Number.C "kind" Number_kind.a
  m_Number_asked_fields : Meth K Number.C "asked_fields" Number_asked_fields.a
  m_Number_within : Meth K Number.C "within" Row_within.a
  Check : ClsT K mg "Check" Check_new.a ["name", "must", "where"]
  m_Check_kind : Meth K Check.C "kind" Check_kind.a
  m_Check_within : Meth K Check.C "within" Row_within.a
  m_Check_asked_fields : Meth K Check.C "asked_fields" Row_asked_fields.a
  Section : ClsT K mg "Section" Section_new.a ["rows", "where"]
  m_Section_kind : Meth K Section.C "kind" Section_kind.a
  m_Section_within : Meth K Section.C "within" Section_within.a
  Rounds : ClsT K mg "Rounds" Rounds_new.a ["count", "rows", "where"]
  m_Rounds_kind : Meth K Rounds.C "kind" Rounds_kind.a
  m_Rounds_within : Meth K Rounds.C "within" Rounds_within.a
  Form : ClsT K mg "Form" Form_new.a ["top", "named", "asked", "rounds"]
  m_Form_look_through : Meth K Form.C "look_through" Form_look_through.a
  m_Form_look_at : Meth K Form.C "look_at" Form_look_at.a
  m_Form_look_at_rows : Meth K Form.C "look_at_rows" Form_look_at_rows.a
  m_Form_spoken_of : Meth K Form.C "spoken_of" Form_spoken_of.a
  m_Form_look_at_condition : Meth K Form.C "look_at_condition" Form_look_at_condition.a
  m_Form_outline : Meth K Form.C "outline" Form_outline.a
  m_Form_names : Meth K Form.C "names" Form_names.a
  C_HallError : Addr
  gx_HallError : mg "HallError" = some (.ref C_HallError)
  BadCount : ExcT K mg "BadCount" BadCount_new.a ["what", "count"] C_HallError
  NoName : ExcT K mg "NoName" NoName_new.a ["name"] C_HallError
  Twice : ExcT K mg "Twice" Twice_new.a ["name"] C_HallError
  NoQuestion : ExcT K mg "NoQuestion" NoQuestion_new.a ["name"] C_HallError
  NoFit : ExcT K mg "NoFit" NoFit_new.a ["name"] C_HallError
  ki_BadCount_BadCount : PySem.W.kitOne K (.ref BadCount.C) (.ref BadCount.C) = some true
  ki_BadCount_NoName : PySem.W.kitOne K (.ref BadCount.C) (.ref NoName.C) = some false
  ki_BadCount_Twice : PySem.W.kitOne K (.ref BadCount.C) (.ref Twice.C) = some false
  ki_BadCount_NoQuestion : PySem.W.kitOne K (.ref BadCount.C) (.ref NoQuestion.C) = some false
  ki_BadCount_NoFit : PySem.W.kitOne K (.ref BadCount.C) (.ref NoFit.C) = some false
  ki_NoName_BadCount : PySem.W.kitOne K (.ref NoName.C) (.ref BadCount.C) = some false
  ki_NoName_NoName : PySem.W.kitOne K (.ref NoName.C) (.ref NoName.C) = some true
  ki_NoName_Twice : PySem.W.kitOne K (.ref NoName.C) (.ref Twice.C) = some false
  ki_NoName_NoQuestion : PySem.W.kitOne K (.ref NoName.C) (.ref NoQuestion.C) = some false
  ki_NoName_NoFit : PySem.W.kitOne K (.ref NoName.C) (.ref NoFit.C) = some false
  ki_Twice_BadCount : PySem.W.kitOne K (.ref Twice.C) (.ref BadCount.C) = some false
  ki_Twice_NoName : PySem.W.kitOne K (.ref Twice.C) (.ref NoName.C) = some false
  ki_Twice_Twice : PySem.W.kitOne K (.ref Twice.C) (.ref Twice.C) = some true
  ki_Twice_NoQuestion : PySem.W.kitOne K (.ref Twice.C) (.ref NoQuestion.C) = some false
  ki_Twice_NoFit : PySem.W.kitOne K (.ref Twice.C) (.ref NoFit.C) = some false
  ki_NoQuestion_BadCount : PySem.W.kitOne K (.ref NoQuestion.C) (.ref BadCount.C) = some false
  ki_NoQuestion_NoName : PySem.W.kitOne K (.ref NoQuestion.C) (.ref NoName.C) = some false
  ki_NoQuestion_Twice : PySem.W.kitOne K (.ref NoQuestion.C) (.ref Twice.C) = some false
  ki_NoQuestion_NoQuestion : PySem.W.kitOne K (.ref NoQuestion.C) (.ref NoQuestion.C) = some true
  ki_NoQuestion_NoFit : PySem.W.kitOne K (.ref NoQuestion.C) (.ref NoFit.C) = some false
  ki_NoFit_BadCount : PySem.W.kitOne K (.ref NoFit.C) (.ref BadCount.C) = some false
  ki_NoFit_NoName : PySem.W.kitOne K (.ref NoFit.C) (.ref NoName.C) = some false
  ki_NoFit_Twice : PySem.W.kitOne K (.ref NoFit.C) (.ref Twice.C) = some false
  ki_NoFit_NoQuestion : PySem.W.kitOne K (.ref NoFit.C) (.ref NoQuestion.C) = some false
  ki_NoFit_NoFit : PySem.W.kitOne K (.ref NoFit.C) (.ref NoFit.C) = some true
  kLETTERS : ConT mg "LETTERS" (.str "abcdefghijklmnopqrstuvwxyz")
  kFIGURES : ConT mg "FIGURES" (.str "0123456789")
  kLONGEST : ConT mg "LONGEST" (.int 8)
  kMOST_ROWS : ConT mg "MOST_ROWS" (.int 40)
  kMOST_ROUNDS : ConT mg "MOST_ROUNDS" (.int 4)
  z_ValueError : mg "ValueError" = none
  z_abs : mg "abs" = none
  z_all : mg "all" = none
  z_enumerate : mg "enumerate" = none
  z_int : mg "int" = none
  z_isinstance : mg "isinstance" = none
  z_len : mg "len" = none
  z_list : mg "list" = none
  z_range : mg "range" = none
  z_str : mg "str" = none
  z_sum : mg "sum" = none
  z_tuple : mg "tuple" = none
section
variable {K : PySem.W.Frag} {mg : Str → Option Value}
abbrev Txt.a_BadCount_new (T : Txt K mg) : Addr := T.BadCount_new.a
abbrev Txt.d_BadCount_new (T : Txt K mg) : FuncData := T.BadCount_new.d
theorem Txt.F_BadCount_new (T : Txt K mg) : Fun K "__init__" "BadCount.__init__" s_BadCount_new T.BadCount_new.a T.BadCount_new.d := T.BadCount_new.F
theorem Txt.b_BadCount_new (T : Txt K mg) : Binds K T.BadCount_new.d ["self", "what", "count"] [] := T.BadCount_new.b
abbrev Txt.a_NoName_new (T : Txt K mg) : Addr := T.NoName_new.a
abbrev Txt.d_NoName_new (T : Txt K mg) : FuncData := T.NoName_new.d
theorem Txt.F_NoName_new (T : Txt K mg) : Fun K "__init__" "NoName.__init__" s_NoName_new T.NoName_new.a T.NoName_new.d := T.NoName_new.F
theorem Txt.b_NoName_new (T : Txt K mg) : Binds K T.NoName_new.d ["self", "name"] [] := T.NoName_new.b
abbrev Txt.a_Twice_new (T : Txt K mg) : Addr := T.Twice_new.a
abbrev Txt.d_Twice_new (T : Txt K mg) : FuncData := T.Twice_new.d
theorem Txt.F_Twice_new (T : Txt K mg) : Fun K "__init__" "Twice.__init__" s_Twice_new T.Twice_new.a T.Twice_new.d := T.Twice_new.F
theorem Txt.b_Twice_new (T : Txt K mg) : Binds K T.Twice_new.d ["self", "name"] [] := T.Twice_new.b
abbrev Txt.a_NoQuestion_new (T : Txt K mg) : Addr := T.NoQuestion_new.a
abbrev Txt.d_NoQuestion_new (T : Txt K mg) : FuncData := T.NoQuestion_new.d
theorem Txt.F_NoQuestion_new (T : Txt K mg) : Fun K "__init__" "NoQuestion.__init__" s_NoQuestion_new T.NoQuestion_new.a T.NoQuestion_new.d := T.NoQuestion_new.F
theorem Txt.b_NoQuestion_new (T : Txt K mg) : Binds K T.NoQuestion_new.d ["self", "name"] [] := T.NoQuestion_new.b
abbrev Txt.a_NoFit_new (T : Txt K mg) : Addr := T.NoFit_new.a
abbrev Txt.d_NoFit_new (T : Txt K mg) : FuncData := T.NoFit_new.d
theorem Txt.F_NoFit_new (T : Txt K mg) : Fun K "__init__" "NoFit.__init__" s_NoFit_new T.NoFit_new.a T.NoFit_new.d := T.NoFit_new.F
theorem Txt.b_NoFit_new (T : Txt K mg) : Binds K T.NoFit_new.d ["self", "name"] [] := T.NoFit_new.b
theorem Txt.g_is_name (T : Txt K mg) : mg "is_name" = some (.ref T.is_name.a) := T.is_name.g
abbrev Txt.a_is_name (T : Txt K mg) : Addr := T.is_name.a
abbrev Txt.d_is_name (T : Txt K mg) : FuncData := T.is_name.d
theorem Txt.F_is_name (T : Txt K mg) : Fun K "is_name" "is_name" s_is_name T.is_name.a T.is_name.d := T.is_name.F
theorem Txt.b_is_name (T : Txt K mg) : Binds K T.is_name.d ["text"] [] := T.is_name.b
theorem Txt.g_asked_names (T : Txt K mg) : mg "asked_names" = some (.ref T.asked_names.a) := T.asked_names.g
abbrev Txt.a_asked_names (T : Txt K mg) : Addr := T.asked_names.a
abbrev Txt.d_asked_names (T : Txt K mg) : FuncData := T.asked_names.d
theorem Txt.F_asked_names (T : Txt K mg) : Fun K "asked_names" "asked_names" s_asked_names T.asked_names.a T.asked_names.d := T.asked_names.F
theorem Txt.b_asked_names (T : Txt K mg) : Binds K T.asked_names.d ["texts"] [] := T.asked_names.b
theorem Txt.g_asked_once (T : Txt K mg) : mg "asked_once" = some (.ref T.asked_once.a) := T.asked_once.g
abbrev Txt.a_asked_once (T : Txt K mg) : Addr := T.asked_once.a
abbrev Txt.d_asked_once (T : Txt K mg) : FuncData := T.asked_once.d
theorem Txt.F_asked_once (T : Txt K mg) : Fun K "asked_once" "asked_once" s_asked_once T.asked_once.a T.asked_once.d := T.asked_once.F
theorem Txt.b_asked_once (T : Txt K mg) : Binds K T.asked_once.d ["names"] [] := T.asked_once.b
abbrev Txt.a_Is_new (T : Txt K mg) : Addr := T.Is_new.a
abbrev Txt.d_Is_new (T : Txt K mg) : FuncData := T.Is_new.d
theorem Txt.F_Is_new (T : Txt K mg) : Fun K "__init__" "Is.__init__" s_Is_new T.Is_new.a T.Is_new.d := T.Is_new.F
theorem Txt.b_Is_new (T : Txt K mg) : Binds K T.Is_new.d ["self", "name", "option"] [] := T.Is_new.b
abbrev Txt.a_Has_new (T : Txt K mg) : Addr := T.Has_new.a
abbrev Txt.d_Has_new (T : Txt K mg) : FuncData := T.Has_new.d
theorem Txt.F_Has_new (T : Txt K mg) : Fun K "__init__" "Has.__init__" s_Has_new T.Has_new.a T.Has_new.d := T.Has_new.F
theorem Txt.b_Has_new (T : Txt K mg) : Binds K T.Has_new.d ["self", "name", "option"] [] := T.Has_new.b
abbrev Txt.a_Above_new (T : Txt K mg) : Addr := T.Above_new.a
abbrev Txt.d_Above_new (T : Txt K mg) : FuncData := T.Above_new.d
theorem Txt.F_Above_new (T : Txt K mg) : Fun K "__init__" "Above.__init__" s_Above_new T.Above_new.a T.Above_new.d := T.Above_new.F
theorem Txt.b_Above_new (T : Txt K mg) : Binds K T.Above_new.d ["self", "name", "number"] [] := T.Above_new.b
abbrev Txt.a_Below_new (T : Txt K mg) : Addr := T.Below_new.a
abbrev Txt.d_Below_new (T : Txt K mg) : FuncData := T.Below_new.d
theorem Txt.F_Below_new (T : Txt K mg) : Fun K "__init__" "Below.__init__" s_Below_new T.Below_new.a T.Below_new.d := T.Below_new.F
theorem Txt.b_Below_new (T : Txt K mg) : Binds K T.Below_new.d ["self", "name", "number"] [] := T.Below_new.b
abbrev Txt.a_Not_new (T : Txt K mg) : Addr := T.Not_new.a
abbrev Txt.d_Not_new (T : Txt K mg) : FuncData := T.Not_new.d
theorem Txt.F_Not_new (T : Txt K mg) : Fun K "__init__" "Not.__init__" s_Not_new T.Not_new.a T.Not_new.d := T.Not_new.F
theorem Txt.b_Not_new (T : Txt K mg) : Binds K T.Not_new.d ["self", "inner"] [] := T.Not_new.b
abbrev Txt.a_Both_new (T : Txt K mg) : Addr := T.Both_new.a
abbrev Txt.d_Both_new (T : Txt K mg) : FuncData := T.Both_new.d
theorem Txt.F_Both_new (T : Txt K mg) : Fun K "__init__" "Both.__init__" s_Both_new T.Both_new.a T.Both_new.d := T.Both_new.F
theorem Txt.b_Both_new (T : Txt K mg) : Binds K T.Both_new.d ["self", "left", "right"] [] := T.Both_new.b
abbrev Txt.a_Either_new (T : Txt K mg) : Addr := T.Either_new.a
abbrev Txt.d_Either_new (T : Txt K mg) : FuncData := T.Either_new.d
theorem Txt.F_Either_new (T : Txt K mg) : Fun K "__init__" "Either.__init__" s_Either_new T.Either_new.a T.Either_new.d := T.Either_new.F
theorem Txt.b_Either_new (T : Txt K mg) : Binds K T.Either_new.d ["self", "left", "right"] [] := T.Either_new.b
abbrev Txt.a_Is_spoken (T : Txt K mg) : Addr := T.Is_spoken.a
abbrev Txt.d_Is_spoken (T : Txt K mg) : FuncData := T.Is_spoken.d
theorem Txt.F_Is_spoken (T : Txt K mg) : Fun K "spoken" "Is.spoken" s_Is_spoken T.Is_spoken.a T.Is_spoken.d := T.Is_spoken.F
theorem Txt.b_Is_spoken (T : Txt K mg) : Binds K T.Is_spoken.d ["self"] [] := T.Is_spoken.b
abbrev Txt.a_Has_spoken (T : Txt K mg) : Addr := T.Has_spoken.a
abbrev Txt.d_Has_spoken (T : Txt K mg) : FuncData := T.Has_spoken.d
theorem Txt.F_Has_spoken (T : Txt K mg) : Fun K "spoken" "Has.spoken" s_Has_spoken T.Has_spoken.a T.Has_spoken.d := T.Has_spoken.F
theorem Txt.b_Has_spoken (T : Txt K mg) : Binds K T.Has_spoken.d ["self"] [] := T.Has_spoken.b
abbrev Txt.a_Above_spoken (T : Txt K mg) : Addr := T.Above_spoken.a
abbrev Txt.d_Above_spoken (T : Txt K mg) : FuncData := T.Above_spoken.d
theorem Txt.F_Above_spoken (T : Txt K mg) : Fun K "spoken" "Above.spoken" s_Above_spoken T.Above_spoken.a T.Above_spoken.d := T.Above_spoken.F
theorem Txt.b_Above_spoken (T : Txt K mg) : Binds K T.Above_spoken.d ["self"] [] := T.Above_spoken.b
abbrev Txt.a_Below_spoken (T : Txt K mg) : Addr := T.Below_spoken.a
abbrev Txt.d_Below_spoken (T : Txt K mg) : FuncData := T.Below_spoken.d
theorem Txt.F_Below_spoken (T : Txt K mg) : Fun K "spoken" "Below.spoken" s_Below_spoken T.Below_spoken.a T.Below_spoken.d := T.Below_spoken.F
theorem Txt.b_Below_spoken (T : Txt K mg) : Binds K T.Below_spoken.d ["self"] [] := T.Below_spoken.b
abbrev Txt.a_Not_spoken (T : Txt K mg) : Addr := T.Not_spoken.a
abbrev Txt.d_Not_spoken (T : Txt K mg) : FuncData := T.Not_spoken.d
theorem Txt.F_Not_spoken (T : Txt K mg) : Fun K "spoken" "Not.spoken" s_Not_spoken T.Not_spoken.a T.Not_spoken.d := T.Not_spoken.F
theorem Txt.b_Not_spoken (T : Txt K mg) : Binds K T.Not_spoken.d ["self"] [] := T.Not_spoken.b
abbrev Txt.a_Both_spoken (T : Txt K mg) : Addr := T.Both_spoken.a
abbrev Txt.d_Both_spoken (T : Txt K mg) : FuncData := T.Both_spoken.d
theorem Txt.F_Both_spoken (T : Txt K mg) : Fun K "spoken" "Both.spoken" s_Both_spoken T.Both_spoken.a T.Both_spoken.d := T.Both_spoken.F
theorem Txt.b_Both_spoken (T : Txt K mg) : Binds K T.Both_spoken.d ["self"] [] := T.Both_spoken.b
abbrev Txt.a_Either_spoken (T : Txt K mg) : Addr := T.Either_spoken.a
abbrev Txt.d_Either_spoken (T : Txt K mg) : FuncData := T.Either_spoken.d
theorem Txt.F_Either_spoken (T : Txt K mg) : Fun K "spoken" "Either.spoken" s_Either_spoken T.Either_spoken.a T.Either_spoken.d := T.Either_spoken.F
theorem Txt.b_Either_spoken (T : Txt K mg) : Binds K T.Either_spoken.d ["self"] [] := T.Either_spoken.b
abbrev Txt.a_Row_within (T : Txt K mg) : Addr := T.Row_within.a
abbrev Txt.d_Row_within (T : Txt K mg) : FuncData := T.Row_within.d
theorem Txt.F_Row_within (T : Txt K mg) : Fun K "within" "Row.within" s_Row_within T.Row_within.a T.Row_within.d := T.Row_within.F
theorem Txt.b_Row_within (T : Txt K mg) : Binds K T.Row_within.d ["self"] [] := T.Row_within.b
abbrev Txt.a_Row_asked_fields (T : Txt K mg) : Addr := T.Row_asked_fields.a
abbrev Txt.d_Row_asked_fields (T : Txt K mg) : FuncData := T.Row_asked_fields.d
theorem Txt.F_Row_asked_fields (T : Txt K mg) : Fun K "asked_fields" "Row.asked_fields" s_Row_asked_fields T.Row_asked_fields.a T.Row_asked_fields.d := T.Row_asked_fields.F
theorem Txt.b_Row_asked_fields (T : Txt K mg) : Binds K T.Row_asked_fields.d ["self"] [] := T.Row_asked_fields.b
theorem Txt.kn_One_new (T : Txt K mg) : KBn K T.One_new.d ["self", "name", "options", "where"] 3 ["where"] (kwBy 3 1) (kwBy 3 1) := T.One_new.kn
abbrev Txt.a_One_new (T : Txt K mg) : Addr := T.One_new.a
abbrev Txt.d_One_new (T : Txt K mg) : FuncData := T.One_new.d
theorem Txt.F_One_new (T : Txt K mg) : Fun K "__init__" "One.__init__" s_One_new T.One_new.a T.One_new.d := T.One_new.F
theorem Txt.kn_Some_new (T : Txt K mg) : KBn K T.Some_new.d ["self", "name", "options", "where"] 3 ["where"] (kwBy 3 1) (kwBy 3 1) := T.Some_new.kn
abbrev Txt.a_Some_new (T : Txt K mg) : Addr := T.Some_new.a
abbrev Txt.d_Some_new (T : Txt K mg) : FuncData := T.Some_new.d
theorem Txt.F_Some_new (T : Txt K mg) : Fun K "__init__" "Some.__init__" s_Some_new T.Some_new.a T.Some_new.d := T.Some_new.F
theorem Txt.kn_Number_new (T : Txt K mg) : KBn K T.Number_new.d ["self", "name", "low", "high", "where"] 4 ["where"] (kwBy 4 1) (kwBy 4 1) := T.Number_new.kn
abbrev Txt.a_Number_new (T : Txt K mg) : Addr := T.Number_new.a
abbrev Txt.d_Number_new (T : Txt K mg) : FuncData := T.Number_new.d
theorem Txt.F_Number_new (T : Txt K mg) : Fun K "__init__" "Number.__init__" s_Number_new T.Number_new.a T.Number_new.d := T.Number_new.F
theorem Txt.kn_Check_new (T : Txt K mg) : KBn K T.Check_new.d ["self", "name", "must", "where"] 3 ["where"] (kwBy 3 1) (kwBy 3 1) := T.Check_new.kn
abbrev Txt.a_Check_new (T : Txt K mg) : Addr := T.Check_new.a
abbrev Txt.d_Check_new (T : Txt K mg) : FuncData := T.Check_new.d
theorem Txt.F_Check_new (T : Txt K mg) : Fun K "__init__" "Check.__init__" s_Check_new T.Check_new.a T.Check_new.d := T.Check_new.F
theorem Txt.kn_Section_new (T : Txt K mg) : KBn K T.Section_new.d ["self", "rows", "where"] 2 ["where"] (kwBy 2 1) (kwBy 2 1) := T.Section_new.kn
abbrev Txt.a_Section_new (T : Txt K mg) : Addr := T.Section_new.a
abbrev Txt.d_Section_new (T : Txt K mg) : FuncData := T.Section_new.d
theorem Txt.F_Section_new (T : Txt K mg) : Fun K "__init__" "Section.__init__" s_Section_new T.Section_new.a T.Section_new.d := T.Section_new.F
theorem Txt.kn_Rounds_new (T : Txt K mg) : KBn K T.Rounds_new.d ["self", "count", "rows", "where"] 3 ["where"] (kwBy 3 1) (kwBy 3 1) := T.Rounds_new.kn
abbrev Txt.a_Rounds_new (T : Txt K mg) : Addr := T.Rounds_new.a
abbrev Txt.d_Rounds_new (T : Txt K mg) : FuncData := T.Rounds_new.d
theorem Txt.F_Rounds_new (T : Txt K mg) : Fun K "__init__" "Rounds.__init__" s_Rounds_new T.Rounds_new.a T.Rounds_new.d := T.Rounds_new.F
abbrev Txt.a_One_kind (T : Txt K mg) : Addr := T.One_kind.a
abbrev Txt.d_One_kind (T : Txt K mg) : FuncData := T.One_kind.d
theorem Txt.F_One_kind (T : Txt K mg) : Fun K "kind" "One.kind" s_One_kind T.One_kind.a T.One_kind.d := T.One_kind.F
theorem Txt.b_One_kind (T : Txt K mg) : Binds K T.One_kind.d ["self"] [] := T.One_kind.b
abbrev Txt.a_Some_kind (T : Txt K mg) : Addr := T.Some_kind.a
abbrev Txt.d_Some_kind (T : Txt K mg) : FuncData := T.Some_kind.d
theorem Txt.F_Some_kind (T : Txt K mg) : Fun K "kind" "Some.kind" s_Some_kind T.Some_kind.a T.Some_kind.d := T.Some_kind.F
theorem Txt.b_Some_kind (T : Txt K mg) : Binds K T.Some_kind.d ["self"] [] := T.Some_kind.b
abbrev Txt.a_Number_kind (T : Txt K mg) : Addr := T.Number_kind.a
abbrev Txt.d_Number_kind (T : Txt K mg) : FuncData := T.Number_kind.d
theorem Txt.F_Number_kind (T : Txt K mg) : Fun K "kind" "Number.kind" s_Number_kind T.Number_kind.a T.Number_kind.d := T.Number_kind.F
theorem Txt.b_Number_kind (T : Txt K mg) : Binds K T.Number_kind.d ["self"] [] := T.Number_kind.b
abbrev Txt.a_Check_kind (T : Txt K mg) : Addr := T.Check_kind.a
abbrev Txt.d_Check_kind (T : Txt K mg) : FuncData := T.Check_kind.d
theorem Txt.F_Check_kind (T : Txt K mg) : Fun K "kind" "Check.kind" s_Check_kind T.Check_kind.a T.Check_kind.d := T.Check_kind.F
theorem Txt.b_Check_kind (T : Txt K mg) : Binds K T.Check_kind.d ["self"] [] := T.Check_kind.b
abbrev Txt.a_Section_kind (T : Txt K mg) : Addr := T.Section_kind.a
abbrev Txt.d_Section_kind (T : Txt K mg) : FuncData := T.Section_kind.d
theorem Txt.F_Section_kind (T : Txt K mg) : Fun K "kind" "Section.kind" s_Section_kind T.Section_kind.a T.Section_kind.d := T.Section_kind.F
theorem Txt.b_Section_kind (T : Txt K mg) : Binds K T.Section_kind.d ["self"] [] := T.Section_kind.b
abbrev Txt.a_Rounds_kind (T : Txt K mg) : Addr := T.Rounds_kind.a
abbrev Txt.d_Rounds_kind (T : Txt K mg) : FuncData := T.Rounds_kind.d
theorem Txt.F_Rounds_kind (T : Txt K mg) : Fun K "kind" "Rounds.kind" s_Rounds_kind T.Rounds_kind.a T.Rounds_kind.d := T.Rounds_kind.F
theorem Txt.b_Rounds_kind (T : Txt K mg) : Binds K T.Rounds_kind.d ["self"] [] := T.Rounds_kind.b
abbrev Txt.a_Section_within (T : Txt K mg) : Addr := T.Section_within.a
abbrev Txt.d_Section_within (T : Txt K mg) : FuncData := T.Section_within.d
theorem Txt.F_Section_within (T : Txt K mg) : Fun K "within" "Section.within" s_Section_within T.Section_within.a T.Section_within.d := T.Section_within.F
theorem Txt.b_Section_within (T : Txt K mg) : Binds K T.Section_within.d ["self"] [] := T.Section_within.b
abbrev Txt.a_Rounds_within (T : Txt K mg) : Addr := T.Rounds_within.a
abbrev Txt.d_Rounds_within (T : Txt K mg) : FuncData := T.Rounds_within.d
theorem Txt.F_Rounds_within (T : Txt K mg) : Fun K "within" "Rounds.within" s_Rounds_within T.Rounds_within.a T.Rounds_within.d := T.Rounds_within.F
theorem Txt.b_Rounds_within (T : Txt K mg) : Binds K T.Rounds_within.d ["self"] [] := T.Rounds_within.b
abbrev Txt.a_One_asked_fields (T : Txt K mg) : Addr := T.One_asked_fields.a
abbrev Txt.d_One_asked_fields (T : Txt K mg) : FuncData := T.One_asked_fields.d
theorem Txt.F_One_asked_fields (T : Txt K mg) : Fun K "asked_fields" "One.asked_fields" s_One_asked_fields T.One_asked_fields.a T.One_asked_fields.d := T.One_asked_fields.F
theorem Txt.b_One_asked_fields (T : Txt K mg) : Binds K T.One_asked_fields.d ["self"] [] := T.One_asked_fields.b
abbrev Txt.a_Some_asked_fields (T : Txt K mg) : Addr := T.Some_asked_fields.a
abbrev Txt.d_Some_asked_fields (T : Txt K mg) : FuncData := T.Some_asked_fields.d
theorem Txt.F_Some_asked_fields (T : Txt K mg) : Fun K "asked_fields" "Some.asked_fields" s_Some_asked_fields T.Some_asked_fields.a T.Some_asked_fields.d := T.Some_asked_fields.F
theorem Txt.b_Some_asked_fields (T : Txt K mg) : Binds K T.Some_asked_fields.d ["self"] [] := T.Some_asked_fields.b
abbrev Txt.a_Number_asked_fields (T : Txt K mg) : Addr := T.Number_asked_fields.a
abbrev Txt.d_Number_asked_fields (T : Txt K mg) : FuncData := T.Number_asked_fields.d
theorem Txt.F_Number_asked_fields (T : Txt K mg) : Fun K "asked_fields" "Number.asked_fields" s_Number_asked_fields T.Number_asked_fields.a T.Number_asked_fields.d := T.Number_asked_fields.F
theorem Txt.b_Number_asked_fields (T : Txt K mg) : Binds K T.Number_asked_fields.d ["self"] [] := T.Number_asked_fields.b
theorem Txt.g_many_rows (T : Txt K mg) : mg "many_rows" = some (.ref T.many_rows.a) := T.many_rows.g
abbrev Txt.a_many_rows (T : Txt K mg) : Addr := T.many_rows.a
abbrev Txt.d_many_rows (T : Txt K mg) : FuncData := T.many_rows.d
theorem Txt.F_many_rows (T : Txt K mg) : Fun K "many_rows" "many_rows" s_many_rows T.many_rows.a T.many_rows.d := T.many_rows.F
theorem Txt.b_many_rows (T : Txt K mg) : Binds K T.many_rows.d ["rows"] [] := T.many_rows.b
abbrev Txt.a_Form_new (T : Txt K mg) : Addr := T.Form_new.a
abbrev Txt.d_Form_new (T : Txt K mg) : FuncData := T.Form_new.d
theorem Txt.F_Form_new (T : Txt K mg) : Fun K "__init__" "Form.__init__" s_Form_new T.Form_new.a T.Form_new.d := T.Form_new.F
theorem Txt.b_Form_new (T : Txt K mg) : Binds K T.Form_new.d ["self", "rows"] [] := T.Form_new.b
abbrev Txt.a_Form_look_through (T : Txt K mg) : Addr := T.Form_look_through.a
abbrev Txt.d_Form_look_through (T : Txt K mg) : FuncData := T.Form_look_through.d
theorem Txt.F_Form_look_through (T : Txt K mg) : Fun K "look_through" "Form.look_through" s_Form_look_through T.Form_look_through.a T.Form_look_through.d := T.Form_look_through.F
theorem Txt.b_Form_look_through (T : Txt K mg) : Binds K T.Form_look_through.d ["self", "rows", "here"] [] := T.Form_look_through.b
abbrev Txt.a_Form_look_at (T : Txt K mg) : Addr := T.Form_look_at.a
abbrev Txt.d_Form_look_at (T : Txt K mg) : FuncData := T.Form_look_at.d
theorem Txt.F_Form_look_at (T : Txt K mg) : Fun K "look_at" "Form.look_at" s_Form_look_at T.Form_look_at.a T.Form_look_at.d := T.Form_look_at.F
theorem Txt.b_Form_look_at (T : Txt K mg) : Binds K T.Form_look_at.d ["self", "row", "here"] [] := T.Form_look_at.b
abbrev Txt.a_Form_look_at_rows (T : Txt K mg) : Addr := T.Form_look_at_rows.a
abbrev Txt.d_Form_look_at_rows (T : Txt K mg) : FuncData := T.Form_look_at_rows.d
theorem Txt.F_Form_look_at_rows (T : Txt K mg) : Fun K "look_at_rows" "Form.look_at_rows" s_Form_look_at_rows T.Form_look_at_rows.a T.Form_look_at_rows.d := T.Form_look_at_rows.F
theorem Txt.b_Form_look_at_rows (T : Txt K mg) : Binds K T.Form_look_at_rows.d ["self", "row", "here"] [] := T.Form_look_at_rows.b
abbrev Txt.a_Form_spoken_of (T : Txt K mg) : Addr := T.Form_spoken_of.a
abbrev Txt.d_Form_spoken_of (T : Txt K mg) : FuncData := T.Form_spoken_of.d
theorem Txt.F_Form_spoken_of (T : Txt K mg) : Fun K "spoken_of" "Form.spoken_of" s_Form_spoken_of T.Form_spoken_of.a T.Form_spoken_of.d := T.Form_spoken_of.F
theorem Txt.b_Form_spoken_of (T : Txt K mg) : Binds K T.Form_spoken_of.d ["self", "name", "here"] [] := T.Form_spoken_of.b
abbrev Txt.a_Form_look_at_condition (T : Txt K mg) : Addr := T.Form_look_at_condition.a
abbrev Txt.d_Form_look_at_condition (T : Txt K mg) : FuncData := T.Form_look_at_condition.d
theorem Txt.F_Form_look_at_condition (T : Txt K mg) : Fun K "look_at_condition" "Form.look_at_condition" s_Form_look_at_condition T.Form_look_at_condition.a T.Form_look_at_condition.d := T.Form_look_at_condition.F
theorem Txt.b_Form_look_at_condition (T : Txt K mg) : Binds K T.Form_look_at_condition.d ["self", "condition", "here"] [] := T.Form_look_at_condition.b
abbrev Txt.a_Form_outline (T : Txt K mg) : Addr := T.Form_outline.a
abbrev Txt.d_Form_outline (T : Txt K mg) : FuncData := T.Form_outline.d
theorem Txt.F_Form_outline (T : Txt K mg) : Fun K "outline" "Form.outline" s_Form_outline T.Form_outline.a T.Form_outline.d := T.Form_outline.F
theorem Txt.b_Form_outline (T : Txt K mg) : Binds K T.Form_outline.d ["self"] [] := T.Form_outline.b
abbrev Txt.a_Form_names (T : Txt K mg) : Addr := T.Form_names.a
abbrev Txt.d_Form_names (T : Txt K mg) : FuncData := T.Form_names.d
theorem Txt.F_Form_names (T : Txt K mg) : Fun K "names" "Form.names" s_Form_names T.Form_names.a T.Form_names.d := T.Form_names.F
theorem Txt.b_Form_names (T : Txt K mg) : Binds K T.Form_names.d ["self"] [] := T.Form_names.b
theorem Txt.g__law_source (T : Txt K mg) : mg "_law_source" = some (.ref T._law_source.a) := T._law_source.g
abbrev Txt.a__law_source (T : Txt K mg) : Addr := T._law_source.a
abbrev Txt.d__law_source (T : Txt K mg) : FuncData := T._law_source.d
theorem Txt.F__law_source (T : Txt K mg) : Fun K "_law_source" "_law_source" s__law_source T._law_source.a T._law_source.d := T._law_source.F
theorem Txt.b__law_source (T : Txt K mg) : Binds K T._law_source.d ["_law_cell"] [] := T._law_source.b
theorem Txt.g__law_take (T : Txt K mg) : mg "_law_take" = some (.ref T._law_take.a) := T._law_take.g
abbrev Txt.a__law_take (T : Txt K mg) : Addr := T._law_take.a
abbrev Txt.d__law_take (T : Txt K mg) : FuncData := T._law_take.d
theorem Txt.F__law_take (T : Txt K mg) : Fun K "_law_take" "_law_take" s__law_take T._law_take.a T._law_take.d := T._law_take.F
theorem Txt.b__law_take (T : Txt K mg) : Binds K T._law_take.d ["_law_source_here", "_law_many"] [] := T._law_take.b
theorem Txt.g__law_names (T : Txt K mg) : mg "_law_names" = some (.ref T._law_names.a) := T._law_names.g
abbrev Txt.a__law_names (T : Txt K mg) : Addr := T._law_names.a
abbrev Txt.d__law_names (T : Txt K mg) : FuncData := T._law_names.d
theorem Txt.F__law_names (T : Txt K mg) : Fun K "_law_names" "_law_names" s__law_names T._law_names.a T._law_names.d := T._law_names.F
theorem Txt.b__law_names (T : Txt K mg) : Binds K T._law_names.d ["_law_source_here", "_law_many"] [] := T._law_names.b
theorem Txt.g__law_simple (T : Txt K mg) : mg "_law_simple" = some (.ref T._law_simple.a) := T._law_simple.g
abbrev Txt.a__law_simple (T : Txt K mg) : Addr := T._law_simple.a
abbrev Txt.d__law_simple (T : Txt K mg) : FuncData := T._law_simple.d
theorem Txt.F__law_simple (T : Txt K mg) : Fun K "_law_simple" "_law_simple" s__law_simple T._law_simple.a T._law_simple.d := T._law_simple.F
theorem Txt.b__law_simple (T : Txt K mg) : Binds K T._law_simple.d ["_law_source_here", "_law_known"] [] := T._law_simple.b
theorem Txt.g__law_condition (T : Txt K mg) : mg "_law_condition" = some (.ref T._law_condition.a) := T._law_condition.g
abbrev Txt.a__law_condition (T : Txt K mg) : Addr := T._law_condition.a
abbrev Txt.d__law_condition (T : Txt K mg) : FuncData := T._law_condition.d
theorem Txt.F__law_condition (T : Txt K mg) : Fun K "_law_condition" "_law_condition" s__law_condition T._law_condition.a T._law_condition.d := T._law_condition.F
theorem Txt.b__law_condition (T : Txt K mg) : Binds K T._law_condition.d ["_law_source_here", "_law_known", "_law_deep"] [] := T._law_condition.b
theorem Txt.g__law_perhaps (T : Txt K mg) : mg "_law_perhaps" = some (.ref T._law_perhaps.a) := T._law_perhaps.g
abbrev Txt.a__law_perhaps (T : Txt K mg) : Addr := T._law_perhaps.a
abbrev Txt.d__law_perhaps (T : Txt K mg) : FuncData := T._law_perhaps.d
theorem Txt.F__law_perhaps (T : Txt K mg) : Fun K "_law_perhaps" "_law_perhaps" s__law_perhaps T._law_perhaps.a T._law_perhaps.d := T._law_perhaps.F
theorem Txt.b__law_perhaps (T : Txt K mg) : Binds K T._law_perhaps.d ["_law_source_here", "_law_known"] [] := T._law_perhaps.b
theorem Txt.g__law_question (T : Txt K mg) : mg "_law_question" = some (.ref T._law_question.a) := T._law_question.g
abbrev Txt.a__law_question (T : Txt K mg) : Addr := T._law_question.a
abbrev Txt.d__law_question (T : Txt K mg) : FuncData := T._law_question.d
theorem Txt.F__law_question (T : Txt K mg) : Fun K "_law_question" "_law_question" s__law_question T._law_question.a T._law_question.d := T._law_question.F
theorem Txt.b__law_question (T : Txt K mg) : Binds K T._law_question.d ["_law_source_here", "_law_name", "_law_known"] [] := T._law_question.b
theorem Txt.g__law_rows (T : Txt K mg) : mg "_law_rows" = some (.ref T._law_rows.a) := T._law_rows.g
abbrev Txt.a__law_rows (T : Txt K mg) : Addr := T._law_rows.a
abbrev Txt.d__law_rows (T : Txt K mg) : FuncData := T._law_rows.d
theorem Txt.F__law_rows (T : Txt K mg) : Fun K "_law_rows" "_law_rows" s__law_rows T._law_rows.a T._law_rows.d := T._law_rows.F
theorem Txt.b__law_rows (T : Txt K mg) : Binds K T._law_rows.d ["_law_source_here", "_law_names_here", "_law_known", "_law_many", "_law_place"] [] := T._law_rows.b
theorem Txt.g__law_form (T : Txt K mg) : mg "_law_form" = some (.ref T._law_form.a) := T._law_form.g
abbrev Txt.a__law_form (T : Txt K mg) : Addr := T._law_form.a
abbrev Txt.d__law_form (T : Txt K mg) : FuncData := T._law_form.d
theorem Txt.F__law_form (T : Txt K mg) : Fun K "_law_form" "_law_form" s__law_form T._law_form.a T._law_form.d := T._law_form.F
theorem Txt.b__law_form (T : Txt K mg) : Binds K T._law_form.d ["_law_source_here", "_law_many"] [] := T._law_form.b
theorem Txt.g__law_made_condition (T : Txt K mg) : mg "_law_made_condition" = some (.ref T._law_made_condition.a) := T._law_made_condition.g
abbrev Txt.a__law_made_condition (T : Txt K mg) : Addr := T._law_made_condition.a
abbrev Txt.d__law_made_condition (T : Txt K mg) : FuncData := T._law_made_condition.d
theorem Txt.F__law_made_condition (T : Txt K mg) : Fun K "_law_made_condition" "_law_made_condition" s__law_made_condition T._law_made_condition.a T._law_made_condition.d := T._law_made_condition.F
theorem Txt.b__law_made_condition (T : Txt K mg) : Binds K T._law_made_condition.d ["_law_cond"] [] := T._law_made_condition.b
theorem Txt.g__law_made_row (T : Txt K mg) : mg "_law_made_row" = some (.ref T._law_made_row.a) := T._law_made_row.g
abbrev Txt.a__law_made_row (T : Txt K mg) : Addr := T._law_made_row.a
abbrev Txt.d__law_made_row (T : Txt K mg) : FuncData := T._law_made_row.d
theorem Txt.F__law_made_row (T : Txt K mg) : Fun K "_law_made_row" "_law_made_row" s__law_made_row T._law_made_row.a T._law_made_row.d := T._law_made_row.F
theorem Txt.b__law_made_row (T : Txt K mg) : Binds K T._law_made_row.d ["_law_row"] [] := T._law_made_row.b
theorem Txt.g__law_all (T : Txt K mg) : mg "_law_all" = some (.ref T._law_all.a) := T._law_all.g
abbrev Txt.a__law_all (T : Txt K mg) : Addr := T._law_all.a
abbrev Txt.d__law_all (T : Txt K mg) : FuncData := T._law_all.d
theorem Txt.F__law_all (T : Txt K mg) : Fun K "_law_all" "_law_all" s__law_all T._law_all.a T._law_all.d := T._law_all.F
theorem Txt.b__law_all (T : Txt K mg) : Binds K T._law_all.d ["_law_rows_here"] [] := T._law_all.b
theorem Txt.g__law_spoilt_fields (T : Txt K mg) : mg "_law_spoilt_fields" = some (.ref T._law_spoilt_fields.a) := T._law_spoilt_fields.g
abbrev Txt.a__law_spoilt_fields (T : Txt K mg) : Addr := T._law_spoilt_fields.a
abbrev Txt.d__law_spoilt_fields (T : Txt K mg) : FuncData := T._law_spoilt_fields.d
theorem Txt.F__law_spoilt_fields (T : Txt K mg) : Fun K "_law_spoilt_fields" "_law_spoilt_fields" s__law_spoilt_fields T._law_spoilt_fields.a T._law_spoilt_fields.d := T._law_spoilt_fields.F
theorem Txt.b__law_spoilt_fields (T : Txt K mg) : Binds K T._law_spoilt_fields.d ["_law_source_here", "_law_row", "_law_every"] [] := T._law_spoilt_fields.b
theorem Txt.g__law_any_condition (T : Txt K mg) : mg "_law_any_condition" = some (.ref T._law_any_condition.a) := T._law_any_condition.g
abbrev Txt.a__law_any_condition (T : Txt K mg) : Addr := T._law_any_condition.a
abbrev Txt.d__law_any_condition (T : Txt K mg) : FuncData := T._law_any_condition.d
theorem Txt.F__law_any_condition (T : Txt K mg) : Fun K "_law_any_condition" "_law_any_condition" s__law_any_condition T._law_any_condition.a T._law_any_condition.d := T._law_any_condition.F
theorem Txt.b__law_any_condition (T : Txt K mg) : Binds K T._law_any_condition.d ["_law_source_here", "_law_every"] [] := T._law_any_condition.b
theorem Txt.g__law_spoilt (T : Txt K mg) : mg "_law_spoilt" = some (.ref T._law_spoilt.a) := T._law_spoilt.g
abbrev Txt.a__law_spoilt (T : Txt K mg) : Addr := T._law_spoilt.a
abbrev Txt.d__law_spoilt (T : Txt K mg) : FuncData := T._law_spoilt.d
theorem Txt.F__law_spoilt (T : Txt K mg) : Fun K "_law_spoilt" "_law_spoilt" s__law_spoilt T._law_spoilt.a T._law_spoilt.d := T._law_spoilt.F
theorem Txt.b__law_spoilt (T : Txt K mg) : Binds K T._law_spoilt.d ["_law_source_here", "_law_rows_here", "_law_every"] [] := T._law_spoilt.b
theorem Txt.g__law_big (T : Txt K mg) : mg "_law_big" = some (.ref T._law_big.a) := T._law_big.g
abbrev Txt.a__law_big (T : Txt K mg) : Addr := T._law_big.a
abbrev Txt.d__law_big (T : Txt K mg) : FuncData := T._law_big.d
theorem Txt.F__law_big (T : Txt K mg) : Fun K "_law_big" "_law_big" s__law_big T._law_big.a T._law_big.d := T._law_big.F
theorem Txt.b__law_big (T : Txt K mg) : Binds K T._law_big.d ["_law_source_here"] [] := T._law_big.b
theorem Txt.g__law_is_name (T : Txt K mg) : mg "_law_is_name" = some (.ref T._law_is_name.a) := T._law_is_name.g
abbrev Txt.a__law_is_name (T : Txt K mg) : Addr := T._law_is_name.a
abbrev Txt.d__law_is_name (T : Txt K mg) : FuncData := T._law_is_name.d
theorem Txt.F__law_is_name (T : Txt K mg) : Fun K "_law_is_name" "_law_is_name" s__law_is_name T._law_is_name.a T._law_is_name.d := T._law_is_name.F
theorem Txt.b__law_is_name (T : Txt K mg) : Binds K T._law_is_name.d ["_law_text"] [] := T._law_is_name.b
theorem Txt.g__law_spoken (T : Txt K mg) : mg "_law_spoken" = some (.ref T._law_spoken.a) := T._law_spoken.g
abbrev Txt.a__law_spoken (T : Txt K mg) : Addr := T._law_spoken.a
abbrev Txt.d__law_spoken (T : Txt K mg) : FuncData := T._law_spoken.d
theorem Txt.F__law_spoken (T : Txt K mg) : Fun K "_law_spoken" "_law_spoken" s__law_spoken T._law_spoken.a T._law_spoken.d := T._law_spoken.F
theorem Txt.b__law_spoken (T : Txt K mg) : Binds K T._law_spoken.d ["_law_cond"] [] := T._law_spoken.b
theorem Txt.g__law_heard (T : Txt K mg) : mg "_law_heard" = some (.ref T._law_heard.a) := T._law_heard.g
abbrev Txt.a__law_heard (T : Txt K mg) : Addr := T._law_heard.a
abbrev Txt.d__law_heard (T : Txt K mg) : FuncData := T._law_heard.d
theorem Txt.F__law_heard (T : Txt K mg) : Fun K "_law_heard" "_law_heard" s__law_heard T._law_heard.a T._law_heard.d := T._law_heard.F
theorem Txt.b__law_heard (T : Txt K mg) : Binds K T._law_heard.d ["_law_f", "_law_name", "_law_here"] [] := T._law_heard.b
theorem Txt.g__law_conditions_amiss (T : Txt K mg) : mg "_law_conditions_amiss" = some (.ref T._law_conditions_amiss.a) := T._law_conditions_amiss.g
abbrev Txt.a__law_conditions_amiss (T : Txt K mg) : Addr := T._law_conditions_amiss.a
abbrev Txt.d__law_conditions_amiss (T : Txt K mg) : FuncData := T._law_conditions_amiss.d
theorem Txt.F__law_conditions_amiss (T : Txt K mg) : Fun K "_law_conditions_amiss" "_law_conditions_amiss" s__law_conditions_amiss T._law_conditions_amiss.a T._law_conditions_amiss.d := T._law_conditions_amiss.F
theorem Txt.b__law_conditions_amiss (T : Txt K mg) : Binds K T._law_conditions_amiss.d ["_law_f", "_law_conds", "_law_here"] [] := T._law_conditions_amiss.b
theorem Txt.g__law_fields_amiss (T : Txt K mg) : mg "_law_fields_amiss" = some (.ref T._law_fields_amiss.a) := T._law_fields_amiss.g
abbrev Txt.a__law_fields_amiss (T : Txt K mg) : Addr := T._law_fields_amiss.a
abbrev Txt.d__law_fields_amiss (T : Txt K mg) : FuncData := T._law_fields_amiss.d
theorem Txt.F__law_fields_amiss (T : Txt K mg) : Fun K "_law_fields_amiss" "_law_fields_amiss" s__law_fields_amiss T._law_fields_amiss.a T._law_fields_amiss.d := T._law_fields_amiss.F
theorem Txt.b__law_fields_amiss (T : Txt K mg) : Binds K T._law_fields_amiss.d ["_law_f", "_law_row", "_law_here"] [] := T._law_fields_amiss.b
theorem Txt.g__law_amiss (T : Txt K mg) : mg "_law_amiss" = some (.ref T._law_amiss.a) := T._law_amiss.g
abbrev Txt.a__law_amiss (T : Txt K mg) : Addr := T._law_amiss.a
abbrev Txt.d__law_amiss (T : Txt K mg) : FuncData := T._law_amiss.d
theorem Txt.F__law_amiss (T : Txt K mg) : Fun K "_law_amiss" "_law_amiss" s__law_amiss T._law_amiss.a T._law_amiss.d := T._law_amiss.F
theorem Txt.b__law_amiss (T : Txt K mg) : Binds K T._law_amiss.d ["_law_f", "_law_rows_here", "_law_here"] [] := T._law_amiss.b
theorem Txt.g__law_due (T : Txt K mg) : mg "_law_due" = some (.ref T._law_due.a) := T._law_due.g
abbrev Txt.a__law_due (T : Txt K mg) : Addr := T._law_due.a
abbrev Txt.d__law_due (T : Txt K mg) : FuncData := T._law_due.d
theorem Txt.F__law_due (T : Txt K mg) : Fun K "_law_due" "_law_due" s__law_due T._law_due.a T._law_due.d := T._law_due.F
theorem Txt.b__law_due (T : Txt K mg) : Binds K T._law_due.d ["_law_rows_here"] [] := T._law_due.b
theorem Txt.g__law_said (T : Txt K mg) : mg "_law_said" = some (.ref T._law_said.a) := T._law_said.g
abbrev Txt.a__law_said (T : Txt K mg) : Addr := T._law_said.a
abbrev Txt.d__law_said (T : Txt K mg) : FuncData := T._law_said.d
theorem Txt.F__law_said (T : Txt K mg) : Fun K "_law_said" "_law_said" s__law_said T._law_said.a T._law_said.d := T._law_said.F
theorem Txt.b__law_said (T : Txt K mg) : Binds K T._law_said.d ["_law_rows_here"] [] := T._law_said.b
abbrev Txt.a_law (T : Txt K mg) : Addr := T.law.a
abbrev Txt.d_law (T : Txt K mg) : FuncData := T.law.d
theorem Txt.F_law (T : Txt K mg) : Fun K "law" "law" s_law T.law.a T.law.d := T.law.F
abbrev Txt.C_Is (T : Txt K mg) : Addr := T.Is.C
theorem Txt.cl_Is (T : Txt K mg) : Cls K T.Is.C := T.Is.cl
theorem Txt.gc_Is (T : Txt K mg) : mg "Is" = some (.ref T.Is.C) := T.Is.g
theorem Txt.M_Is (T : Txt K mg) : Mk K T.Is.C T.Is_new.a := T.Is.M
theorem Txt.n_Is_name (T : Txt K mg) : NoAttr K T.Is.C "name" := T.Is.na _ (by decide)
theorem Txt.n_Is_option (T : Txt K mg) : NoAttr K T.Is.C "option" := T.Is.na _ (by decide)
abbrev Txt.C_Has (T : Txt K mg) : Addr := T.Has.C
theorem Txt.cl_Has (T : Txt K mg) : Cls K T.Has.C := T.Has.cl
theorem Txt.gc_Has (T : Txt K mg) : mg "Has" = some (.ref T.Has.C) := T.Has.g
theorem Txt.M_Has (T : Txt K mg) : Mk K T.Has.C T.Has_new.a := T.Has.M
theorem Txt.n_Has_name (T : Txt K mg) : NoAttr K T.Has.C "name" := T.Has.na _ (by decide)
theorem Txt.n_Has_option (T : Txt K mg) : NoAttr K T.Has.C "option" := T.Has.na _ (by decide)
abbrev Txt.C_Above (T : Txt K mg) : Addr := T.Above.C
theorem Txt.cl_Above (T : Txt K mg) : Cls K T.Above.C := T.Above.cl
theorem Txt.gc_Above (T : Txt K mg) : mg "Above" = some (.ref T.Above.C) := T.Above.g
theorem Txt.M_Above (T : Txt K mg) : Mk K T.Above.C T.Above_new.a := T.Above.M
theorem Txt.n_Above_name (T : Txt K mg) : NoAttr K T.Above.C "name" := T.Above.na _ (by decide)
theorem Txt.n_Above_number (T : Txt K mg) : NoAttr K T.Above.C "number" := T.Above.na _ (by decide)
abbrev Txt.C_Below (T : Txt K mg) : Addr := T.Below.C
theorem Txt.cl_Below (T : Txt K mg) : Cls K T.Below.C := T.Below.cl
theorem Txt.gc_Below (T : Txt K mg) : mg "Below" = some (.ref T.Below.C) := T.Below.g
theorem Txt.M_Below (T : Txt K mg) : Mk K T.Below.C T.Below_new.a := T.Below.M
theorem Txt.n_Below_name (T : Txt K mg) : NoAttr K T.Below.C "name" := T.Below.na _ (by decide)
theorem Txt.n_Below_number (T : Txt K mg) : NoAttr K T.Below.C "number" := T.Below.na _ (by decide)
abbrev Txt.C_Not (T : Txt K mg) : Addr := T.Not.C
theorem Txt.cl_Not (T : Txt K mg) : Cls K T.Not.C := T.Not.cl
theorem Txt.gc_Not (T : Txt K mg) : mg "Not" = some (.ref T.Not.C) := T.Not.g
theorem Txt.M_Not (T : Txt K mg) : Mk K T.Not.C T.Not_new.a := T.Not.M
theorem Txt.n_Not_inner (T : Txt K mg) : NoAttr K T.Not.C "inner" := T.Not.na _ (by decide)
abbrev Txt.C_Both (T : Txt K mg) : Addr := T.Both.C
theorem Txt.cl_Both (T : Txt K mg) : Cls K T.Both.C := T.Both.cl
theorem Txt.gc_Both (T : Txt K mg) : mg "Both" = some (.ref T.Both.C) := T.Both.g
theorem Txt.M_Both (T : Txt K mg) : Mk K T.Both.C T.Both_new.a := T.Both.M
theorem Txt.n_Both_left (T : Txt K mg) : NoAttr K T.Both.C "left" := T.Both.na _ (by decide)
theorem Txt.n_Both_right (T : Txt K mg) : NoAttr K T.Both.C "right" := T.Both.na _ (by decide)
abbrev Txt.C_Either (T : Txt K mg) : Addr := T.Either.C
theorem Txt.cl_Either (T : Txt K mg) : Cls K T.Either.C := T.Either.cl
theorem Txt.gc_Either (T : Txt K mg) : mg "Either" = some (.ref T.Either.C) := T.Either.g
theorem Txt.M_Either (T : Txt K mg) : Mk K T.Either.C T.Either_new.a := T.Either.M
theorem Txt.n_Either_left (T : Txt K mg) : NoAttr K T.Either.C "left" := T.Either.na _ (by decide)
theorem Txt.n_Either_right (T : Txt K mg) : NoAttr K T.Either.C "right" := T.Either.na _ (by decide)
abbrev Txt.C_One (T : Txt K mg) : Addr := T.One.C
theorem Txt.cl_One (T : Txt K mg) : Cls K T.One.C := T.One.cl
theorem Txt.gc_One (T : Txt K mg) : mg "One" = some (.ref T.One.C) := T.One.g
theorem Txt.M_One (T : Txt K mg) : Mk K T.One.C T.One_new.a := T.One.M
theorem Txt.n_One_name (T : Txt K mg) : NoAttr K T.One.C "name" := T.One.na _ (by decide)
theorem Txt.n_One_options (T : Txt K mg) : NoAttr K T.One.C "options" := T.One.na _ (by decide)
theorem Txt.n_One_where (T : Txt K mg) : NoAttr K T.One.C "where" := T.One.na _ (by decide)
abbrev Txt.C_Some (T : Txt K mg) : Addr := T.Some.C
theorem Txt.cl_Some (T : Txt K mg) : Cls K T.Some.C := T.Some.cl
theorem Txt.gc_Some (T : Txt K mg) : mg "Some" = some (.ref T.Some.C) := T.Some.g
theorem Txt.M_Some (T : Txt K mg) : Mk K T.Some.C T.Some_new.a := T.Some.M
theorem Txt.n_Some_name (T : Txt K mg) : NoAttr K T.Some.C "name" := T.Some.na _ (by decide)
theorem Txt.n_Some_options (T : Txt K mg) : NoAttr K T.Some.C "options" := T.Some.na _ (by decide)
theorem Txt.n_Some_where (T : Txt K mg) : NoAttr K T.Some.C "where" := T.Some.na _ (by decide)
abbrev Txt.C_Number (T : Txt K mg) : Addr := T.Number.C
theorem Txt.cl_Number (T : Txt K mg) : Cls K T.Number.C := T.Number.cl
theorem Txt.gc_Number (T : Txt K mg) : mg "Number" = some (.ref T.Number.C) := T.Number.g
theorem Txt.M_Number (T : Txt K mg) : Mk K T.Number.C T.Number_new.a := T.Number.M
theorem Txt.n_Number_name (T : Txt K mg) : NoAttr K T.Number.C "name" := T.Number.na _ (by decide)
theorem Txt.n_Number_low (T : Txt K mg) : NoAttr K T.Number.C "low" := T.Number.na _ (by decide)
theorem Txt.n_Number_high (T : Txt K mg) : NoAttr K T.Number.C "high" := T.Number.na _ (by decide)
theorem Txt.n_Number_where (T : Txt K mg) : NoAttr K T.Number.C "where" := T.Number.na _ (by decide)
abbrev Txt.C_Check (T : Txt K mg) : Addr := T.Check.C
theorem Txt.cl_Check (T : Txt K mg) : Cls K T.Check.C := T.Check.cl
theorem Txt.gc_Check (T : Txt K mg) : mg "Check" = some (.ref T.Check.C) := T.Check.g
theorem Txt.M_Check (T : Txt K mg) : Mk K T.Check.C T.Check_new.a := T.Check.M
theorem Txt.n_Check_name (T : Txt K mg) : NoAttr K T.Check.C "name" := T.Check.na _ (by decide)
theorem Txt.n_Check_must (T : Txt K mg) : NoAttr K T.Check.C "must" := T.Check.na _ (by decide)
theorem Txt.n_Check_where (T : Txt K mg) : NoAttr K T.Check.C "where" := T.Check.na _ (by decide)
abbrev Txt.C_Section (T : Txt K mg) : Addr := T.Section.C
theorem Txt.cl_Section (T : Txt K mg) : Cls K T.Section.C := T.Section.cl
theorem Txt.gc_Section (T : Txt K mg) : mg "Section" = some (.ref T.Section.C) := T.Section.g
theorem Txt.M_Section (T : Txt K mg) : Mk K T.Section.C T.Section_new.a := T.Section.M
theorem Txt.n_Section_rows (T : Txt K mg) : NoAttr K T.Section.C "rows" := T.Section.na _ (by decide)
theorem Txt.n_Section_where (T : Txt K mg) : NoAttr K T.Section.C "where" := T.Section.na _ (by decide)
abbrev Txt.C_Rounds (T : Txt K mg) : Addr := T.Rounds.C
theorem Txt.cl_Rounds (T : Txt K mg) : Cls K T.Rounds.C := T.Rounds.cl
theorem Txt.gc_Rounds (T : Txt K mg) : mg "Rounds" = some (.ref T.Rounds.C) := T.Rounds.g
theorem Txt.M_Rounds (T : Txt K mg) : Mk K T.Rounds.C T.Rounds_new.a := T.Rounds.M
theorem Txt.n_Rounds_count (T : Txt K mg) : NoAttr K T.Rounds.C "count" := T.Rounds.na _ (by decide)
theorem Txt.n_Rounds_rows (T : Txt K mg) : NoAttr K T.Rounds.C "rows" := T.Rounds.na _ (by decide)
theorem Txt.n_Rounds_where (T : Txt K mg) : NoAttr K T.Rounds.C "where" := T.Rounds.na _ (by decide)
abbrev Txt.C_Form (T : Txt K mg) : Addr := T.Form.C
theorem Txt.cl_Form (T : Txt K mg) : Cls K T.Form.C := T.Form.cl
theorem Txt.gc_Form (T : Txt K mg) : mg "Form" = some (.ref T.Form.C) := T.Form.g
theorem Txt.M_Form (T : Txt K mg) : Mk K T.Form.C T.Form_new.a := T.Form.M
theorem Txt.n_Form_top (T : Txt K mg) : NoAttr K T.Form.C "top" := T.Form.na _ (by decide)
theorem Txt.n_Form_named (T : Txt K mg) : NoAttr K T.Form.C "named" := T.Form.na _ (by decide)
theorem Txt.n_Form_asked (T : Txt K mg) : NoAttr K T.Form.C "asked" := T.Form.na _ (by decide)
theorem Txt.n_Form_rounds (T : Txt K mg) : NoAttr K T.Form.C "rounds" := T.Form.na _ (by decide)
abbrev Txt.C_BadCount (T : Txt K mg) : Addr := T.BadCount.C
theorem Txt.gx_BadCount (T : Txt K mg) : mg "BadCount" = some (.ref T.BadCount.C) := T.BadCount.g
theorem Txt.x_BadCount (T : Txt K mg) : OexC K T.BadCount.C := T.BadCount.x
theorem Txt.i_BadCount (T : Txt K mg) : PySem.W.findIn K (.ref T.BadCount.C) "__init__" = some (some (.ref T.BadCount_new.a)) := T.BadCount.i
theorem Txt.ti_BadCount (T : Txt K mg) : PySem.W.typeIn K (.ref T.BadCount_new.a) = some (.type "function") := T.BadCount.ti
theorem Txt.xf_BadCount (T : Txt K mg) : XfC K T.BadCount.C := T.BadCount.xf
theorem Txt.eh_BadCount (T : Txt K mg) : PySem.W.exmOne K (.ref T.BadCount.C) (.ref T.C_HallError) = some true := T.BadCount.eh
theorem Txt.xc_BadCount (T : Txt K mg) : ExcC K T.BadCount.C := T.BadCount.xc
theorem Txt.kv_BadCount (T : Txt K mg) : PySem.W.kitOne K (.ref T.BadCount.C) (.type "ValueError") = some true := T.BadCount.kv
theorem Txt.nx_BadCount_what (T : Txt K mg) : PySem.W.findIn K (.ref T.BadCount.C) "what" = some none := T.BadCount.nx _ (by decide)
theorem Txt.nx_BadCount_count (T : Txt K mg) : PySem.W.findIn K (.ref T.BadCount.C) "count" = some none := T.BadCount.nx _ (by decide)
abbrev Txt.C_NoName (T : Txt K mg) : Addr := T.NoName.C
theorem Txt.gx_NoName (T : Txt K mg) : mg "NoName" = some (.ref T.NoName.C) := T.NoName.g
theorem Txt.x_NoName (T : Txt K mg) : OexC K T.NoName.C := T.NoName.x
theorem Txt.i_NoName (T : Txt K mg) : PySem.W.findIn K (.ref T.NoName.C) "__init__" = some (some (.ref T.NoName_new.a)) := T.NoName.i
theorem Txt.ti_NoName (T : Txt K mg) : PySem.W.typeIn K (.ref T.NoName_new.a) = some (.type "function") := T.NoName.ti
theorem Txt.xf_NoName (T : Txt K mg) : XfC K T.NoName.C := T.NoName.xf
theorem Txt.eh_NoName (T : Txt K mg) : PySem.W.exmOne K (.ref T.NoName.C) (.ref T.C_HallError) = some true := T.NoName.eh
theorem Txt.xc_NoName (T : Txt K mg) : ExcC K T.NoName.C := T.NoName.xc
theorem Txt.kv_NoName (T : Txt K mg) : PySem.W.kitOne K (.ref T.NoName.C) (.type "ValueError") = some true := T.NoName.kv
theorem Txt.nx_NoName_name (T : Txt K mg) : PySem.W.findIn K (.ref T.NoName.C) "name" = some none := T.NoName.nx _ (by decide)
abbrev Txt.C_Twice (T : Txt K mg) : Addr := T.Twice.C
theorem Txt.gx_Twice (T : Txt K mg) : mg "Twice" = some (.ref T.Twice.C) := T.Twice.g
theorem Txt.x_Twice (T : Txt K mg) : OexC K T.Twice.C := T.Twice.x
theorem Txt.i_Twice (T : Txt K mg) : PySem.W.findIn K (.ref T.Twice.C) "__init__" = some (some (.ref T.Twice_new.a)) := T.Twice.i
theorem Txt.ti_Twice (T : Txt K mg) : PySem.W.typeIn K (.ref T.Twice_new.a) = some (.type "function") := T.Twice.ti
theorem Txt.xf_Twice (T : Txt K mg) : XfC K T.Twice.C := T.Twice.xf
theorem Txt.eh_Twice (T : Txt K mg) : PySem.W.exmOne K (.ref T.Twice.C) (.ref T.C_HallError) = some true := T.Twice.eh
theorem Txt.xc_Twice (T : Txt K mg) : ExcC K T.Twice.C := T.Twice.xc
theorem Txt.kv_Twice (T : Txt K mg) : PySem.W.kitOne K (.ref T.Twice.C) (.type "ValueError") = some true := T.Twice.kv
theorem Txt.nx_Twice_name (T : Txt K mg) : PySem.W.findIn K (.ref T.Twice.C) "name" = some none := T.Twice.nx _ (by decide)
abbrev Txt.C_NoQuestion (T : Txt K mg) : Addr := T.NoQuestion.C
theorem Txt.gx_NoQuestion (T : Txt K mg) : mg "NoQuestion" = some (.ref T.NoQuestion.C) := T.NoQuestion.g
theorem Txt.x_NoQuestion (T : Txt K mg) : OexC K T.NoQuestion.C := T.NoQuestion.x
theorem Txt.i_NoQuestion (T : Txt K mg) : PySem.W.findIn K (.ref T.NoQuestion.C) "__init__" = some (some (.ref T.NoQuestion_new.a)) := T.NoQuestion.i
theorem Txt.ti_NoQuestion (T : Txt K mg) : PySem.W.typeIn K (.ref T.NoQuestion_new.a) = some (.type "function") := T.NoQuestion.ti
theorem Txt.xf_NoQuestion (T : Txt K mg) : XfC K T.NoQuestion.C := T.NoQuestion.xf
theorem Txt.eh_NoQuestion (T : Txt K mg) : PySem.W.exmOne K (.ref T.NoQuestion.C) (.ref T.C_HallError) = some true := T.NoQuestion.eh
theorem Txt.xc_NoQuestion (T : Txt K mg) : ExcC K T.NoQuestion.C := T.NoQuestion.xc
theorem Txt.kv_NoQuestion (T : Txt K mg) : PySem.W.kitOne K (.ref T.NoQuestion.C) (.type "ValueError") = some true := T.NoQuestion.kv
theorem Txt.nx_NoQuestion_name (T : Txt K mg) : PySem.W.findIn K (.ref T.NoQuestion.C) "name" = some none := T.NoQuestion.nx _ (by decide)
abbrev Txt.C_NoFit (T : Txt K mg) : Addr := T.NoFit.C
theorem Txt.gx_NoFit (T : Txt K mg) : mg "NoFit" = some (.ref T.NoFit.C) := T.NoFit.g
theorem Txt.x_NoFit (T : Txt K mg) : OexC K T.NoFit.C := T.NoFit.x
theorem Txt.i_NoFit (T : Txt K mg) : PySem.W.findIn K (.ref T.NoFit.C) "__init__" = some (some (.ref T.NoFit_new.a)) := T.NoFit.i
theorem Txt.ti_NoFit (T : Txt K mg) : PySem.W.typeIn K (.ref T.NoFit_new.a) = some (.type "function") := T.NoFit.ti
theorem Txt.xf_NoFit (T : Txt K mg) : XfC K T.NoFit.C := T.NoFit.xf
theorem Txt.eh_NoFit (T : Txt K mg) : PySem.W.exmOne K (.ref T.NoFit.C) (.ref T.C_HallError) = some true := T.NoFit.eh
theorem Txt.xc_NoFit (T : Txt K mg) : ExcC K T.NoFit.C := T.NoFit.xc
theorem Txt.kv_NoFit (T : Txt K mg) : PySem.W.kitOne K (.ref T.NoFit.C) (.type "ValueError") = some true := T.NoFit.kv
theorem Txt.nx_NoFit_name (T : Txt K mg) : PySem.W.findIn K (.ref T.NoFit.C) "name" = some none := T.NoFit.nx _ (by decide)
theorem Txt.k_LETTERS (T : Txt K mg) : mg "LETTERS" = some T.kLETTERS.u := T.kLETTERS.k
theorem Txt.r_LETTERS (T : Txt K mg) : RelV (.str "abcdefghijklmnopqrstuvwxyz") T.kLETTERS.u := T.kLETTERS.r
theorem Txt.k_FIGURES (T : Txt K mg) : mg "FIGURES" = some T.kFIGURES.u := T.kFIGURES.k
theorem Txt.r_FIGURES (T : Txt K mg) : RelV (.str "0123456789") T.kFIGURES.u := T.kFIGURES.r
theorem Txt.k_LONGEST (T : Txt K mg) : mg "LONGEST" = some T.kLONGEST.u := T.kLONGEST.k
theorem Txt.r_LONGEST (T : Txt K mg) : RelV (.int 8) T.kLONGEST.u := T.kLONGEST.r
theorem Txt.k_MOST_ROWS (T : Txt K mg) : mg "MOST_ROWS" = some T.kMOST_ROWS.u := T.kMOST_ROWS.k
theorem Txt.r_MOST_ROWS (T : Txt K mg) : RelV (.int 40) T.kMOST_ROWS.u := T.kMOST_ROWS.r
theorem Txt.k_MOST_ROUNDS (T : Txt K mg) : mg "MOST_ROUNDS" = some T.kMOST_ROUNDS.u := T.kMOST_ROUNDS.k
theorem Txt.r_MOST_ROUNDS (T : Txt K mg) : RelV (.int 4) T.kMOST_ROUNDS.u := T.kMOST_ROUNDS.r
end
end SF
/-! Forms, plainly: conditions, rows, what is amiss first. -/
namespace SF
open PySem PySem.Spec PyProof.Rows L2 GK
inductive Cnd where
  | is (n o : Str)
  | has (n o : Str)
  | abv (n : Str) (k : Int)
  | blw (n : Str) (k : Int)
  | not (c : Cnd)
  | both (a b : Cnd)
  | either (a b : Cnd)
inductive Rw where
  | one (n : Str) (os : List Str) (c : Option Cnd)
  | som (n : Str) (os : List Str) (c : Option Cnd)
  | number (n : Str) (lo hi : Int) (c : Option Cnd)
  | check (n : Str) (m : Cnd) (c : Option Cnd)
  | sec (rows : List Rw) (c : Option Cnd)
  | rnd (n : Str) (rows : List Rw) (c : Option Cnd)
def Cnd.dep : Cnd → Nat
  | .not c => c.dep + 1
  | .both a b => max a.dep b.dep + 1
  | .either a b => max a.dep b.dep + 1
  | _ => 0
mutual
def Rw.dep : Rw → Nat
  | .sec rows _ => deps rows + 1
  | .rnd _ rows _ => deps rows + 1
  | _ => 0
def deps : List Rw → Nat
  | [] => 0
  | r :: rs => max r.dep (deps rs)
end
mutual
def Rw.cnt : Rw → Nat
  | .sec rows _ => cnts rows + 1
  | .rnd _ rows _ => cnts rows + 1
  | _ => 1
def cnts : List Rw → Nat
  | [] => 0
  | r :: rs => r.cnt + cnts rs
end
/-! ### as data -/
def Cnd.py : Cnd → PyData
  | .is n o => .tuple [.str "is", .str n, .str o]
  | .has n o => .tuple [.str "has", .str n, .str o]
  | .abv n k => .tuple [.str "above", .str n, .int k]
  | .blw n k => .tuple [.str "below", .str n, .int k]
  | .not c => .tuple [.str "not", c.py]
  | .both a b => .tuple [.str "both", a.py, b.py]
  | .either a b => .tuple [.str "either", a.py, b.py]
def ocP : Option Cnd → PyData
  | none => .none
  | some c => c.py
mutual
def Rw.py : Rw → PyData
  | .one n os c => .tuple [.str "one", .str n, .list (os.map .str), ocP c]
  | .som n os c => .tuple [.str "some", .str n, .list (os.map .str), ocP c]
  | .number n lo hi c => .tuple [.str "number", .str n, .int lo, .int hi, ocP c]
  | .check n m c => .tuple [.str "check", .str n, m.py, ocP c]
  | .sec rows c => .tuple [.str "section", .list (rowsP rows), ocP c]
  | .rnd n rows c => .tuple [.str "rounds", .str n, .list (rowsP rows), ocP c]
def rowsP : List Rw → List PyData
  | [] => []
  | r :: rs => r.py :: rowsP rs
end
theorem rowsP_map : ∀ rows : List Rw, rowsP rows = rows.map Rw.py
  | [] => by simp [rowsP]
  | r :: rs => by simp [rowsP, rowsP_map rs]
theorem deps_mem : ∀ {rows : List Rw} {r : Rw}, r ∈ rows → r.dep ≤ deps rows
  | r' :: rs, r, h => by
    rw [deps]
    rcases List.mem_cons.mp h with e | e
    · subst e; exact Nat.le_max_left _ _
    · exact Nat.le_trans (deps_mem e) (Nat.le_max_right _ _)
theorem deps_le : ∀ {rows : List Rw} {m : Nat}, (∀ r ∈ rows, r.dep ≤ m) → deps rows ≤ m
  | [], m, _ => by simp [deps]
  | r :: rs, m, h => by
    rw [deps]
    exact Nat.max_le.mpr ⟨h r List.mem_cons_self, deps_le fun x hx => h x (List.mem_cons_of_mem _ hx)⟩
theorem cnts_append : ∀ (a b : List Rw), cnts (a ++ b) = cnts a + cnts b
  | [], b => by simp [cnts]
  | r :: a, b => by simp [cnts, cnts_append a b]; omega
theorem cnt_pos : ∀ r : Rw, 1 ≤ r.cnt := fun r => by cases r <;> simp [Rw.cnt]
theorem len_cnts : ∀ rows : List Rw, rows.length ≤ cnts rows
  | [] => by simp [cnts]
  | r :: rs => by
    have := len_cnts rs
    have := cnt_pos r
    simp only [List.length_cons, cnts]
    omega
theorem cnt_mem : ∀ {rows : List Rw} {r : Rw}, r ∈ rows → r.cnt ≤ cnts rows
  | r' :: rs, r, h => by
    rw [cnts]
    rcases List.mem_cons.mp h with e | e
    · subst e; omega
    · have := cnt_mem e; omega
/-! ### sizes -/
abbrev DP : Nat := 4
def sOk (s : Str) : Prop := s.length ≤ 1000 ∧ PyData.strOk s = true
def Cnd.ok : Cnd → Prop
  | .is n o => sOk n ∧ sOk o
  | .has n o => sOk n ∧ sOk o
  | .abv n _ => sOk n
  | .blw n _ => sOk n
  | .not c => c.ok
  | .both a b => a.ok ∧ b.ok
  | .either a b => a.ok ∧ b.ok
def ocOk : Option Cnd → Prop
  | none => True
  | some c => c.ok ∧ c.dep ≤ DP
mutual
def Rw.ok : Rw → Prop
  | .one n os c => sOk n ∧ os.length ≤ 1000 ∧ (∀ s ∈ os, sOk s) ∧ ocOk c
  | .som n os c => sOk n ∧ os.length ≤ 1000 ∧ (∀ s ∈ os, sOk s) ∧ ocOk c
  | .number n _ _ c => sOk n ∧ ocOk c
  | .check n m c => sOk n ∧ m.ok ∧ m.dep ≤ DP ∧ ocOk c
  | .sec rows c => rowsOk rows ∧ ocOk c
  | .rnd n rows c => sOk n ∧ rowsOk rows ∧ ocOk c
def rowsOk : List Rw → Prop
  | [] => True
  | r :: rs => r.ok ∧ rowsOk rs
end
theorem rowsOk_iff : ∀ {rows : List Rw}, rowsOk rows ↔ ∀ r ∈ rows, r.ok
  | [] => by simp [rowsOk]
  | r :: rs => by simp [rowsOk, rowsOk_iff (rows := rs)]
/-! ### names -/
def letters : List Nat := ("abcdefghijklmnopqrstuvwxyz" : Str).cps.toList
def figures : List Nat := ("0123456789" : Str).cps.toList
def isName (s : Str) : Bool := decide (1 ≤ s.length) && decide (s.length ≤ 8) && (match s.cps.toList with | [] => false | c :: _ => decide (c ∈ letters)) && s.cps.toList.all (fun c => decide (c ∈ letters) || decide (c ∈ figures))
def firstBad (ss : List Str) : Option Str := ss.find? (fun s => !isName s)
def firstDup (seen : List Str) : List Str → Option Str
  | [] => none
  | s :: r => if s ∈ seen then some s else firstDup (seen ++ [s]) r
theorem dup_app : ∀ (xs seen : List Str) (s : Str), firstDup seen xs = none → firstDup seen (xs ++ [s]) = if s ∈ seen ++ xs then some s else none
  | [], seen, s, _ => by simp [firstDup]
  | x :: xs, seen, s, h => by
    rw [firstDup] at h
    by_cases e : x ∈ seen
    · rw [if_pos e] at h; cases h
    · rw [if_neg e] at h
      rw [List.cons_append, firstDup, if_neg e, dup_app xs _ s h]
      simp [List.append_assoc]
theorem dup_none : ∀ (xs seen : List Str), xs.Nodup → (∀ x ∈ xs, x ∉ seen) → firstDup seen xs = none
  | [], _, _, _ => rfl
  | x :: xs, seen, nd, h => by
    rw [firstDup, if_neg (h x List.mem_cons_self)]
    refine dup_none xs _ (List.nodup_cons.mp nd).2 fun y hy => ?_
    rw [List.mem_append, not_or]
    refine ⟨h y (List.mem_cons_of_mem _ hy), fun z => ?_⟩
    rw [List.mem_singleton] at z
    subst z
    exact (List.nodup_cons.mp nd).1 hy
/-- a name behind names that stand once -/
theorem dup_last {xs : List Str} {s : Str} (nd : xs.Nodup) : firstDup [] (xs ++ [s]) = if s ∈ xs then some s else none := by
  rw [dup_app xs [] s (dup_none xs [] nd fun _ _ h => by cases h)]
  simp
/-! ### what is amiss -/
inductive Fault where
  | count (what : Str) (n : Int)
  | name (s : Str)
  | twice (s : Str)
  | question (s : Str)
  | fit (s : Str)
def Fault.py : Fault → PyData
  | .count what n => .tuple [.str "count", .str what, .int n]
  | .name s => .tuple [.str "name", .str s]
  | .twice s => .tuple [.str "twice", .str s]
  | .question s => .tuple [.str "question", .str s]
  | .fit s => .tuple [.str "fit", .str s]
structure Stt where
  named : List Str
  asked : List (Str × Rw × Nat)
  rounds : Nat
def getA (as : List (Str × Rw × Nat)) (n : Str) : Option (Rw × Nat) := (as.find? fun a => decide (a.1 = n)).map (·.2)
def Rw.kind : Rw → Str
  | .one .. => "one"
  | .som .. => "some"
  | .number .. => "number"
  | .check .. => "check"
  | .sec .. => "section"
  | .rnd .. => "rounds"
def Rw.opts : Rw → List Str
  | .one _ os _ => os
  | .som _ os _ => os
  | _ => []
def Rw.wh : Rw → Option Cnd
  | .one _ _ c => c
  | .som _ _ c => c
  | .number _ _ _ c => c
  | .check _ _ c => c
  | .sec _ c => c
  | .rnd _ _ c => c
def Rw.conds (r : Rw) : List Cnd := r.wh.toList ++ (match r with | .check _ m _ => [m] | _ => [])
/-- the question of a name, seen from the rounds here (0: none) -/
def speak (st : Stt) (n : Str) (here : Nat) : Except Fault Rw := match getA st.asked n with
  | none => .error (.question n)
  | some (r, h) => if h = 0 ∨ h = here then .ok r else .error (.question n)
abbrev Say := Str × Str × Option Str
def says : Cnd → List Say
  | .is n o => [(n, "one", some o)]
  | .has n o => [(n, "some", some o)]
  | .abv n _ => [(n, "number", none)]
  | .blw n _ => [(n, "number", none)]
  | .not c => says c
  | .both a b => says a ++ says b
  | .either a b => says a ++ says b
def sayFits (r : Rw) (s : Say) : Bool := decide (r.kind = s.2.1) && (match s.2.2 with | none => true | some o => decide (o ∈ r.opts))
def sayFault (st : Stt) (here : Nat) (s : Say) : Option Fault := match speak st s.1 here with
  | .error f => some f
  | .ok r => if sayFits r s then none else some (.fit s.1)
def condFault (st : Stt) (here : Nat) (c : Cnd) : Option Fault := (says c).findSome? (sayFault st here)
def optTail (os : List Str) : Option Fault := match firstBad os with
  | some s => some (.name s)
  | none => (firstDup [] os).map .twice
theorem optTail_bad {os : List Str} {s : Str} (h : firstBad os = some s) : optTail os = some (.name s) := by unfold optTail; rw [h]
theorem optTail_dup {os : List Str} (h : firstBad os = none) : optTail os = (firstDup [] os).map .twice := by unfold optTail; rw [h]
def optFault (most : Nat) (os : List Str) : Option Fault := if ¬ (1 ≤ os.length ∧ os.length ≤ most) then some (.count "options" os.length) else optTail os
def fieldFault : Rw → Option Fault
  | .one _ os _ => optFault 6 os
  | .som _ os _ => optFault 4 os
  | .number _ lo hi _ => if lo > hi then some (.count "bounds" hi) else none
  | _ => none
def isCount : Rw → Bool
  | .number _ lo hi _ => decide (0 ≤ lo) && decide (hi ≤ 4)
  | _ => false
def leafFault (st : Stt) (n : Str) (r : Rw) : Option Fault := if isName n = false then some (.name n) else if n ∈ st.named then some (.twice n) else fieldFault r
def countFault (st : Stt) (n : Str) (here : Nat) : Option Fault := match speak st n here with
  | .error f => some f
  | .ok q => if isCount q then none else some (.fit n)
theorem countFault_no {st : Stt} {n : Str} {here : Nat} {f : Fault} (h : speak st n here = .error f) : countFault st n here = some f := by unfold countFault; rw [h]
theorem countFault_ok {st : Stt} {n : Str} {here : Nat} {r : Rw} (h : speak st n here = .ok r) : countFault st n here = if isCount r then none else some (.fit n) := by unfold countFault; rw [h]
def headFault (st : Stt) (here : Nat) : Rw → Option Fault
  | .sec rows _ => if rows.isEmpty then some (.count "rows" 0) else none
  | .rnd n rows _ => if rows.isEmpty then some (.count "rows" 0) else if here ≠ 0 then some (.count "rounds" 2) else countFault st n here
  | .one n os c => leafFault st n (.one n os c)
  | .som n os c => leafFault st n (.som n os c)
  | .number n lo hi c => leafFault st n (.number n lo hi c)
  | .check n m c => leafFault st n (.check n m c)
def atFault (st : Stt) (here : Nat) (r : Rw) : Option Fault := match headFault st here r with
  | some f => some f
  | none => r.conds.findSome? (condFault st here)
def keep (st : Stt) (here : Nat) : Rw → Stt
  | .one n os c => { st with named := st.named ++ [n], asked := st.asked ++ [(n, .one n os c, here)] }
  | .som n os c => { st with named := st.named ++ [n], asked := st.asked ++ [(n, .som n os c, here)] }
  | .number n lo hi c => { st with named := st.named ++ [n], asked := st.asked ++ [(n, .number n lo hi c, here)] }
  | .check n m c => { st with named := st.named ++ [n] }
  | _ => st
def step (go : Stt → List Rw → Nat → Except Fault Stt) (here : Nat) (st : Stt) (r : Rw) : Except Fault Stt := match atFault st here r with
  | some f => .error f
  | none => match r with
    | .sec rows _ => go st rows here
    | .rnd _ rows _ => go { st with rounds := st.rounds + 1 } rows (st.rounds + 1)
    | r => .ok (keep st here r)
def looksL (go : Stt → List Rw → Nat → Except Fault Stt) (here : Nat) : Stt → List Rw → Except Fault Stt
  | st, [] => .ok st
  | st, r :: rs => match step go here st r with
    | .error f => .error f
    | .ok st' => looksL go here st' rs
def looks : Nat → Stt → List Rw → Nat → Except Fault Stt
  | 0, st, _, _ => .ok st
  | m + 1, st, rows, here => looksL (looks m) here st rows
/-- what is told of rows -/
def due (rows : List Rw) : Except Fault (List Str) := if 1 ≤ cnts rows ∧ cnts rows ≤ 40 then match looks 12 ⟨[], [], 0⟩ rows 0 with
    | .error f => .error f
    | .ok st => .ok (st.asked.map (·.1))
  else .error (.count "rows" (cnts rows : Int))
def duePy : Except Fault (List Str) → PyData
  | .error f => f.py
  | .ok ns => .tuple [.str "told", .list (ns.map .str)]
/-! ### what the state keeps -/
structure SttOk (st : Stt) : Prop where
  nd : st.named.Nodup
  sub : ∀ a ∈ st.asked, a.1 ∈ st.named
  le : st.asked.length ≤ st.named.length
theorem getA_none {as : List (Str × Rw × Nat)} {n : Str} (h : ∀ a ∈ as, a.1 ≠ n) : getA as n = none := by
  unfold getA
  rw [List.find?_eq_none.mpr fun a ha => by simpa using h a ha]
  rfl
def Rw.leaf : Rw → Option Str
  | .one n .. => some n
  | .som n .. => some n
  | .number n .. => some n
  | .check n .. => some n
  | _ => none
theorem head_leaf {st : Stt} {here : Nat} {r : Rw} {n : Str} (e : r.leaf = some n) (h : headFault st here r = none) : isName n = true ∧ n ∉ st.named ∧ fieldFault r = none := by
  have hl : leafFault st n r = none := by
    cases r <;> simp only [Rw.leaf, Option.some.injEq, reduceCtorEq] at e <;> subst e <;> exact h
  unfold leafFault at hl
  by_cases h1 : isName n = false
  · rw [if_pos h1] at hl; cases hl
  · rw [if_neg h1] at hl
    by_cases h2 : n ∈ st.named
    · rw [if_pos h2] at hl; cases hl
    · rw [if_neg h2] at hl
      exact ⟨by simpa using h1, h2, hl⟩
theorem keep_named {st : Stt} {here : Nat} {r : Rw} : (keep st here r).named = st.named ++ r.leaf.toList := by
  cases r <;> simp [keep, Rw.leaf]
theorem keep_ok {st : Stt} {here : Nat} {r : Rw} (ok : SttOk st) (h : headFault st here r = none) : SttOk (keep st here r) := by
  refine ⟨?_, ?_, by have := ok.le; cases r <;> simp [keep] <;> omega⟩
  · rw [keep_named]
    cases e : r.leaf with
    | none => simpa using ok.nd
    | some n =>
      have := (head_leaf e h).2.1
      rw [show (some n).toList = [n] from rfl, List.nodup_append]
      exact ⟨ok.nd, by simp, fun a ha b hb => by rw [List.mem_singleton] at hb; subst hb; exact fun z => this (z ▸ ha)⟩
  · intro a ha
    rw [keep_named]
    have old : a ∈ st.asked → a.1 ∈ st.named ++ r.leaf.toList := fun h => List.mem_append_left _ (ok.sub a h)
    cases r <;> simp only [keep, Rw.leaf] at ha ⊢
    all_goals first
      | exact old ha
      | (rcases List.mem_append.mp ha with z | z
         · exact old z
         · rw [List.mem_singleton] at z
           subst z
           simp)
theorem step_ok {go : Stt → List Rw → Nat → Except Fault Stt} {here : Nat} {st st' : Stt} {r : Rw} (hgo : ∀ st rows h st', SttOk st → go st rows h = .ok st' → SttOk st' ∧ st'.named.length ≤ st.named.length + cnts rows) (ok : SttOk st) (h : step go here st r = .ok st') : SttOk st' ∧ st'.named.length ≤ st.named.length + r.cnt := by
  unfold step at h
  cases e : atFault st here r with
  | some f => rw [e] at h; cases h
  | none =>
    rw [e] at h
    have hh : headFault st here r = none := by
      unfold atFault at e
      cases z : headFault st here r with
      | none => rfl
      | some f => rw [z] at e; cases e
    have kl : (keep st here r).named.length ≤ st.named.length + r.cnt := by
      rw [keep_named, List.length_append]
      cases z : r.leaf with
      | none => simp
      | some n => have := cnt_pos r; simp; omega
    cases r with
    | sec rows c =>
      obtain ⟨h1, h2⟩ := hgo _ _ _ _ ok h
      exact ⟨h1, by simp only [Rw.cnt]; omega⟩
    | rnd n rows c =>
      obtain ⟨h1, h2⟩ := hgo { st with rounds := st.rounds + 1 } _ _ _ ⟨ok.nd, ok.sub, ok.le⟩ h
      exact ⟨h1, by simp only [Rw.cnt]; simp only at h2; omega⟩
    | one n os c => cases h; exact ⟨keep_ok ok hh, kl⟩
    | som n os c => cases h; exact ⟨keep_ok ok hh, kl⟩
    | number n lo hi c => cases h; exact ⟨keep_ok ok hh, kl⟩
    | check n m c => cases h; exact ⟨keep_ok ok hh, kl⟩
theorem looksL_ok {go : Stt → List Rw → Nat → Except Fault Stt} (hgo : ∀ st rows h st', SttOk st → go st rows h = .ok st' → SttOk st' ∧ st'.named.length ≤ st.named.length + cnts rows) {here : Nat} : ∀ {rows : List Rw} {st st' : Stt}, SttOk st → looksL go here st rows = .ok st' → SttOk st' ∧ st'.named.length ≤ st.named.length + cnts rows
  | [], st, st', ok, h => by cases h; exact ⟨ok, by omega⟩
  | r :: rs, st, st', ok, h => by
    rw [looksL] at h
    cases e : step go here st r with
    | error f => rw [e] at h; cases h
    | ok st1 =>
      rw [e] at h
      obtain ⟨h1, h2⟩ := step_ok hgo ok e
      obtain ⟨h3, h4⟩ := looksL_ok hgo h1 h
      exact ⟨h3, by rw [cnts]; omega⟩
theorem looks_ok : ∀ (m : Nat) (st : Stt) (rows : List Rw) (here : Nat) (st' : Stt), SttOk st → looks m st rows here = .ok st' → SttOk st' ∧ st'.named.length ≤ st.named.length + cnts rows
  | 0, st, rows, here, st', ok, h => by cases h; exact ⟨ok, by omega⟩
  | m + 1, st, rows, here, st', ok, h => looksL_ok (looks_ok m) ok h
theorem looksL_append {go : Stt → List Rw → Nat → Except Fault Stt} {here : Nat} : ∀ {a b : List Rw} {st : Stt}, looksL go here st (a ++ b) = match looksL go here st a with | .error f => .error f | .ok st' => looksL go here st' b
  | [], b, st => rfl
  | r :: a, b, st => by
    rw [List.cons_append, looksL, looksL]
    cases step go here st r with
    | error f => rfl
    | ok st1 => exact looksL_append
end SF
namespace SF
open PySem PySem.Spec PyProof.Rows L2 GK Evl LamX
variable {P : Program} {w : World} {K : PySem.W.Frag} {mg : Str → Option Value} {base : Heap}
def sp_BadCount_new (T : Txt K mg) : Sp := fun vs H Q _ => ∃ (a : Addr) (u v : V), vs = [.ref a, u, v] ∧ H a = some (exo a T.C_BadCount none) ∧ ∀ dx H2, Made H a T.C_BadCount dx [("count", v), ("what", u)] H2 → Q .non H2
theorem ok_BadCount_new (T : Txt K mg) : FnOk P w K mg base CX0 1 T.a_BadCount_new T.d_BadCount_new ["self", "what", "count"] (sp_BadCount_new T) := by
  refine T.F_BadCount_new.ok sc_BadCount_new (fun vs H Q E h => ?_) (fun cdv A outer s H vs Q E hr h => ?_)
  · obtain ⟨a, u, v, rfl, _⟩ := h
    rfl
  · obtain ⟨a, u, v, rfl, ha, q⟩ := h
    refine ⟨(tSeq (tOst K "what" (tVar 0) (tVar 1))
  (tOst K "count" (tVar 0) (tVar 2))),
(pss_cons (ps_ost (pv 0) (pv 1))
  (pss_one (ps_ost (pv 0) (pv 2)))), ?_⟩
    refine ⟨u, rfl, .ref a, rfl, a, T.C_BadCount, rfl, T.x_BadCount, T.nx_BadCount_what, .inl ⟨ha, fun dx h1 h2 => ?_⟩⟩
    refine ⟨v, rfl, .ref a, rfl, a, T.C_BadCount, rfl, T.x_BadCount, T.nx_BadCount_count, .inr ⟨dx, [("what", u)], upd_same, by rw [upd_ne h2, upd_same], by simp, q dx _ ⟨h1, h2, by rw [upd_ne (Ne.symm h2), upd_same], upd_same, fun b n1 n2 => by rw [upd_ne n2, upd_ne n1, upd_ne n2]⟩⟩⟩
def sp_NoName_new (T : Txt K mg) : Sp := fun vs H Q _ => ∃ (a : Addr) (u : V), vs = [.ref a, u] ∧ H a = some (exo a T.C_NoName none) ∧ ∀ dx H2, Made H a T.C_NoName dx [("name", u)] H2 → Q .non H2
theorem ok_NoName_new (T : Txt K mg) : FnOk P w K mg base CX0 1 T.a_NoName_new T.d_NoName_new ["self", "name"] (sp_NoName_new T) := by
  refine T.F_NoName_new.ok sc_NoName_new (fun vs H Q E h => ?_) (fun cdv A outer s H vs Q E hr h => ?_)
  · obtain ⟨a, u, rfl, _⟩ := h
    rfl
  · obtain ⟨a, u, rfl, ha, q⟩ := h
    refine ⟨(tOst K "name" (tVar 0) (tVar 1)),
(pss_one (ps_ost (pv 0) (pv 1))), ?_⟩
    exact ⟨u, rfl, .ref a, rfl, a, T.C_NoName, rfl, T.x_NoName, T.nx_NoName_name, .inl ⟨ha, fun dx h1 h2 => q dx _ ⟨h1, h2, upd_same, by rw [upd_ne h2, upd_same], fun b n1 n2 => by rw [upd_ne n1, upd_ne n2]⟩⟩⟩
def sp_Twice_new (T : Txt K mg) : Sp := fun vs H Q _ => ∃ (a : Addr) (u : V), vs = [.ref a, u] ∧ H a = some (exo a T.C_Twice none) ∧ ∀ dx H2, Made H a T.C_Twice dx [("name", u)] H2 → Q .non H2
theorem ok_Twice_new (T : Txt K mg) : FnOk P w K mg base CX0 1 T.a_Twice_new T.d_Twice_new ["self", "name"] (sp_Twice_new T) := by
  refine T.F_Twice_new.ok sc_Twice_new (fun vs H Q E h => ?_) (fun cdv A outer s H vs Q E hr h => ?_)
  · obtain ⟨a, u, rfl, _⟩ := h
    rfl
  · obtain ⟨a, u, rfl, ha, q⟩ := h
    refine ⟨(tOst K "name" (tVar 0) (tVar 1)),
(pss_one (ps_ost (pv 0) (pv 1))), ?_⟩
    exact ⟨u, rfl, .ref a, rfl, a, T.C_Twice, rfl, T.x_Twice, T.nx_Twice_name, .inl ⟨ha, fun dx h1 h2 => q dx _ ⟨h1, h2, upd_same, by rw [upd_ne h2, upd_same], fun b n1 n2 => by rw [upd_ne n1, upd_ne n2]⟩⟩⟩
def sp_NoQuestion_new (T : Txt K mg) : Sp := fun vs H Q _ => ∃ (a : Addr) (u : V), vs = [.ref a, u] ∧ H a = some (exo a T.C_NoQuestion none) ∧ ∀ dx H2, Made H a T.C_NoQuestion dx [("name", u)] H2 → Q .non H2
theorem ok_NoQuestion_new (T : Txt K mg) : FnOk P w K mg base CX0 1 T.a_NoQuestion_new T.d_NoQuestion_new ["self", "name"] (sp_NoQuestion_new T) := by
  refine T.F_NoQuestion_new.ok sc_NoQuestion_new (fun vs H Q E h => ?_) (fun cdv A outer s H vs Q E hr h => ?_)
  · obtain ⟨a, u, rfl, _⟩ := h
    rfl
  · obtain ⟨a, u, rfl, ha, q⟩ := h
    refine ⟨(tOst K "name" (tVar 0) (tVar 1)),
(pss_one (ps_ost (pv 0) (pv 1))), ?_⟩
    exact ⟨u, rfl, .ref a, rfl, a, T.C_NoQuestion, rfl, T.x_NoQuestion, T.nx_NoQuestion_name, .inl ⟨ha, fun dx h1 h2 => q dx _ ⟨h1, h2, upd_same, by rw [upd_ne h2, upd_same], fun b n1 n2 => by rw [upd_ne n1, upd_ne n2]⟩⟩⟩
def sp_NoFit_new (T : Txt K mg) : Sp := fun vs H Q _ => ∃ (a : Addr) (u : V), vs = [.ref a, u] ∧ H a = some (exo a T.C_NoFit none) ∧ ∀ dx H2, Made H a T.C_NoFit dx [("name", u)] H2 → Q .non H2
theorem ok_NoFit_new (T : Txt K mg) : FnOk P w K mg base CX0 1 T.a_NoFit_new T.d_NoFit_new ["self", "name"] (sp_NoFit_new T) := by
  refine T.F_NoFit_new.ok sc_NoFit_new (fun vs H Q E h => ?_) (fun cdv A outer s H vs Q E hr h => ?_)
  · obtain ⟨a, u, rfl, _⟩ := h
    rfl
  · obtain ⟨a, u, rfl, ha, q⟩ := h
    refine ⟨(tOst K "name" (tVar 0) (tVar 1)),
(pss_one (ps_ost (pv 0) (pv 1))), ?_⟩
    exact ⟨u, rfl, .ref a, rfl, a, T.C_NoFit, rfl, T.x_NoFit, T.nx_NoFit_name, .inl ⟨ha, fun dx h1 h2 => q dx _ ⟨h1, h2, upd_same, by rw [upd_ne h2, upd_same], fun b n1 n2 => by rw [upd_ne n1, upd_ne n2]⟩⟩⟩
end SF
namespace SF
open PySem PySem.Spec PyProof.Rows L2 GK Evl LamX
variable {P : Program} {w : World} {K : PySem.W.Frag} {mg : Str → Option Value} {base : Heap}
/-! ### is_name -/
theorem rv_inSg {H : Hp} {c : Nat} {z : Str} : RV rInSg (.str ⟨#[c]⟩) (.str z) H (.bl (decide (c ∈ z.cps.toList))) := fun H1 _ _ q => ⟨c, z, rfl, rfl, q H1 (Same.refl _)⟩
theorem rv_niSg {H : Hp} {c : Nat} {z : Str} : RV rNiSg (.str ⟨#[c]⟩) (.str z) H (.bl (!decide (c ∈ z.cps.toList))) := fun H1 _ _ q => ⟨c, z, rfl, rfl, q H1 (Same.refl _)⟩
theorem ev_lenT {σ : L2.St} {H : Hp} {ta : TE} {s : Str} (ha : Ev ta σ H (.str s)) (h : s.length ≤ 100000) : Ev (tCB gLenT (tCons ta tNil)) σ H (.int s.length) := fun H1 e Q q => ha H1 e _ fun H2 e2 => ⟨s, rfl, sz_of h, q H2 e2⟩
/-- a comprehension over the signs of a text -/
theorem el_lcT {σ : L2.St} {H : Hp} {ta te : TE} {s : Str} {vs : List Nat} {j : Nat} {F : Nat → V} (ha : Ev ta σ H (.str s)) (hz : s.length ≤ 90000) (hw : ∀ x, wipe ((wipe σ vs).set j (some x)) vs = wipe σ vs)
    (he : ∀ H1, Same H H1 → ∀ c ∈ s.cps.toList, Ev te ((wipe σ vs).set j (some (.str ⟨#[c]⟩))) H1 (F c)) : EvL (tLc (iStr ta) (gName j) tYes te vs) σ H (s.cps.toList.map F) := fun H0 e Q q =>
  ha H0 e _ fun H1 e1 => ⟨s, rfl, fun Dl hD => by
    refine lc_pure (walk_str (z := s)) (fun i x => ∃ c, s.cps[i]? = some c ∧ x = .str ⟨#[c]⟩) (fun i H x H' _ y => y) (fun _ _ => trivial) hD s.cps.toList (by simp) (by have : s.length = s.cps.size := rfl; omega) (fun _ => true) (fun c _ v => v = F c) (fun _ _ _ _ _ h => h) (fun i c x hc ⟨c', h1, h2⟩ => ?_) (fun ys H2 e2 hl pd => ?_)
    · subst h2
      have hc' : s.cps[i]? = some c := by simpa using hc
      rw [hc'] at h1
      cases h1
      exact el_en (hw _) (en_of (he H1 (Same.trans e e1) c (by have := List.mem_of_getElem? hc; exact this)))
    · rw [filter_yes] at pd
      rw [pd_eq (f := F) pd] at hl
      exact q Dl H2 (fresh_back e1 hD) (Same.trans e1 e2) hl⟩
def sp_is_name (T : Txt K mg) : Sp := fun vs H Q _ => ∃ s : Str, vs = [.str s] ∧ s.length ≤ 1000 ∧ ∀ H', Same H H' → Q (.bl (isName s)) H'
theorem ok_is_name (T : Txt K mg) : FnOk P w K mg base CX0 1 T.a_is_name T.d_is_name ["text"] (sp_is_name T) := by
  refine T.F_is_name.ok sc_is_name (fun vs H Q E h => ?_) (fun cdv A outer s H vs Q E hr h => ?_)
  · obtain ⟨z, rfl, _⟩ := h
    rfl
  · obtain ⟨z, rfl, hz, k⟩ := h
    refine ⟨(tSeq (tIfS (tOr (tNot (tTest (tChain (rI0 fun i j => .bl (decide (i ≤ j))) (rI0 fun i j => .bl (decide (i ≤ j))) (tC (.int 1)) (tCB gLenT (tCons (tVar 0) tNil)) (tC (.int 8))))) (tTest (tOp rNiSg (tOp rIxS (tVar 0) (tC (.int 0))) (tC (.str "abcdefghijklmnopqrstuvwxyz"))))) (tRet (tC (.bl false))) tNext)
  (tRet (tCB (rAll K) (tCons (tLc (iStr (tVar 0)) (gName 1) tYes (tOrV (tOp rInSg (tVar 1) (tC (.str "abcdefghijklmnopqrstuvwxyz"))) (tOp rInSg (tVar 1) (tC (.str "0123456789")))) [1]) tNil)))),
(pss_cons (ps_if (PW.pt (pw_or (pt_not (pt_chain op_le op_le pe_int (pe_callB call_lenT (by rfl) T.z_len (by decide +kernel) (pa_cons (pv 0) pa_nil)) (pe_glob (by rfl) T.k_LONGEST T.r_LONGEST))) (pw_or1 (pt_cmpR op_niSg (pe_ix ix_str (pv 0) pe_int (fun _ _ => rfl)) (pe_glob (by rfl) T.k_LETTERS T.r_LETTERS) (by rfl))))) (pss_one (ps_ret pe_bl)) pss_nil)
  (pss_one (ps_ret (pe_callB (cr_all rfl) (by rfl) T.z_all (by decide +kernel) (pa_cons (pe_lc (own := [("sign", 1)]) (g := (gName 1)) (tt := tYes) (te := (tOrV (tOp rInSg (tVar 1) (tC (.str "abcdefghijklmnopqrstuvwxyz"))) (tOp rInSg (tVar 1) (tC (.str "0123456789"))))) rfl sc_is_name.nd (pi_str (pv 0)) (blkOk_by (N := ["text", "sign"]) (sc := defScope s_is_name) (own := [("sign", 1)]) (by decide +kernel)) (fun _ _ _ _ _ => (pg_name (i := 1) sc_is_name.nd rfl (.inl rfl))) (fun _ _ _ _ _ => pts_nil) (fun _ _ _ _ _ => (pe_or (pe_cmpR op_inSg (pv 1) (pe_glob (by rfl) T.k_LETTERS T.r_LETTERS) (by rfl)) (pe_one (pe_cmpR op_inSg (pv 1) (pe_glob (by rfl) T.k_FIGURES T.r_FIGURES) (by rfl)))))) pa_nil))))), ?_⟩
    have ch := ev_chain (σ := [some (.str z), none]) (H := H) (p := fun i j => decide (i ≤ j)) (q := fun i j => decide (i ≤ j)) (ev_c (v := .int 1)) (ev_lenT (s := z) (ev_var (i := 0) rfl) (by omega)) (ev_c (v := .int 8))
    by_cases hl : (decide ((1 : Int) ≤ z.length) && decide ((z.length : Int) ≤ 8)) = true
    · have hne : ∃ c r, z.cps.toList = c :: r := by
        cases e : z.cps.toList with
        | nil =>
          have : z.length = 0 := by
            show z.cps.size = 0
            rw [← Array.length_toList, e]
            rfl
          rw [this] at hl
          simp at hl
        | cons c r => exact ⟨c, r, rfl⟩
      obtain ⟨c, r, ec⟩ := hne
      rw [hl] at ch
      have hl' : decide (1 ≤ z.length) = true ∧ decide (z.length ≤ 8) = true := by
        rw [Bool.and_eq_true] at hl
        have a := of_decide_eq_true hl.1
        have b := of_decide_eq_true hl.2
        exact ⟨decide_eq_true (by omega), decide_eq_true (by omega)⟩
      have hn : isName z = (decide (c ∈ letters) && z.cps.toList.all (fun c => decide (c ∈ letters) || decide (c ∈ figures))) := by
        unfold isName
        rw [hl'.1, hl'.2, ec]
        simp
      refine q_when (b := !decide (c ∈ letters)) (et_or (a := false) (et_not (a := true) (et_test ch)) (fun _ => et_test (ev_op (ev_op (ev_var (i := 0) rfl) ev_c (rv_ixS (w := z) (i := 0) (c := c) (by omega) (atI_nat (j := 0) (by rw [ec]; rfl)))) ev_c rv_niSg))) (fun hb H1 e1 => ?_) (fun hb H1 e1 => ?_)
      · refine s_ret ev_c fun H2 e2 => ?_
        have h3 : decide (c ∈ letters) = false := by simpa using hb
        rw [show (V.bl false) = .bl (isName z) by rw [hn, h3]; rfl]
        exact k H2 (Same.trans e1 e2)
      · have h3 : decide (c ∈ letters) = true := by simpa using hb
        refine s_ret (ev_allN (bs := z.cps.toList.map fun c => decide (c ∈ letters) || decide (c ∈ figures)) ?_) fun H2 e2 => ?_
        · rw [List.map_map]
          refine el_lcT (F := V.bl ∘ fun c => decide (c ∈ letters) || decide (c ∈ figures)) (ev_var rfl) (by omega) (fun x => rfl) fun H3 e3 c' _ => ?_
          have z1 := ev_op (r := rInSg) (σ := [some (.str z), some (.str ⟨#[c']⟩)]) (H := H3) (ev_var (i := 1) rfl) (ev_c (v := .str "abcdefghijklmnopqrstuvwxyz")) rv_inSg
          have z2 := ev_op (r := rInSg) (σ := [some (.str z), some (.str ⟨#[c']⟩)]) (H := H3) (ev_var (i := 1) rfl) (ev_c (v := .str "0123456789")) rv_inSg
          intro H4 e4 Q' q'
          refine z1 H4 e4 _ fun H5 e5 => ⟨_, rfl, ?_⟩
          change (if decide (c' ∈ letters) = true then _ else _)
          by_cases hb1 : c' ∈ letters
          · rw [if_pos (decide_eq_true hb1)]
            have : (V.bl ∘ fun c => decide (c ∈ letters) || decide (c ∈ figures)) c' = .bl true := by show V.bl (decide (c' ∈ letters) || _) = _; rw [decide_eq_true hb1]; rfl
            rw [this] at q'
            exact q' H5 e5
          · rw [if_neg (by rw [decide_eq_true_iff]; exact hb1)]
            have : (V.bl ∘ fun c => decide (c ∈ letters) || decide (c ∈ figures)) c' = .bl (decide (c' ∈ figures)) := by show V.bl (decide (c' ∈ letters) || _) = _; rw [decide_eq_false hb1]; rfl
            rw [this] at q'
            exact z2 H5 (Same.trans e4 e5) _ fun H6 e6 => q' H6 (Same.trans e5 e6)
        · have : (z.cps.toList.map fun c => decide (c ∈ letters) || decide (c ∈ figures)).all id = isName z := by rw [hn, h3, List.all_map]; rfl
          rw [this]
          exact k H2 (Same.trans e1 e2)
    · have hl : (decide ((1 : Int) ≤ z.length) && decide ((z.length : Int) ≤ 8)) = false := by simpa using hl
      rw [hl] at ch
      have hn : isName z = false := by
        unfold isName
        rw [Bool.and_eq_false_iff] at hl
        rcases hl with h | h
        · have := of_decide_eq_false h
          have : decide (1 ≤ z.length) = false := decide_eq_false (by omega)
          rw [this]
          simp
        · have := of_decide_eq_false h
          have : decide (z.length ≤ 8) = false := decide_eq_false (by omega)
          rw [this]
          simp
      refine q_when (b := true) (et_or (a := true) (b := false) (et_not (a := false) (et_test ch)) (fun z => by cases z)) (fun hb H1 e1 => ?_) (fun hb => by cases hb)
      exact s_ret ev_c fun H2 e2 => by rw [← hn]; exact k H2 (Same.trans e1 e2)
theorem v_is_name (T : Txt K mg) {H : Hp} {s : Str} (h : s.length ≤ 1000) : SpV (sp_is_name T) [.str s] H (.bl (isName s)) := fun H1 e Q q E => ⟨s, rfl, h, fun H' e' => q H' e'⟩
/-! ### asked_names, asked_once -/
def StrD : Hp → V → Str → Prop := fun _ v s => v = .str s
theorem up_str : Up StrD := fun _ _ _ _ _ h => h
theorem t_raise2 {σ : L2.St} {H : Hp} {ta tb : TE} {u v : V} {C : Addr} {E : XK} {D : Ends} {fs : List (Str × V)} {sp : Sp} (ha : Ev ta σ H u) (hb : Ev tb σ H v) (l : Lets H E C fs)
    (hsp : ∀ (a : Addr) (H1 : Hp) (Q : VK) (E' : XK), H1 a = some (exo a C none) → (∀ dx H2, Made H1 a C dx fs H2 → Q .non H2) → sp [.ref a, u, v] H1 Q E') : tRaiseO E (tMkO C sp [] (tCons ta (tCons tb tNil))) D σ H := by
  unfold tRaiseO tMkO
  refine (ea_cons ha (ea_cons hb ea_nil)) H (Same.refl _) _ fun H1 e1 => ⟨by show 2 ≤ 1000; decide, fun a na => hsp a _ _ _ upd_same fun dx H2 m => ⟨rfl, made_lets na m (l.up e1)⟩⟩
theorem t_raise1 {σ : L2.St} {H : Hp} {ta : TE} {u : V} {C : Addr} {E : XK} {D : Ends} {fs : List (Str × V)} {sp : Sp} (ha : Ev ta σ H u) (l : Lets H E C fs)
    (hsp : ∀ (a : Addr) (H1 : Hp) (Q : VK) (E' : XK), H1 a = some (exo a C none) → (∀ dx H2, Made H1 a C dx fs H2 → Q .non H2) → sp [.ref a, u] H1 Q E') : tRaiseO E (tMkO C sp [] (tCons ta tNil)) D σ H := by
  unfold tRaiseO tMkO
  refine (ea_cons ha ea_nil) H (Same.refl _) _ fun H1 e1 => ⟨by show 1 ≤ 1000; decide, fun a na => hsp a _ _ _ upd_same fun dx H2 m => ⟨rfl, made_lets na m (l.up e1)⟩⟩
theorem bad_at {ss : List Str} {i : Nat} {s : Str} (h : firstBad (ss.take i) = none) (hs : ss[i]? = some s) : (isName s = false → firstBad ss = some s) ∧ (isName s = true → firstBad (ss.take (i + 1)) = none) := by
  have tk : ss.take (i + 1) = ss.take i ++ [s] := by rw [List.take_succ, hs]; rfl
  unfold firstBad at h ⊢
  refine ⟨fun e => ?_, fun e => ?_⟩
  · have z : ss = ss.take i ++ s :: ss.drop (i + 1) := by
      have lt := (List.getElem?_eq_some_iff.mp hs)
      obtain ⟨lt, es⟩ := lt
      conv => lhs; rw [← List.take_append_drop i ss, List.drop_eq_getElem_cons lt, es]
    rw [z, List.find?_append, h, List.find?_cons_of_pos (by rw [e]; rfl)]
    rfl
  · rw [tk, List.find?_append, h, List.find?_cons_of_neg (by rw [e]; decide)]
    rfl
def sp_asked_names (T : Txt K mg) : Sp := fun vs H Q E => ∃ (v : V) (ss : List Str), vs = [v] ∧ QOf K StrD H v ss ∧ (∀ s ∈ ss, s.length ≤ 1000) ∧ (firstBad ss = none → ∀ H', Same H H' → Q .non H') ∧ (∀ s, firstBad ss = some s → Lets H E T.C_NoName [("name", .str s)])
theorem ok_asked_names (T : Txt K mg) : FnOk P w K mg base (L2.CX P w) 3 T.a_asked_names T.d_asked_names ["texts"] (sp_asked_names T) := by
  have G_is_name : FnOk P w K mg base CX0 1 T.a_is_name T.d_is_name ["text"] (sp_is_name T) := ok_is_name T
  have G_NoName_new : FnOk P w K mg base CX0 1 T.a_NoName_new T.d_NoName_new ["self", "name"] (sp_NoName_new T) := ok_NoName_new T
  refine funX_ok T.F_asked_names sc_asked_names (fun vs H Q E h => ?_) (fun cdv A outer s H vs Q E hr h => ?_)
  · obtain ⟨v, ss, rfl, _⟩ := h
    rfl
  · obtain ⟨v, ss, rfl, hv, hz, k1, k2⟩ := h
    refine ⟨(tFor (iSeq K (tVar 0)) (gName 1)
  (tIfS (tNot (tB (tCall (sp_is_name T) [] E0 (tCons (tVar 1) tNil)))) (tRaiseO E (tMkO T.C_NoName (sp_NoName_new T) [] (tCons (tVar 1) tNil))) tNext)),
(pss_one (ps_for (passes_of rfl) rfl (pi_seq (pv 0)) (pg_name (i := 1) sc_asked_names.nd rfl (.inl rfl))
  (pss_one (ps_if (pt_not (pt_val (pe_call (G_is_name.mono (by omega)) hr (by rfl) T.g_is_name T.F_is_name.kp T.b_is_name .nil pass0 (pa_cons (pv 1) pa_nil)))) (pss_one (ps_raiseE rfl (takes_of rfl rfl rfl rfl) (pmk_oex T.x_NoName T.i_NoName T.ti_NoName (G_NoName_new.mono (by omega)) hr T.b_NoName_new .nil pass0 rfl T.gx_NoName (pa_cons (pv 1) pa_nil)))) pss_nil)))), ?_⟩
    refine for_q (K := K) (α := Str) (S := StrD) (as := ss) up_str (ev_var rfl) hv (fun i σ' H' => Same H H' ∧ firstBad (ss.take i) = none ∧ ∃ y, σ' = [some v, y]) (fun H1 e => ⟨e, rfl, none, rfl⟩) (fun i σ' H' p => p.1) (fun i x z σ' H' hx hS p => ?_) (fun σ' H' p => ?_)
    · obtain ⟨e, fb, y, rfl⟩ := p
      obtain rfl : x = .str z := hS
      have hb := bad_at fb hx
      refine s_when (et_not (et_B (ev_call (ea_cons (ev_var (i := 1) rfl) ea_nil) (v_is_name T (hz z (List.mem_of_getElem? hx)))))) (fun b H1 e1 => ?_) (fun b H1 e1 => ?_)
      · exact t_raise1 (ev_var (i := 1) rfl) ((k2 z (hb.1 (by simpa using b))).up (Same.trans e e1)) fun a Ha Q' E' h1 h2 => ⟨a, _, rfl, h1, h2⟩
      · exact ⟨Same.trans e e1, hb.2 (by simpa using b), some (.str z), rfl⟩
    · obtain ⟨e, fb, y, rfl⟩ := p
      rw [List.take_length] at fb
      exact k1 fb H' e
theorem dup_pre : ∀ (xs ys seen : List Str) (s : Str), firstDup seen xs = some s → firstDup seen (xs ++ ys) = some s
  | [], _, _, _, h => by cases h
  | x :: xs, ys, seen, s, h => by
    rw [List.cons_append, firstDup]
    rw [firstDup] at h
    by_cases e : x ∈ seen
    · rw [if_pos e] at h ⊢; exact h
    · rw [if_neg e] at h ⊢; exact dup_pre xs ys _ s h
def seenK (ss : List Str) : List (Key × V) := ss.map fun s => (Sum.inr s, .bl true)
theorem seen_val {ss : List Str} {s : Str} : (valV (seenK ss) (Sum.inr s)).isSome = decide (s ∈ ss) := by
  rw [← valV_any]
  unfold seenK
  rw [List.any_map]
  rw [Bool.eq_iff_iff, List.any_eq_true]
  simp only [Function.comp, decide_eq_true_eq]
  constructor
  · rintro ⟨x, hx, e⟩
    rw [← Sum.inr.inj e]; exact hx
  · intro h
    exact ⟨s, h, rfl⟩
def sp_asked_once (T : Txt K mg) : Sp := fun vs H Q E => ∃ (v : V) (ss : List Str), vs = [v] ∧ QOf K StrD H v ss ∧ ss.length ≤ 1000 ∧ (firstDup [] ss = none → ∀ H', Same H H' → Q .non H') ∧ (∀ s, firstDup [] ss = some s → Lets H E T.C_Twice [("name", .str s)])
theorem ok_asked_once (T : Txt K mg) : FnOk P w K mg base (L2.CX P w) 3 T.a_asked_once T.d_asked_once ["names"] (sp_asked_once T) := by
  have G_Twice_new : FnOk P w K mg base CX0 1 T.a_Twice_new T.d_Twice_new ["self", "name"] (sp_Twice_new T) := ok_Twice_new T
  refine funX_ok T.F_asked_once sc_asked_once (fun vs H Q E h => ?_) (fun cdv A outer s H vs Q E hr h => ?_)
  · obtain ⟨v, ss, rfl, _⟩ := h
    rfl
  · obtain ⟨v, ss, rfl, hv, hz, k1, k2⟩ := h
    refine ⟨(tSeq (tAsg tDNewK (gName 1))
  (tFor (iSeq K (tVar 0)) (gName 2)
  (tSeq (tIfS (tB (tDIn (tVar 2) (tVar 1))) (tRaiseO E (tMkO T.C_Twice (sp_Twice_new T) [] (tCons (tVar 2) tNil))) tNext)
  (sDPut (tVar 1) (tVar 2) (tC (.bl true)))))),
(pss_cons (ps_set (i := 1) sc_asked_once.nd rfl (.inl rfl) pe_dnewK)
  (pss_one (ps_for (passes_of rfl) rfl (pi_seq (pv 0)) (pg_name (i := 2) sc_asked_once.nd rfl (.inl rfl))
  (pss_cons (ps_if (pt_cmp (pc_din (hu_of hr) (pv 2) (pv 1))) (pss_one (ps_raiseE rfl (takes_of rfl rfl rfl rfl) (pmk_oex T.x_Twice T.i_Twice T.ti_Twice (G_Twice_new.mono (by omega)) hr T.b_Twice_new .nil pass0 rfl T.gx_Twice (pa_cons (pv 2) pa_nil)))) pss_nil)
  (PSs.nox (pss_one (ps_dput (hu_of hr) (pv 1) (pv 2) pe_bl rfl))))))), ?_⟩
    refine q_set ?_
    intro d nd
    have s0 : Same H (upd H d (.dK [])) := same_new nd
    have hv0 : QOf K StrD (upd H d (.dK [])) v ss := by
      obtain ⟨a, xs, rfl, hq, hp⟩ := hv
      exact ⟨a, xs, rfl, hq.imp (sq_mono s0) (st_mono s0), hp⟩
    -- the names up to i stand once, and just they are seen
    have main : ∀ i, i ≤ ss.length → firstDup [] (ss.take i) = none → True := fun _ _ _ => trivial
    obtain ⟨a, xs, rfl, hq, hp⟩ := id hv
    let Pv : Nat → L2.St → Hp → Prop := fun i σ' H' => Same H H' ∧ firstDup [] (ss.take i) = none ∧ H' d = some (.dK (seenK (ss.take i))) ∧ ∃ y, σ' = [some (.ref a), some (.ref d), y]
    have turn : ∀ (i : Nat) x (z : Str) (σ' : L2.St) (H' : Hp), ss[i]? = some z → x = V.str z → Pv i σ' H' → ∀ (D : Ends), D.nx = Pv (i + 1) → (tSeq (tIfS (tB (tDIn (tVar 2) (tVar 1))) (tRaiseO E (tMkO T.C_Twice (sp_Twice_new T) [] (tCons (tVar 2) tNil))) tNext) (sDPut (tVar 1) (tVar 2) (tC (.bl true)))) D (σ'.set 2 (some x)) H' := by
      intro i x z σ' H' hx ex p D hD
      obtain ⟨e, fd, hd, y, rfl⟩ := p
      subst ex
      have tk : ss.take (i + 1) = ss.take i ++ [z] := by rw [List.take_succ, hx]; rfl
      have dg := DGet.k (k := (Sum.inr z : Key)) hd
      have da := dup_app (ss.take i) [] z fd
      rw [List.nil_append, ← tk] at da
      show tB _ _ _ _
      refine ⟨.str z, rfl, .ref d, rfl, d, _, rfl, dg, _, rfl, ?_⟩
      rw [seen_val]
      dsimp only
      by_cases hm : z ∈ ss.take i
      · rw [if_pos (decide_eq_true hm)]
        rw [if_pos hm] at da
        have z1 : firstDup [] ss = some z := by
          have := dup_pre _ (ss.drop (i + 1)) _ _ da
          rw [List.take_append_drop] at this
          exact this
        exact t_raise1 (ev_var (i := 2) rfl) ((k2 z z1).up e) fun a Ha Q' E' h1 h2 => ⟨a, _, rfl, h1, h2⟩
      · rw [if_neg (by rw [decide_eq_true_iff]; exact hm)]
        rw [if_neg hm] at da
        have lt := (List.getElem?_eq_some_iff.mp hx).1
        refine ⟨.ref d, rfl, .str z, rfl, d, _, rfl, DPut.k (k := (Sum.inr z : Key)) hd ?_, ?_⟩
        · unfold seenK
          rw [List.length_map, List.length_take]
          exact Nat.lt_of_le_of_lt (by omega : min i ss.length ≤ 1000) (by decide)
        · rw [hD]
          refine ⟨same_mut e nd, da, ?_, some (.str z), rfl⟩
          rw [upd_same, tk]
          congr 2
          unfold putK seenK
          rw [if_neg, List.map_append]
          · rfl
          · rw [valV_any]
            have := seen_val (ss := ss.take i) (s := z)
            unfold seenK at this
            rw [this, decide_eq_true_iff]
            exact hm
    have start : Pv 0 [some (.ref a), some (.ref d), none] (upd H d (.dK [])) := ⟨s0, rfl, upd_same, none, rfl⟩
    have fin : ∀ σ' H', Pv ss.length σ' H' → Q .non H' := fun σ' H' ⟨e, fd, _, _⟩ => by
      rw [List.take_length] at fd
      exact k1 fd H' e
    have hl : xs.length = ss.length := pd_len hp
    rcases hq with hq | hq
    · refine .inl ⟨.ref a, rfl, a, rfl, ⟨xs, sq_mono s0 hq⟩, for_list (xs := xs) Pv start (fun i σ' H' _ p => sq_mono p.1 hq) (fun i x σ' H' hx p => ?_) (fun σ' H' p => fin σ' H' (by rw [← hl]; exact p))⟩
      obtain ⟨z, h1, h2⟩ := pd_get hp hx
      exact turn i x z σ' H' h1 h2 p _ rfl
    · refine .inr ⟨.ref a, rfl, a, rfl, ⟨xs, st_mono s0 hq⟩, for_tup (xs := xs) Pv start (fun i σ' H' _ p => st_mono p.1 hq) (fun i x σ' H' hx p => ?_) (fun σ' H' p => fin σ' H' (by rw [← hl]; exact p))⟩
      obtain ⟨z, h1, h2⟩ := pd_get hp hx
      exact turn i x z σ' H' h1 h2 p _ rfl
end SF
namespace SF
open PySem PySem.Spec PyProof.Rows L2 GK Evl LamX
variable {P : Program} {w : World} {K : PySem.W.Frag} {mg : Str → Option Value} {base : Heap}
/-- an instance is made: its fields -/
structure Inst (H : Hp) (p C : Addr) (fs : List (Str × V)) (H2 : Hp) : Prop where
  obj : ∃ dx, H2 p = some (.ins C dx fs)
  keep : ∀ b o, H b = some o → b ≠ p → H2 b = some o
theorem lt_put {f : Str} {v : V} {fs : List (Str × V)} {n : Nat} (h : fs.length < n) : (putF f v fs).length < n + 1 := by
  have := length_putF f v fs
  omega
def sp_Is_new (T : Txt K mg) : Sp := fun vs H Q _ => ∃ (p dx : Addr) (v_name v_option : V), vs = [.ref p, v_name, v_option] ∧ H p = some (.ins T.C_Is dx []) ∧ ∀ H2, Inst H p T.C_Is [("name", v_name), ("option", v_option)] H2 → Q .non H2
theorem ok_Is_new (T : Txt K mg) : FnOk P w K mg base CX0 1 T.a_Is_new T.d_Is_new ["self", "name", "option"] (sp_Is_new T) := by
  refine T.F_Is_new.ok sc_Is_new (fun vs H Q E h => ?_) (fun cdv A outer s H vs Q E hr h => ?_)
  · obtain ⟨p, dx, v_name, v_option, rfl, _⟩ := h
    rfl
  · obtain ⟨p, dx, v_name, v_option, rfl, hp, k⟩ := h
    refine ⟨(tSeq (sFld K (tVar 0) (tVar 1) "name")
  (sFld K (tVar 0) (tVar 2) "option")),
(pss_cons (ps_fld (pv 0) (pv 1) rfl)
  (pss_one (ps_fld (pv 0) (pv 2) rfl))), ?_⟩
    refine q_fld (ev_var rfl) (ev_var rfl) hp T.cl_Is T.n_Is_name (by show 0 < 1000; decide) fun H1 e1 => ?_
    generalize hK1 : upd H1 p (.ins T.C_Is dx (putF "name" v_name [])) = K1
    have p1 : K1 p = some (.ins T.C_Is dx (putF "name" v_name [])) := by rw [← hK1]; exact upd_same
    have k1 : ∀ b o, H b = some o → b ≠ p → K1 b = some o := fun b o h n => by rw [← hK1, upd_ne n]; exact e1 _ _ h
    refine s_fld (ev_var rfl) (ev_var rfl) p1 T.cl_Is T.n_Is_option (lt_put (n := 999) (by show 0 < 999; decide)) fun H2 e2 => ?_
    generalize hK2 : upd H2 p (.ins T.C_Is dx (putF "option" v_option (putF "name" v_name []))) = K2
    have p2 : K2 p = some (.ins T.C_Is dx (putF "option" v_option (putF "name" v_name []))) := by rw [← hK2]; exact upd_same
    have k2 : ∀ b o, H b = some o → b ≠ p → K2 b = some o := fun b o h n => by rw [← hK2, upd_ne n]; exact e2 _ _ (k1 b o h n)
    exact k _ ⟨⟨dx, p2⟩, k2⟩
def sp_Has_new (T : Txt K mg) : Sp := fun vs H Q _ => ∃ (p dx : Addr) (v_name v_option : V), vs = [.ref p, v_name, v_option] ∧ H p = some (.ins T.C_Has dx []) ∧ ∀ H2, Inst H p T.C_Has [("name", v_name), ("option", v_option)] H2 → Q .non H2
theorem ok_Has_new (T : Txt K mg) : FnOk P w K mg base CX0 1 T.a_Has_new T.d_Has_new ["self", "name", "option"] (sp_Has_new T) := by
  refine T.F_Has_new.ok sc_Has_new (fun vs H Q E h => ?_) (fun cdv A outer s H vs Q E hr h => ?_)
  · obtain ⟨p, dx, v_name, v_option, rfl, _⟩ := h
    rfl
  · obtain ⟨p, dx, v_name, v_option, rfl, hp, k⟩ := h
    refine ⟨(tSeq (sFld K (tVar 0) (tVar 1) "name")
  (sFld K (tVar 0) (tVar 2) "option")),
(pss_cons (ps_fld (pv 0) (pv 1) rfl)
  (pss_one (ps_fld (pv 0) (pv 2) rfl))), ?_⟩
    refine q_fld (ev_var rfl) (ev_var rfl) hp T.cl_Has T.n_Has_name (by show 0 < 1000; decide) fun H1 e1 => ?_
    generalize hK1 : upd H1 p (.ins T.C_Has dx (putF "name" v_name [])) = K1
    have p1 : K1 p = some (.ins T.C_Has dx (putF "name" v_name [])) := by rw [← hK1]; exact upd_same
    have k1 : ∀ b o, H b = some o → b ≠ p → K1 b = some o := fun b o h n => by rw [← hK1, upd_ne n]; exact e1 _ _ h
    refine s_fld (ev_var rfl) (ev_var rfl) p1 T.cl_Has T.n_Has_option (lt_put (n := 999) (by show 0 < 999; decide)) fun H2 e2 => ?_
    generalize hK2 : upd H2 p (.ins T.C_Has dx (putF "option" v_option (putF "name" v_name []))) = K2
    have p2 : K2 p = some (.ins T.C_Has dx (putF "option" v_option (putF "name" v_name []))) := by rw [← hK2]; exact upd_same
    have k2 : ∀ b o, H b = some o → b ≠ p → K2 b = some o := fun b o h n => by rw [← hK2, upd_ne n]; exact e2 _ _ (k1 b o h n)
    exact k _ ⟨⟨dx, p2⟩, k2⟩
def sp_Above_new (T : Txt K mg) : Sp := fun vs H Q _ => ∃ (p dx : Addr) (v_name v_number : V), vs = [.ref p, v_name, v_number] ∧ H p = some (.ins T.C_Above dx []) ∧ ∀ H2, Inst H p T.C_Above [("name", v_name), ("number", v_number)] H2 → Q .non H2
theorem ok_Above_new (T : Txt K mg) : FnOk P w K mg base CX0 1 T.a_Above_new T.d_Above_new ["self", "name", "number"] (sp_Above_new T) := by
  refine T.F_Above_new.ok sc_Above_new (fun vs H Q E h => ?_) (fun cdv A outer s H vs Q E hr h => ?_)
  · obtain ⟨p, dx, v_name, v_number, rfl, _⟩ := h
    rfl
  · obtain ⟨p, dx, v_name, v_number, rfl, hp, k⟩ := h
    refine ⟨(tSeq (sFld K (tVar 0) (tVar 1) "name")
  (sFld K (tVar 0) (tVar 2) "number")),
(pss_cons (ps_fld (pv 0) (pv 1) rfl)
  (pss_one (ps_fld (pv 0) (pv 2) rfl))), ?_⟩
    refine q_fld (ev_var rfl) (ev_var rfl) hp T.cl_Above T.n_Above_name (by show 0 < 1000; decide) fun H1 e1 => ?_
    generalize hK1 : upd H1 p (.ins T.C_Above dx (putF "name" v_name [])) = K1
    have p1 : K1 p = some (.ins T.C_Above dx (putF "name" v_name [])) := by rw [← hK1]; exact upd_same
    have k1 : ∀ b o, H b = some o → b ≠ p → K1 b = some o := fun b o h n => by rw [← hK1, upd_ne n]; exact e1 _ _ h
    refine s_fld (ev_var rfl) (ev_var rfl) p1 T.cl_Above T.n_Above_number (lt_put (n := 999) (by show 0 < 999; decide)) fun H2 e2 => ?_
    generalize hK2 : upd H2 p (.ins T.C_Above dx (putF "number" v_number (putF "name" v_name []))) = K2
    have p2 : K2 p = some (.ins T.C_Above dx (putF "number" v_number (putF "name" v_name []))) := by rw [← hK2]; exact upd_same
    have k2 : ∀ b o, H b = some o → b ≠ p → K2 b = some o := fun b o h n => by rw [← hK2, upd_ne n]; exact e2 _ _ (k1 b o h n)
    exact k _ ⟨⟨dx, p2⟩, k2⟩
def sp_Below_new (T : Txt K mg) : Sp := fun vs H Q _ => ∃ (p dx : Addr) (v_name v_number : V), vs = [.ref p, v_name, v_number] ∧ H p = some (.ins T.C_Below dx []) ∧ ∀ H2, Inst H p T.C_Below [("name", v_name), ("number", v_number)] H2 → Q .non H2
theorem ok_Below_new (T : Txt K mg) : FnOk P w K mg base CX0 1 T.a_Below_new T.d_Below_new ["self", "name", "number"] (sp_Below_new T) := by
  refine T.F_Below_new.ok sc_Below_new (fun vs H Q E h => ?_) (fun cdv A outer s H vs Q E hr h => ?_)
  · obtain ⟨p, dx, v_name, v_number, rfl, _⟩ := h
    rfl
  · obtain ⟨p, dx, v_name, v_number, rfl, hp, k⟩ := h
    refine ⟨(tSeq (sFld K (tVar 0) (tVar 1) "name")
  (sFld K (tVar 0) (tVar 2) "number")),
(pss_cons (ps_fld (pv 0) (pv 1) rfl)
  (pss_one (ps_fld (pv 0) (pv 2) rfl))), ?_⟩
    refine q_fld (ev_var rfl) (ev_var rfl) hp T.cl_Below T.n_Below_name (by show 0 < 1000; decide) fun H1 e1 => ?_
    generalize hK1 : upd H1 p (.ins T.C_Below dx (putF "name" v_name [])) = K1
    have p1 : K1 p = some (.ins T.C_Below dx (putF "name" v_name [])) := by rw [← hK1]; exact upd_same
    have k1 : ∀ b o, H b = some o → b ≠ p → K1 b = some o := fun b o h n => by rw [← hK1, upd_ne n]; exact e1 _ _ h
    refine s_fld (ev_var rfl) (ev_var rfl) p1 T.cl_Below T.n_Below_number (lt_put (n := 999) (by show 0 < 999; decide)) fun H2 e2 => ?_
    generalize hK2 : upd H2 p (.ins T.C_Below dx (putF "number" v_number (putF "name" v_name []))) = K2
    have p2 : K2 p = some (.ins T.C_Below dx (putF "number" v_number (putF "name" v_name []))) := by rw [← hK2]; exact upd_same
    have k2 : ∀ b o, H b = some o → b ≠ p → K2 b = some o := fun b o h n => by rw [← hK2, upd_ne n]; exact e2 _ _ (k1 b o h n)
    exact k _ ⟨⟨dx, p2⟩, k2⟩
def sp_Not_new (T : Txt K mg) : Sp := fun vs H Q _ => ∃ (p dx : Addr) (v_inner : V), vs = [.ref p, v_inner] ∧ H p = some (.ins T.C_Not dx []) ∧ ∀ H2, Inst H p T.C_Not [("inner", v_inner)] H2 → Q .non H2
theorem ok_Not_new (T : Txt K mg) : FnOk P w K mg base CX0 1 T.a_Not_new T.d_Not_new ["self", "inner"] (sp_Not_new T) := by
  refine T.F_Not_new.ok sc_Not_new (fun vs H Q E h => ?_) (fun cdv A outer s H vs Q E hr h => ?_)
  · obtain ⟨p, dx, v_inner, rfl, _⟩ := h
    rfl
  · obtain ⟨p, dx, v_inner, rfl, hp, k⟩ := h
    refine ⟨(sFld K (tVar 0) (tVar 1) "inner"),
(pss_one (ps_fld (pv 0) (pv 1) rfl)), ?_⟩
    refine s_fld (ev_var rfl) (ev_var rfl) hp T.cl_Not T.n_Not_inner (by show 0 < 1000; decide) fun H1 e1 => ?_
    generalize hK1 : upd H1 p (.ins T.C_Not dx (putF "inner" v_inner [])) = K1
    have p1 : K1 p = some (.ins T.C_Not dx (putF "inner" v_inner [])) := by rw [← hK1]; exact upd_same
    have k1 : ∀ b o, H b = some o → b ≠ p → K1 b = some o := fun b o h n => by rw [← hK1, upd_ne n]; exact e1 _ _ h
    exact k _ ⟨⟨dx, p1⟩, k1⟩
def sp_Both_new (T : Txt K mg) : Sp := fun vs H Q _ => ∃ (p dx : Addr) (v_left v_right : V), vs = [.ref p, v_left, v_right] ∧ H p = some (.ins T.C_Both dx []) ∧ ∀ H2, Inst H p T.C_Both [("left", v_left), ("right", v_right)] H2 → Q .non H2
theorem ok_Both_new (T : Txt K mg) : FnOk P w K mg base CX0 1 T.a_Both_new T.d_Both_new ["self", "left", "right"] (sp_Both_new T) := by
  refine T.F_Both_new.ok sc_Both_new (fun vs H Q E h => ?_) (fun cdv A outer s H vs Q E hr h => ?_)
  · obtain ⟨p, dx, v_left, v_right, rfl, _⟩ := h
    rfl
  · obtain ⟨p, dx, v_left, v_right, rfl, hp, k⟩ := h
    refine ⟨(tSeq (sFld K (tVar 0) (tVar 1) "left")
  (sFld K (tVar 0) (tVar 2) "right")),
(pss_cons (ps_fld (pv 0) (pv 1) rfl)
  (pss_one (ps_fld (pv 0) (pv 2) rfl))), ?_⟩
    refine q_fld (ev_var rfl) (ev_var rfl) hp T.cl_Both T.n_Both_left (by show 0 < 1000; decide) fun H1 e1 => ?_
    generalize hK1 : upd H1 p (.ins T.C_Both dx (putF "left" v_left [])) = K1
    have p1 : K1 p = some (.ins T.C_Both dx (putF "left" v_left [])) := by rw [← hK1]; exact upd_same
    have k1 : ∀ b o, H b = some o → b ≠ p → K1 b = some o := fun b o h n => by rw [← hK1, upd_ne n]; exact e1 _ _ h
    refine s_fld (ev_var rfl) (ev_var rfl) p1 T.cl_Both T.n_Both_right (lt_put (n := 999) (by show 0 < 999; decide)) fun H2 e2 => ?_
    generalize hK2 : upd H2 p (.ins T.C_Both dx (putF "right" v_right (putF "left" v_left []))) = K2
    have p2 : K2 p = some (.ins T.C_Both dx (putF "right" v_right (putF "left" v_left []))) := by rw [← hK2]; exact upd_same
    have k2 : ∀ b o, H b = some o → b ≠ p → K2 b = some o := fun b o h n => by rw [← hK2, upd_ne n]; exact e2 _ _ (k1 b o h n)
    exact k _ ⟨⟨dx, p2⟩, k2⟩
def sp_Either_new (T : Txt K mg) : Sp := fun vs H Q _ => ∃ (p dx : Addr) (v_left v_right : V), vs = [.ref p, v_left, v_right] ∧ H p = some (.ins T.C_Either dx []) ∧ ∀ H2, Inst H p T.C_Either [("left", v_left), ("right", v_right)] H2 → Q .non H2
theorem ok_Either_new (T : Txt K mg) : FnOk P w K mg base CX0 1 T.a_Either_new T.d_Either_new ["self", "left", "right"] (sp_Either_new T) := by
  refine T.F_Either_new.ok sc_Either_new (fun vs H Q E h => ?_) (fun cdv A outer s H vs Q E hr h => ?_)
  · obtain ⟨p, dx, v_left, v_right, rfl, _⟩ := h
    rfl
  · obtain ⟨p, dx, v_left, v_right, rfl, hp, k⟩ := h
    refine ⟨(tSeq (sFld K (tVar 0) (tVar 1) "left")
  (sFld K (tVar 0) (tVar 2) "right")),
(pss_cons (ps_fld (pv 0) (pv 1) rfl)
  (pss_one (ps_fld (pv 0) (pv 2) rfl))), ?_⟩
    refine q_fld (ev_var rfl) (ev_var rfl) hp T.cl_Either T.n_Either_left (by show 0 < 1000; decide) fun H1 e1 => ?_
    generalize hK1 : upd H1 p (.ins T.C_Either dx (putF "left" v_left [])) = K1
    have p1 : K1 p = some (.ins T.C_Either dx (putF "left" v_left [])) := by rw [← hK1]; exact upd_same
    have k1 : ∀ b o, H b = some o → b ≠ p → K1 b = some o := fun b o h n => by rw [← hK1, upd_ne n]; exact e1 _ _ h
    refine s_fld (ev_var rfl) (ev_var rfl) p1 T.cl_Either T.n_Either_right (lt_put (n := 999) (by show 0 < 999; decide)) fun H2 e2 => ?_
    generalize hK2 : upd H2 p (.ins T.C_Either dx (putF "right" v_right (putF "left" v_left []))) = K2
    have p2 : K2 p = some (.ins T.C_Either dx (putF "right" v_right (putF "left" v_left []))) := by rw [← hK2]; exact upd_same
    have k2 : ∀ b o, H b = some o → b ≠ p → K2 b = some o := fun b o h n => by rw [← hK2, upd_ne n]; exact e2 _ _ (k1 b o h n)
    exact k _ ⟨⟨dx, p2⟩, k2⟩
def sp_One_new (T : Txt K mg) : Sp := fun vs H Q _ => ∃ (p dx : Addr) (v_name v_options v_where : V) (q : Addr) (us : List V), vs = [.ref p, v_name, v_options, v_where] ∧ H p = some (.ins T.C_One dx []) ∧ v_options = .ref q ∧ SqL K (off p H) q us ∧ ∀ t H2, H t = none → Inst H p T.C_One [("name", v_name), ("options", .ref t), ("where", v_where)] H2 → H2 t = some (.tup us) → Q .non H2
theorem ok_One_new (T : Txt K mg) : FnOk P w K mg base CX0 1 T.a_One_new T.d_One_new ["self", "name", "options", "where"] (sp_One_new T) := by
  refine T.F_One_new.ok sc_One_new (fun vs H Q E h => ?_) (fun cdv A outer s H vs Q E hr h => ?_)
  · obtain ⟨p, dx, v_name, v_options, v_where, q, us, rfl, _⟩ := h
    rfl
  · obtain ⟨p, dx, v_name, v_options, v_where, q, us, rfl, hp, rfl, hq, k⟩ := h
    refine ⟨(tSeq (sFld K (tVar 0) (tVar 1) "name")
  (tSeq (sFld K (tVar 0) (tCB (gTupOf K) (tCons (tVar 2) tNil)) "options")
  (sFld K (tVar 0) (tVar 3) "where"))),
(pss_cons (ps_fld (pv 0) (pv 1) rfl)
  (pss_cons (ps_fld (pv 0) (pe_callTy call_tuple_of (by rfl) T.z_tuple (by decide +kernel) (pa_cons (pv 2) pa_nil)) rfl)
  (pss_one (ps_fld (pv 0) (pv 3) rfl)))), ?_⟩
    refine q_fld (ev_var rfl) (ev_var rfl) hp T.cl_One T.n_One_name (by show 0 < 1000; decide) fun H1 e1 => ?_
    generalize hK1 : upd H1 p (.ins T.C_One dx (putF "name" v_name [])) = K1
    have p1 : K1 p = some (.ins T.C_One dx (putF "name" v_name [])) := by rw [← hK1]; exact upd_same
    have k1 : ∀ b o, H b = some o → b ≠ p → K1 b = some o := fun b o h n => by rw [← hK1, upd_ne n]; exact e1 _ _ h
    have sm : Same (off p H) K1 := fun b o h => k1 b o (off_some.mp h).2 (off_some.mp h).1
    have fr : ∀ b, K1 b = none → H b = none := fun b hb => by
      cases z : H b with
      | none => rfl
      | some o =>
        by_cases e : b = p
        · rw [e, p1] at hb; cases hb
        · rw [k1 b o z e] at hb; cases hb
    refine q_fldT ⟨.ref q, rfl, q, us, rfl, .inl ⟨sq_mono sm hq, fun t nt => ⟨.ref p, rfl, p, T.C_One, dx, _, rfl, by rw [upd_ne (ne_of_none p1 nt)]; exact p1, T.cl_One, T.n_One_options, (lt_put (n := 999) (by show 0 < 999; decide)), ?_⟩⟩⟩
    have e2 : Same K1 (upd K1 t (.tup us)) := same_new nt
    have at_t : (upd K1 t (.tup us)) t = some (.tup us) := upd_same
    have ntp : t ≠ p := (ne_of_none p1 nt).symm
    have nt0 : H t = none := fr t nt
    generalize hK2 : upd (upd K1 t (.tup us)) p (.ins T.C_One dx (putF "options" (.ref t) (putF "name" v_name []))) = K2
    have p2 : K2 p = some (.ins T.C_One dx (putF "options" (.ref t) (putF "name" v_name []))) := by rw [← hK2]; exact upd_same
    have k2 : ∀ b o, H b = some o → b ≠ p → K2 b = some o := fun b o h n => by rw [← hK2, upd_ne n]; exact e2 _ _ (k1 b o h n)
    have t2 : K2 t = some (.tup us) := by rw [← hK2, upd_ne ntp]; exact at_t
    refine s_fld (ev_var rfl) (ev_var rfl) p2 T.cl_One T.n_One_where (lt_put (n := 999) (lt_put (n := 998) (by show 0 < 998; decide))) fun H3 e3 => ?_
    generalize hK3 : upd H3 p (.ins T.C_One dx (putF "where" v_where (putF "options" (.ref t) (putF "name" v_name [])))) = K3
    have p3 : K3 p = some (.ins T.C_One dx (putF "where" v_where (putF "options" (.ref t) (putF "name" v_name [])))) := by rw [← hK3]; exact upd_same
    have k3 : ∀ b o, H b = some o → b ≠ p → K3 b = some o := fun b o h n => by rw [← hK3, upd_ne n]; exact e3 _ _ (k2 b o h n)
    have t3 : K3 t = some (.tup us) := by rw [← hK3, upd_ne ntp]; exact e3 _ _ t2
    exact k t _ nt0 ⟨⟨dx, p3⟩, k3⟩ t3
def sp_Some_new (T : Txt K mg) : Sp := fun vs H Q _ => ∃ (p dx : Addr) (v_name v_options v_where : V) (q : Addr) (us : List V), vs = [.ref p, v_name, v_options, v_where] ∧ H p = some (.ins T.C_Some dx []) ∧ v_options = .ref q ∧ SqL K (off p H) q us ∧ ∀ t H2, H t = none → Inst H p T.C_Some [("name", v_name), ("options", .ref t), ("where", v_where)] H2 → H2 t = some (.tup us) → Q .non H2
theorem ok_Some_new (T : Txt K mg) : FnOk P w K mg base CX0 1 T.a_Some_new T.d_Some_new ["self", "name", "options", "where"] (sp_Some_new T) := by
  refine T.F_Some_new.ok sc_Some_new (fun vs H Q E h => ?_) (fun cdv A outer s H vs Q E hr h => ?_)
  · obtain ⟨p, dx, v_name, v_options, v_where, q, us, rfl, _⟩ := h
    rfl
  · obtain ⟨p, dx, v_name, v_options, v_where, q, us, rfl, hp, rfl, hq, k⟩ := h
    refine ⟨(tSeq (sFld K (tVar 0) (tVar 1) "name")
  (tSeq (sFld K (tVar 0) (tCB (gTupOf K) (tCons (tVar 2) tNil)) "options")
  (sFld K (tVar 0) (tVar 3) "where"))),
(pss_cons (ps_fld (pv 0) (pv 1) rfl)
  (pss_cons (ps_fld (pv 0) (pe_callTy call_tuple_of (by rfl) T.z_tuple (by decide +kernel) (pa_cons (pv 2) pa_nil)) rfl)
  (pss_one (ps_fld (pv 0) (pv 3) rfl)))), ?_⟩
    refine q_fld (ev_var rfl) (ev_var rfl) hp T.cl_Some T.n_Some_name (by show 0 < 1000; decide) fun H1 e1 => ?_
    generalize hK1 : upd H1 p (.ins T.C_Some dx (putF "name" v_name [])) = K1
    have p1 : K1 p = some (.ins T.C_Some dx (putF "name" v_name [])) := by rw [← hK1]; exact upd_same
    have k1 : ∀ b o, H b = some o → b ≠ p → K1 b = some o := fun b o h n => by rw [← hK1, upd_ne n]; exact e1 _ _ h
    have sm : Same (off p H) K1 := fun b o h => k1 b o (off_some.mp h).2 (off_some.mp h).1
    have fr : ∀ b, K1 b = none → H b = none := fun b hb => by
      cases z : H b with
      | none => rfl
      | some o =>
        by_cases e : b = p
        · rw [e, p1] at hb; cases hb
        · rw [k1 b o z e] at hb; cases hb
    refine q_fldT ⟨.ref q, rfl, q, us, rfl, .inl ⟨sq_mono sm hq, fun t nt => ⟨.ref p, rfl, p, T.C_Some, dx, _, rfl, by rw [upd_ne (ne_of_none p1 nt)]; exact p1, T.cl_Some, T.n_Some_options, (lt_put (n := 999) (by show 0 < 999; decide)), ?_⟩⟩⟩
    have e2 : Same K1 (upd K1 t (.tup us)) := same_new nt
    have at_t : (upd K1 t (.tup us)) t = some (.tup us) := upd_same
    have ntp : t ≠ p := (ne_of_none p1 nt).symm
    have nt0 : H t = none := fr t nt
    generalize hK2 : upd (upd K1 t (.tup us)) p (.ins T.C_Some dx (putF "options" (.ref t) (putF "name" v_name []))) = K2
    have p2 : K2 p = some (.ins T.C_Some dx (putF "options" (.ref t) (putF "name" v_name []))) := by rw [← hK2]; exact upd_same
    have k2 : ∀ b o, H b = some o → b ≠ p → K2 b = some o := fun b o h n => by rw [← hK2, upd_ne n]; exact e2 _ _ (k1 b o h n)
    have t2 : K2 t = some (.tup us) := by rw [← hK2, upd_ne ntp]; exact at_t
    refine s_fld (ev_var rfl) (ev_var rfl) p2 T.cl_Some T.n_Some_where (lt_put (n := 999) (lt_put (n := 998) (by show 0 < 998; decide))) fun H3 e3 => ?_
    generalize hK3 : upd H3 p (.ins T.C_Some dx (putF "where" v_where (putF "options" (.ref t) (putF "name" v_name [])))) = K3
    have p3 : K3 p = some (.ins T.C_Some dx (putF "where" v_where (putF "options" (.ref t) (putF "name" v_name [])))) := by rw [← hK3]; exact upd_same
    have k3 : ∀ b o, H b = some o → b ≠ p → K3 b = some o := fun b o h n => by rw [← hK3, upd_ne n]; exact e3 _ _ (k2 b o h n)
    have t3 : K3 t = some (.tup us) := by rw [← hK3, upd_ne ntp]; exact e3 _ _ t2
    exact k t _ nt0 ⟨⟨dx, p3⟩, k3⟩ t3
def sp_Number_new (T : Txt K mg) : Sp := fun vs H Q _ => ∃ (p dx : Addr) (v_name v_low v_high v_where : V), vs = [.ref p, v_name, v_low, v_high, v_where] ∧ H p = some (.ins T.C_Number dx []) ∧ ∀ H2, Inst H p T.C_Number [("name", v_name), ("low", v_low), ("high", v_high), ("where", v_where)] H2 → Q .non H2
theorem ok_Number_new (T : Txt K mg) : FnOk P w K mg base CX0 1 T.a_Number_new T.d_Number_new ["self", "name", "low", "high", "where"] (sp_Number_new T) := by
  refine T.F_Number_new.ok sc_Number_new (fun vs H Q E h => ?_) (fun cdv A outer s H vs Q E hr h => ?_)
  · obtain ⟨p, dx, v_name, v_low, v_high, v_where, rfl, _⟩ := h
    rfl
  · obtain ⟨p, dx, v_name, v_low, v_high, v_where, rfl, hp, k⟩ := h
    refine ⟨(tSeq (sFld K (tVar 0) (tVar 1) "name")
  (tSeq (sFld K (tVar 0) (tVar 2) "low")
  (tSeq (sFld K (tVar 0) (tVar 3) "high")
  (sFld K (tVar 0) (tVar 4) "where")))),
(pss_cons (ps_fld (pv 0) (pv 1) rfl)
  (pss_cons (ps_fld (pv 0) (pv 2) rfl)
  (pss_cons (ps_fld (pv 0) (pv 3) rfl)
  (pss_one (ps_fld (pv 0) (pv 4) rfl))))), ?_⟩
    refine q_fld (ev_var rfl) (ev_var rfl) hp T.cl_Number T.n_Number_name (by show 0 < 1000; decide) fun H1 e1 => ?_
    generalize hK1 : upd H1 p (.ins T.C_Number dx (putF "name" v_name [])) = K1
    have p1 : K1 p = some (.ins T.C_Number dx (putF "name" v_name [])) := by rw [← hK1]; exact upd_same
    have k1 : ∀ b o, H b = some o → b ≠ p → K1 b = some o := fun b o h n => by rw [← hK1, upd_ne n]; exact e1 _ _ h
    refine q_fld (ev_var rfl) (ev_var rfl) p1 T.cl_Number T.n_Number_low (lt_put (n := 999) (by show 0 < 999; decide)) fun H2 e2 => ?_
    generalize hK2 : upd H2 p (.ins T.C_Number dx (putF "low" v_low (putF "name" v_name []))) = K2
    have p2 : K2 p = some (.ins T.C_Number dx (putF "low" v_low (putF "name" v_name []))) := by rw [← hK2]; exact upd_same
    have k2 : ∀ b o, H b = some o → b ≠ p → K2 b = some o := fun b o h n => by rw [← hK2, upd_ne n]; exact e2 _ _ (k1 b o h n)
    refine q_fld (ev_var rfl) (ev_var rfl) p2 T.cl_Number T.n_Number_high (lt_put (n := 999) (lt_put (n := 998) (by show 0 < 998; decide))) fun H3 e3 => ?_
    generalize hK3 : upd H3 p (.ins T.C_Number dx (putF "high" v_high (putF "low" v_low (putF "name" v_name [])))) = K3
    have p3 : K3 p = some (.ins T.C_Number dx (putF "high" v_high (putF "low" v_low (putF "name" v_name [])))) := by rw [← hK3]; exact upd_same
    have k3 : ∀ b o, H b = some o → b ≠ p → K3 b = some o := fun b o h n => by rw [← hK3, upd_ne n]; exact e3 _ _ (k2 b o h n)
    refine s_fld (ev_var rfl) (ev_var rfl) p3 T.cl_Number T.n_Number_where (lt_put (n := 999) (lt_put (n := 998) (lt_put (n := 997) (by show 0 < 997; decide)))) fun H4 e4 => ?_
    generalize hK4 : upd H4 p (.ins T.C_Number dx (putF "where" v_where (putF "high" v_high (putF "low" v_low (putF "name" v_name []))))) = K4
    have p4 : K4 p = some (.ins T.C_Number dx (putF "where" v_where (putF "high" v_high (putF "low" v_low (putF "name" v_name []))))) := by rw [← hK4]; exact upd_same
    have k4 : ∀ b o, H b = some o → b ≠ p → K4 b = some o := fun b o h n => by rw [← hK4, upd_ne n]; exact e4 _ _ (k3 b o h n)
    exact k _ ⟨⟨dx, p4⟩, k4⟩
def sp_Check_new (T : Txt K mg) : Sp := fun vs H Q _ => ∃ (p dx : Addr) (v_name v_must v_where : V), vs = [.ref p, v_name, v_must, v_where] ∧ H p = some (.ins T.C_Check dx []) ∧ ∀ H2, Inst H p T.C_Check [("name", v_name), ("must", v_must), ("where", v_where)] H2 → Q .non H2
theorem ok_Check_new (T : Txt K mg) : FnOk P w K mg base CX0 1 T.a_Check_new T.d_Check_new ["self", "name", "must", "where"] (sp_Check_new T) := by
  refine T.F_Check_new.ok sc_Check_new (fun vs H Q E h => ?_) (fun cdv A outer s H vs Q E hr h => ?_)
  · obtain ⟨p, dx, v_name, v_must, v_where, rfl, _⟩ := h
    rfl
  · obtain ⟨p, dx, v_name, v_must, v_where, rfl, hp, k⟩ := h
    refine ⟨(tSeq (sFld K (tVar 0) (tVar 1) "name")
  (tSeq (sFld K (tVar 0) (tVar 2) "must")
  (sFld K (tVar 0) (tVar 3) "where"))),
(pss_cons (ps_fld (pv 0) (pv 1) rfl)
  (pss_cons (ps_fld (pv 0) (pv 2) rfl)
  (pss_one (ps_fld (pv 0) (pv 3) rfl)))), ?_⟩
    refine q_fld (ev_var rfl) (ev_var rfl) hp T.cl_Check T.n_Check_name (by show 0 < 1000; decide) fun H1 e1 => ?_
    generalize hK1 : upd H1 p (.ins T.C_Check dx (putF "name" v_name [])) = K1
    have p1 : K1 p = some (.ins T.C_Check dx (putF "name" v_name [])) := by rw [← hK1]; exact upd_same
    have k1 : ∀ b o, H b = some o → b ≠ p → K1 b = some o := fun b o h n => by rw [← hK1, upd_ne n]; exact e1 _ _ h
    refine q_fld (ev_var rfl) (ev_var rfl) p1 T.cl_Check T.n_Check_must (lt_put (n := 999) (by show 0 < 999; decide)) fun H2 e2 => ?_
    generalize hK2 : upd H2 p (.ins T.C_Check dx (putF "must" v_must (putF "name" v_name []))) = K2
    have p2 : K2 p = some (.ins T.C_Check dx (putF "must" v_must (putF "name" v_name []))) := by rw [← hK2]; exact upd_same
    have k2 : ∀ b o, H b = some o → b ≠ p → K2 b = some o := fun b o h n => by rw [← hK2, upd_ne n]; exact e2 _ _ (k1 b o h n)
    refine s_fld (ev_var rfl) (ev_var rfl) p2 T.cl_Check T.n_Check_where (lt_put (n := 999) (lt_put (n := 998) (by show 0 < 998; decide))) fun H3 e3 => ?_
    generalize hK3 : upd H3 p (.ins T.C_Check dx (putF "where" v_where (putF "must" v_must (putF "name" v_name [])))) = K3
    have p3 : K3 p = some (.ins T.C_Check dx (putF "where" v_where (putF "must" v_must (putF "name" v_name [])))) := by rw [← hK3]; exact upd_same
    have k3 : ∀ b o, H b = some o → b ≠ p → K3 b = some o := fun b o h n => by rw [← hK3, upd_ne n]; exact e3 _ _ (k2 b o h n)
    exact k _ ⟨⟨dx, p3⟩, k3⟩
def sp_Section_new (T : Txt K mg) : Sp := fun vs H Q _ => ∃ (p dx : Addr) (v_rows v_where : V) (q : Addr) (us : List V), vs = [.ref p, v_rows, v_where] ∧ H p = some (.ins T.C_Section dx []) ∧ v_rows = .ref q ∧ SqL K (off p H) q us ∧ ∀ t H2, H t = none → Inst H p T.C_Section [("rows", .ref t), ("where", v_where)] H2 → H2 t = some (.tup us) → Q .non H2
theorem ok_Section_new (T : Txt K mg) : FnOk P w K mg base CX0 1 T.a_Section_new T.d_Section_new ["self", "rows", "where"] (sp_Section_new T) := by
  refine T.F_Section_new.ok sc_Section_new (fun vs H Q E h => ?_) (fun cdv A outer s H vs Q E hr h => ?_)
  · obtain ⟨p, dx, v_rows, v_where, q, us, rfl, _⟩ := h
    rfl
  · obtain ⟨p, dx, v_rows, v_where, q, us, rfl, hp, rfl, hq, k⟩ := h
    refine ⟨(tSeq (sFld K (tVar 0) (tCB (gTupOf K) (tCons (tVar 1) tNil)) "rows")
  (sFld K (tVar 0) (tVar 2) "where")),
(pss_cons (ps_fld (pv 0) (pe_callTy call_tuple_of (by rfl) T.z_tuple (by decide +kernel) (pa_cons (pv 1) pa_nil)) rfl)
  (pss_one (ps_fld (pv 0) (pv 2) rfl))), ?_⟩
    refine q_fldT ⟨.ref q, rfl, q, us, rfl, .inl ⟨sq_mono (off_same _ _) hq, fun t nt => ⟨.ref p, rfl, p, T.C_Section, dx, _, rfl, by rw [upd_ne (ne_of_none hp nt)]; exact hp, T.cl_Section, T.n_Section_rows, (by show 0 < 1000; decide), ?_⟩⟩⟩
    have e1 : Same H (upd H t (.tup us)) := same_new nt
    have at_t : (upd H t (.tup us)) t = some (.tup us) := upd_same
    have ntp : t ≠ p := (ne_of_none hp nt).symm
    have nt0 : H t = none := nt
    generalize hK1 : upd (upd H t (.tup us)) p (.ins T.C_Section dx (putF "rows" (.ref t) [])) = K1
    have p1 : K1 p = some (.ins T.C_Section dx (putF "rows" (.ref t) [])) := by rw [← hK1]; exact upd_same
    have k1 : ∀ b o, H b = some o → b ≠ p → K1 b = some o := fun b o h n => by rw [← hK1, upd_ne n]; exact e1 _ _ h
    have t1 : K1 t = some (.tup us) := by rw [← hK1, upd_ne ntp]; exact at_t
    refine s_fld (ev_var rfl) (ev_var rfl) p1 T.cl_Section T.n_Section_where (lt_put (n := 999) (by show 0 < 999; decide)) fun H2 e2 => ?_
    generalize hK2 : upd H2 p (.ins T.C_Section dx (putF "where" v_where (putF "rows" (.ref t) []))) = K2
    have p2 : K2 p = some (.ins T.C_Section dx (putF "where" v_where (putF "rows" (.ref t) []))) := by rw [← hK2]; exact upd_same
    have k2 : ∀ b o, H b = some o → b ≠ p → K2 b = some o := fun b o h n => by rw [← hK2, upd_ne n]; exact e2 _ _ (k1 b o h n)
    have t2 : K2 t = some (.tup us) := by rw [← hK2, upd_ne ntp]; exact e2 _ _ t1
    exact k t _ nt0 ⟨⟨dx, p2⟩, k2⟩ t2
def sp_Rounds_new (T : Txt K mg) : Sp := fun vs H Q _ => ∃ (p dx : Addr) (v_count v_rows v_where : V) (q : Addr) (us : List V), vs = [.ref p, v_count, v_rows, v_where] ∧ H p = some (.ins T.C_Rounds dx []) ∧ v_rows = .ref q ∧ SqL K (off p H) q us ∧ ∀ t H2, H t = none → Inst H p T.C_Rounds [("count", v_count), ("rows", .ref t), ("where", v_where)] H2 → H2 t = some (.tup us) → Q .non H2
theorem ok_Rounds_new (T : Txt K mg) : FnOk P w K mg base CX0 1 T.a_Rounds_new T.d_Rounds_new ["self", "count", "rows", "where"] (sp_Rounds_new T) := by
  refine T.F_Rounds_new.ok sc_Rounds_new (fun vs H Q E h => ?_) (fun cdv A outer s H vs Q E hr h => ?_)
  · obtain ⟨p, dx, v_count, v_rows, v_where, q, us, rfl, _⟩ := h
    rfl
  · obtain ⟨p, dx, v_count, v_rows, v_where, q, us, rfl, hp, rfl, hq, k⟩ := h
    refine ⟨(tSeq (sFld K (tVar 0) (tVar 1) "count")
  (tSeq (sFld K (tVar 0) (tCB (gTupOf K) (tCons (tVar 2) tNil)) "rows")
  (sFld K (tVar 0) (tVar 3) "where"))),
(pss_cons (ps_fld (pv 0) (pv 1) rfl)
  (pss_cons (ps_fld (pv 0) (pe_callTy call_tuple_of (by rfl) T.z_tuple (by decide +kernel) (pa_cons (pv 2) pa_nil)) rfl)
  (pss_one (ps_fld (pv 0) (pv 3) rfl)))), ?_⟩
    refine q_fld (ev_var rfl) (ev_var rfl) hp T.cl_Rounds T.n_Rounds_count (by show 0 < 1000; decide) fun H1 e1 => ?_
    generalize hK1 : upd H1 p (.ins T.C_Rounds dx (putF "count" v_count [])) = K1
    have p1 : K1 p = some (.ins T.C_Rounds dx (putF "count" v_count [])) := by rw [← hK1]; exact upd_same
    have k1 : ∀ b o, H b = some o → b ≠ p → K1 b = some o := fun b o h n => by rw [← hK1, upd_ne n]; exact e1 _ _ h
    have sm : Same (off p H) K1 := fun b o h => k1 b o (off_some.mp h).2 (off_some.mp h).1
    have fr : ∀ b, K1 b = none → H b = none := fun b hb => by
      cases z : H b with
      | none => rfl
      | some o =>
        by_cases e : b = p
        · rw [e, p1] at hb; cases hb
        · rw [k1 b o z e] at hb; cases hb
    refine q_fldT ⟨.ref q, rfl, q, us, rfl, .inl ⟨sq_mono sm hq, fun t nt => ⟨.ref p, rfl, p, T.C_Rounds, dx, _, rfl, by rw [upd_ne (ne_of_none p1 nt)]; exact p1, T.cl_Rounds, T.n_Rounds_rows, (lt_put (n := 999) (by show 0 < 999; decide)), ?_⟩⟩⟩
    have e2 : Same K1 (upd K1 t (.tup us)) := same_new nt
    have at_t : (upd K1 t (.tup us)) t = some (.tup us) := upd_same
    have ntp : t ≠ p := (ne_of_none p1 nt).symm
    have nt0 : H t = none := fr t nt
    generalize hK2 : upd (upd K1 t (.tup us)) p (.ins T.C_Rounds dx (putF "rows" (.ref t) (putF "count" v_count []))) = K2
    have p2 : K2 p = some (.ins T.C_Rounds dx (putF "rows" (.ref t) (putF "count" v_count []))) := by rw [← hK2]; exact upd_same
    have k2 : ∀ b o, H b = some o → b ≠ p → K2 b = some o := fun b o h n => by rw [← hK2, upd_ne n]; exact e2 _ _ (k1 b o h n)
    have t2 : K2 t = some (.tup us) := by rw [← hK2, upd_ne ntp]; exact at_t
    refine s_fld (ev_var rfl) (ev_var rfl) p2 T.cl_Rounds T.n_Rounds_where (lt_put (n := 999) (lt_put (n := 998) (by show 0 < 998; decide))) fun H3 e3 => ?_
    generalize hK3 : upd H3 p (.ins T.C_Rounds dx (putF "where" v_where (putF "rows" (.ref t) (putF "count" v_count [])))) = K3
    have p3 : K3 p = some (.ins T.C_Rounds dx (putF "where" v_where (putF "rows" (.ref t) (putF "count" v_count [])))) := by rw [← hK3]; exact upd_same
    have k3 : ∀ b o, H b = some o → b ≠ p → K3 b = some o := fun b o h n => by rw [← hK3, upd_ne n]; exact e3 _ _ (k2 b o h n)
    have t3 : K3 t = some (.tup us) := by rw [← hK3, upd_ne ntp]; exact e3 _ _ t2
    exact k t _ nt0 ⟨⟨dx, p3⟩, k3⟩ t3
end SF
namespace SF
open PySem PySem.Spec PyProof.Rows L2 GK Evl LamX
variable {P : Program} {w : World} {K : PySem.W.Frag} {mg : Str → Option Value} {base : Heap}
/-! ### conditions and rows as objects -/
inductive CondO (T : Txt K mg) (H : Hp) : V → Cnd → Prop
  | is {p dx : Addr} {n o : Str} (h : H p = some (.ins T.C_Is dx [("name", .str n), ("option", .str o)])) : CondO T H (.ref p) (.is n o)
  | has {p dx : Addr} {n o : Str} (h : H p = some (.ins T.C_Has dx [("name", .str n), ("option", .str o)])) : CondO T H (.ref p) (.has n o)
  | abv {p dx : Addr} {n : Str} {k : Int} (h : H p = some (.ins T.C_Above dx [("name", .str n), ("number", .int k)])) : CondO T H (.ref p) (.abv n k)
  | blw {p dx : Addr} {n : Str} {k : Int} (h : H p = some (.ins T.C_Below dx [("name", .str n), ("number", .int k)])) : CondO T H (.ref p) (.blw n k)
  | not {p dx : Addr} {v : V} {c : Cnd} (h : H p = some (.ins T.C_Not dx [("inner", v)])) (hc : CondO T H v c) : CondO T H (.ref p) (.not c)
  | both {p dx : Addr} {v u : V} {a b : Cnd} (h : H p = some (.ins T.C_Both dx [("left", v), ("right", u)])) (ha : CondO T H v a) (hb : CondO T H u b) : CondO T H (.ref p) (.both a b)
  | either {p dx : Addr} {v u : V} {a b : Cnd} (h : H p = some (.ins T.C_Either dx [("left", v), ("right", u)])) (ha : CondO T H v a) (hb : CondO T H u b) : CondO T H (.ref p) (.either a b)
theorem CondO.up {T : Txt K mg} {H H' : Hp} (e : Same H H') : ∀ {v : V} {c : Cnd}, CondO T H v c → CondO T H' v c
  | _, _, .is h => .is (e _ _ h)
  | _, _, .has h => .has (e _ _ h)
  | _, _, .abv h => .abv (e _ _ h)
  | _, _, .blw h => .blw (e _ _ h)
  | _, _, .not h hc => .not (e _ _ h) (hc.up e)
  | _, _, .both h ha hb => .both (e _ _ h) (ha.up e) (hb.up e)
  | _, _, .either h ha hb => .either (e _ _ h) (ha.up e) (hb.up e)
def OCondO (T : Txt K mg) (H : Hp) (v : V) : Option Cnd → Prop
  | none => v = .non
  | some c => CondO T H v c
theorem OCondO.up {T : Txt K mg} {H H' : Hp} (e : Same H H') {v : V} : ∀ {c : Option Cnd}, OCondO T H v c → OCondO T H' v c
  | none, h => h
  | some _, h => CondO.up e h
mutual
inductive RowO (T : Txt K mg) (H : Hp) : V → Rw → Prop
  | one {p dx t : Addr} {n : Str} {os : List Str} {u : V} {c : Option Cnd} (h : H p = some (.ins T.C_One dx [("name", .str n), ("options", .ref t), ("where", u)])) (ht : H t = some (.tup (os.map V.str))) (hw : OCondO T H u c) : RowO T H (.ref p) (.one n os c)
  | som {p dx t : Addr} {n : Str} {os : List Str} {u : V} {c : Option Cnd} (h : H p = some (.ins T.C_Some dx [("name", .str n), ("options", .ref t), ("where", u)])) (ht : H t = some (.tup (os.map V.str))) (hw : OCondO T H u c) : RowO T H (.ref p) (.som n os c)
  | number {p dx : Addr} {n : Str} {lo hi : Int} {u : V} {c : Option Cnd} (h : H p = some (.ins T.C_Number dx [("name", .str n), ("low", .int lo), ("high", .int hi), ("where", u)])) (hw : OCondO T H u c) : RowO T H (.ref p) (.number n lo hi c)
  | check {p dx : Addr} {n : Str} {m : Cnd} {u v : V} {c : Option Cnd} (h : H p = some (.ins T.C_Check dx [("name", .str n), ("must", v), ("where", u)])) (hm : CondO T H v m) (hw : OCondO T H u c) : RowO T H (.ref p) (.check n m c)
  | sec {p dx t : Addr} {vs : List V} {rows : List Rw} {u : V} {c : Option Cnd} (h : H p = some (.ins T.C_Section dx [("rows", .ref t), ("where", u)])) (ht : H t = some (.tup vs)) (hr : RowsO T H vs rows) (hw : OCondO T H u c) : RowO T H (.ref p) (.sec rows c)
  | rnd {p dx t : Addr} {n : Str} {vs : List V} {rows : List Rw} {u : V} {c : Option Cnd} (h : H p = some (.ins T.C_Rounds dx [("count", .str n), ("rows", .ref t), ("where", u)])) (ht : H t = some (.tup vs)) (hr : RowsO T H vs rows) (hw : OCondO T H u c) : RowO T H (.ref p) (.rnd n rows c)
inductive RowsO (T : Txt K mg) (H : Hp) : List V → List Rw → Prop
  | nil : RowsO T H [] []
  | cons {v : V} {vs : List V} {r : Rw} {rs : List Rw} (h : RowO T H v r) (t : RowsO T H vs rs) : RowsO T H (v :: vs) (r :: rs)
end
mutual
theorem RowO.up {T : Txt K mg} {H H' : Hp} (e : Same H H') : ∀ {v : V} {r : Rw}, RowO T H v r → RowO T H' v r
  | _, _, .one h ht hw => .one (e _ _ h) (e _ _ ht) (hw.up e)
  | _, _, .som h ht hw => .som (e _ _ h) (e _ _ ht) (hw.up e)
  | _, _, .number h hw => .number (e _ _ h) (hw.up e)
  | _, _, .check h hm hw => .check (e _ _ h) (hm.up e) (hw.up e)
  | _, _, .sec h ht hr hw => .sec (e _ _ h) (e _ _ ht) (hr.up e) (hw.up e)
  | _, _, .rnd h ht hr hw => .rnd (e _ _ h) (e _ _ ht) (hr.up e) (hw.up e)
theorem RowsO.up {T : Txt K mg} {H H' : Hp} (e : Same H H') : ∀ {vs : List V} {rs : List Rw}, RowsO T H vs rs → RowsO T H' vs rs
  | _, _, .nil => .nil
  | _, _, .cons h t => .cons (h.up e) (t.up e)
end
theorem RowsO.pd {T : Txt K mg} {H : Hp} : ∀ {vs : List V} {rs : List Rw}, RowsO T H vs rs → Paired (RowO T H) vs rs
  | _, _, .nil => .nil
  | _, _, .cons h t => .cons h t.pd
theorem RowsO.of {T : Txt K mg} {H : Hp} : ∀ {vs : List V} {rs : List Rw}, Paired (RowO T H) vs rs → RowsO T H vs rs
  | _, _, .nil => .nil
  | _, _, .cons h t => .cons h (RowsO.of t)
/-! ### row.kind() -/
def sp_One_kind (T : Txt K mg) : Sp := fun vs H Q _ => ∃ v, vs = [v] ∧ ∀ H', Same H H' → Q (.str "one") H'
theorem ok_One_kind (T : Txt K mg) : FnOk P w K mg base CX0 1 T.a_One_kind T.d_One_kind ["self"] (sp_One_kind T) := by
  refine T.F_One_kind.ok sc_One_kind (fun vs H Q E h => ?_) (fun cdv A outer s H vs Q E hr h => ?_)
  · obtain ⟨v, rfl, _⟩ := h
    rfl
  · obtain ⟨v, rfl, k⟩ := h
    refine ⟨(tRet (tC (.str "one"))),
(pss_one (ps_ret pe_str)), ?_⟩
    exact s_ret ev_c fun H1 e1 => k H1 e1
def sp_Some_kind (T : Txt K mg) : Sp := fun vs H Q _ => ∃ v, vs = [v] ∧ ∀ H', Same H H' → Q (.str "some") H'
theorem ok_Some_kind (T : Txt K mg) : FnOk P w K mg base CX0 1 T.a_Some_kind T.d_Some_kind ["self"] (sp_Some_kind T) := by
  refine T.F_Some_kind.ok sc_Some_kind (fun vs H Q E h => ?_) (fun cdv A outer s H vs Q E hr h => ?_)
  · obtain ⟨v, rfl, _⟩ := h
    rfl
  · obtain ⟨v, rfl, k⟩ := h
    refine ⟨(tRet (tC (.str "some"))),
(pss_one (ps_ret pe_str)), ?_⟩
    exact s_ret ev_c fun H1 e1 => k H1 e1
def sp_Number_kind (T : Txt K mg) : Sp := fun vs H Q _ => ∃ v, vs = [v] ∧ ∀ H', Same H H' → Q (.str "number") H'
theorem ok_Number_kind (T : Txt K mg) : FnOk P w K mg base CX0 1 T.a_Number_kind T.d_Number_kind ["self"] (sp_Number_kind T) := by
  refine T.F_Number_kind.ok sc_Number_kind (fun vs H Q E h => ?_) (fun cdv A outer s H vs Q E hr h => ?_)
  · obtain ⟨v, rfl, _⟩ := h
    rfl
  · obtain ⟨v, rfl, k⟩ := h
    refine ⟨(tRet (tC (.str "number"))),
(pss_one (ps_ret pe_str)), ?_⟩
    exact s_ret ev_c fun H1 e1 => k H1 e1
def sp_Check_kind (T : Txt K mg) : Sp := fun vs H Q _ => ∃ v, vs = [v] ∧ ∀ H', Same H H' → Q (.str "check") H'
theorem ok_Check_kind (T : Txt K mg) : FnOk P w K mg base CX0 1 T.a_Check_kind T.d_Check_kind ["self"] (sp_Check_kind T) := by
  refine T.F_Check_kind.ok sc_Check_kind (fun vs H Q E h => ?_) (fun cdv A outer s H vs Q E hr h => ?_)
  · obtain ⟨v, rfl, _⟩ := h
    rfl
  · obtain ⟨v, rfl, k⟩ := h
    refine ⟨(tRet (tC (.str "check"))),
(pss_one (ps_ret pe_str)), ?_⟩
    exact s_ret ev_c fun H1 e1 => k H1 e1
def sp_Section_kind (T : Txt K mg) : Sp := fun vs H Q _ => ∃ v, vs = [v] ∧ ∀ H', Same H H' → Q (.str "section") H'
theorem ok_Section_kind (T : Txt K mg) : FnOk P w K mg base CX0 1 T.a_Section_kind T.d_Section_kind ["self"] (sp_Section_kind T) := by
  refine T.F_Section_kind.ok sc_Section_kind (fun vs H Q E h => ?_) (fun cdv A outer s H vs Q E hr h => ?_)
  · obtain ⟨v, rfl, _⟩ := h
    rfl
  · obtain ⟨v, rfl, k⟩ := h
    refine ⟨(tRet (tC (.str "section"))),
(pss_one (ps_ret pe_str)), ?_⟩
    exact s_ret ev_c fun H1 e1 => k H1 e1
def sp_Rounds_kind (T : Txt K mg) : Sp := fun vs H Q _ => ∃ v, vs = [v] ∧ ∀ H', Same H H' → Q (.str "rounds") H'
theorem ok_Rounds_kind (T : Txt K mg) : FnOk P w K mg base CX0 1 T.a_Rounds_kind T.d_Rounds_kind ["self"] (sp_Rounds_kind T) := by
  refine T.F_Rounds_kind.ok sc_Rounds_kind (fun vs H Q E h => ?_) (fun cdv A outer s H vs Q E hr h => ?_)
  · obtain ⟨v, rfl, _⟩ := h
    rfl
  · obtain ⟨v, rfl, k⟩ := h
    refine ⟨(tRet (tC (.str "rounds"))),
(pss_one (ps_ret pe_str)), ?_⟩
    exact s_ret ev_c fun H1 e1 => k H1 e1
def tKind (T : Txt K mg) (ta : TE) : TE := (tAlt (tMeth T.C_One "kind" (sp_One_kind T) [] E0 ta tNil) (tAlt (tMeth T.C_Some "kind" (sp_Some_kind T) [] E0 ta tNil) (tAlt (tMeth T.C_Number "kind" (sp_Number_kind T) [] E0 ta tNil) (tAlt (tMeth T.C_Check "kind" (sp_Check_kind T) [] E0 ta tNil) (tAlt (tMeth T.C_Section "kind" (sp_Section_kind T) [] E0 ta tNil) (tMeth T.C_Rounds "kind" (sp_Rounds_kind T) [] E0 ta tNil))))))
theorem pe_kind {X : Cx} {T : Txt X.K X.mg} {k : Nat} {o : Expr} {ta : TE} {apos pos : Pos} {pl : Sem Bool} (he : PE X o ta) (hr : Room (k + 1) X.A)
    (ht : eval (.Call (.Attribute o "kind" apos) [] [] pos) X.env = (do
      let ov ← eval o X.env
      standAt apos.atName
      let (f, first) ← holding [ov] (getMethod ov "kind" pl)
      callWith pos f first (backTo pos (starEach [] X.env)) (backToKw pos (keywordEach [] X.env))) := by rfl) : PE X (.Call (.Attribute o "kind" apos) [] [] pos) (tKind T ta) :=
  (pe_alt (pe_meth0 he T.cl_One T.m_One_kind ((ok_One_kind T).mono (Nat.succ_le_succ (Nat.zero_le k))) hr T.b_One_kind .nil pass0 ht) (pe_alt (pe_meth0 he T.cl_Some T.m_Some_kind ((ok_Some_kind T).mono (Nat.succ_le_succ (Nat.zero_le k))) hr T.b_Some_kind .nil pass0 ht) (pe_alt (pe_meth0 he T.cl_Number T.m_Number_kind ((ok_Number_kind T).mono (Nat.succ_le_succ (Nat.zero_le k))) hr T.b_Number_kind .nil pass0 ht) (pe_alt (pe_meth0 he T.cl_Check T.m_Check_kind ((ok_Check_kind T).mono (Nat.succ_le_succ (Nat.zero_le k))) hr T.b_Check_kind .nil pass0 ht) (pe_alt (pe_meth0 he T.cl_Section T.m_Section_kind ((ok_Section_kind T).mono (Nat.succ_le_succ (Nat.zero_le k))) hr T.b_Section_kind .nil pass0 ht) (pe_meth0 he T.cl_Rounds T.m_Rounds_kind ((ok_Rounds_kind T).mono (Nat.succ_le_succ (Nat.zero_le k))) hr T.b_Rounds_kind .nil pass0 ht))))))
theorem t_meth0 {C : Addr} {m : Str} {sp : Sp} {ta : TE} {σ : L2.St} {H : Hp} {p dx : Addr} {fs : List (Str × V)} {Q : VK} {E : XK} (ha : Ev ta σ H (.ref p)) (h : H p = some (.ins C dx fs)) (hl : fs.lookup m = none) (k : ∀ H1, Same H H1 → sp [.ref p] H1 Q E) : tMeth C m sp [] E ta tNil σ H Q :=
  ha H (Same.refl _) _ fun H1 e1 => ⟨p, dx, fs, rfl, e1 _ _ h, hl, k H1 e1⟩
theorem ev_kind {T : Txt K mg} {ta : TE} {σ : L2.St} {H : Hp} {v : V} {r : Rw} (ha : Ev ta σ H v) (h : RowO T H v r) : Ev (tKind T ta) σ H (.str r.kind) := fun H1 e Q q => by
  have h1 := h.up e
  have ha1 := ha.mono e
  unfold tKind
  cases h1 with
  | one h' ht hw => exact .inl (t_meth0 ha1 h' rfl fun H2 e2 => ⟨_, rfl, fun H3 e3 => q H3 (Same.trans e2 e3)⟩)
  | som h' ht hw => exact .inr (.inl (t_meth0 ha1 h' rfl fun H2 e2 => ⟨_, rfl, fun H3 e3 => q H3 (Same.trans e2 e3)⟩))
  | number h' hw => exact .inr (.inr (.inl (t_meth0 ha1 h' rfl fun H2 e2 => ⟨_, rfl, fun H3 e3 => q H3 (Same.trans e2 e3)⟩)))
  | check h' hm hw => exact .inr (.inr (.inr (.inl (t_meth0 ha1 h' rfl fun H2 e2 => ⟨_, rfl, fun H3 e3 => q H3 (Same.trans e2 e3)⟩))))
  | sec h' ht hr hw => exact .inr (.inr (.inr (.inr (.inl (t_meth0 ha1 h' rfl fun H2 e2 => ⟨_, rfl, fun H3 e3 => q H3 (Same.trans e2 e3)⟩)))))
  | rnd h' ht hr hw => exact .inr (.inr (.inr (.inr (.inr (t_meth0 ha1 h' rfl fun H2 e2 => ⟨_, rfl, fun H3 e3 => q H3 (Same.trans e2 e3)⟩)))))
/-! ### row.within() -/
def Rw.inner : Rw → List Rw
  | .sec rows _ => rows
  | .rnd _ rows _ => rows
  | _ => []
def sp_Row_within (T : Txt K mg) : Sp := fun vs H Q _ => ∃ v, vs = [v] ∧ ∀ t H', H t = none → Same H H' → H' t = some (.tup []) → Q (.ref t) H'
theorem ok_Row_within (T : Txt K mg) : FnOk P w K mg base CX0 1 T.a_Row_within T.d_Row_within ["self"] (sp_Row_within T) := by
  refine T.F_Row_within.ok sc_Row_within (fun vs H Q E h => ?_) (fun cdv A outer s H vs Q E hr h => ?_)
  · obtain ⟨v, rfl, _⟩ := h
    rfl
  · obtain ⟨v, rfl, k⟩ := h
    refine ⟨(tRet (tTup tNil)),
(pss_one (ps_ret (pe_tup pa_nil))), ?_⟩
    exact ⟨by show 0 ≤ sizeLine; decide, fun p hp => k p _ hp (same_new hp) upd_same⟩
def sp_Section_within (T : Txt K mg) : Sp := fun vs H Q _ => ∃ (p dx : Addr) (u v : V), vs = [.ref p] ∧ H p = some (.ins T.C_Section dx [("rows", v), ("where", u)]) ∧ ∀ H', Same H H' → Q v H'
theorem ok_Section_within (T : Txt K mg) : FnOk P w K mg base CX0 1 T.a_Section_within T.d_Section_within ["self"] (sp_Section_within T) := by
  refine T.F_Section_within.ok sc_Section_within (fun vs H Q E h => ?_) (fun cdv A outer s H vs Q E hr h => ?_)
  · obtain ⟨p, dx, u, v, rfl, _⟩ := h
    rfl
  · obtain ⟨p, dx, u, v, rfl, hp, k⟩ := h
    refine ⟨(tRet (tFld K (tVar 0) "rows")),
(pss_one (ps_ret (pe_fld (pv 0) rfl))), ?_⟩
    exact s_ret (ev_fld (ev_var rfl) hp T.cl_Section T.n_Section_rows rfl) fun H1 e1 => k H1 e1
def sp_Rounds_within (T : Txt K mg) : Sp := fun vs H Q _ => ∃ (p dx : Addr) (n u v : V), vs = [.ref p] ∧ H p = some (.ins T.C_Rounds dx [("count", n), ("rows", v), ("where", u)]) ∧ ∀ H', Same H H' → Q v H'
theorem ok_Rounds_within (T : Txt K mg) : FnOk P w K mg base CX0 1 T.a_Rounds_within T.d_Rounds_within ["self"] (sp_Rounds_within T) := by
  refine T.F_Rounds_within.ok sc_Rounds_within (fun vs H Q E h => ?_) (fun cdv A outer s H vs Q E hr h => ?_)
  · obtain ⟨p, dx, n, u, v, rfl, _⟩ := h
    rfl
  · obtain ⟨p, dx, n, u, v, rfl, hp, k⟩ := h
    refine ⟨(tRet (tFld K (tVar 0) "rows")),
(pss_one (ps_ret (pe_fld (pv 0) rfl))), ?_⟩
    exact s_ret (ev_fld (ev_var rfl) hp T.cl_Rounds T.n_Rounds_rows rfl) fun H1 e1 => k H1 e1
def tWithin (T : Txt K mg) (ta : TE) : TE := (tAlt (tMeth T.C_One "within" (sp_Row_within T) [] E0 ta tNil) (tAlt (tMeth T.C_Some "within" (sp_Row_within T) [] E0 ta tNil) (tAlt (tMeth T.C_Number "within" (sp_Row_within T) [] E0 ta tNil) (tAlt (tMeth T.C_Check "within" (sp_Row_within T) [] E0 ta tNil) (tAlt (tMeth T.C_Section "within" (sp_Section_within T) [] E0 ta tNil) (tMeth T.C_Rounds "within" (sp_Rounds_within T) [] E0 ta tNil))))))
theorem pe_within {X : Cx} {T : Txt X.K X.mg} {k : Nat} {o : Expr} {ta : TE} {apos pos : Pos} {pl : Sem Bool} (he : PE X o ta) (hr : Room (k + 1) X.A)
    (ht : eval (.Call (.Attribute o "within" apos) [] [] pos) X.env = (do
      let ov ← eval o X.env
      standAt apos.atName
      let (f, first) ← holding [ov] (getMethod ov "within" pl)
      callWith pos f first (backTo pos (starEach [] X.env)) (backToKw pos (keywordEach [] X.env))) := by rfl) : PE X (.Call (.Attribute o "within" apos) [] [] pos) (tWithin T ta) :=
  (pe_alt (pe_meth0 he T.cl_One T.m_One_within ((ok_Row_within T).mono (Nat.succ_le_succ (Nat.zero_le k))) hr T.b_Row_within .nil pass0 ht) (pe_alt (pe_meth0 he T.cl_Some T.m_Some_within ((ok_Row_within T).mono (Nat.succ_le_succ (Nat.zero_le k))) hr T.b_Row_within .nil pass0 ht) (pe_alt (pe_meth0 he T.cl_Number T.m_Number_within ((ok_Row_within T).mono (Nat.succ_le_succ (Nat.zero_le k))) hr T.b_Row_within .nil pass0 ht) (pe_alt (pe_meth0 he T.cl_Check T.m_Check_within ((ok_Row_within T).mono (Nat.succ_le_succ (Nat.zero_le k))) hr T.b_Row_within .nil pass0 ht) (pe_alt (pe_meth0 he T.cl_Section T.m_Section_within ((ok_Section_within T).mono (Nat.succ_le_succ (Nat.zero_le k))) hr T.b_Section_within .nil pass0 ht) (pe_meth0 he T.cl_Rounds T.m_Rounds_within ((ok_Rounds_within T).mono (Nat.succ_le_succ (Nat.zero_le k))) hr T.b_Rounds_within .nil pass0 ht))))))
theorem t_within {T : Txt K mg} {ta : TE} {σ : L2.St} {H : Hp} {v : V} {r : Rw} {Q : VK} (ha : Ev ta σ H v) (h : RowO T H v r) (k : ∀ t vs H1, Same H H1 → H1 t = some (.tup vs) → RowsO T H1 vs r.inner → Q (.ref t) H1) : tWithin T ta σ H Q := by
  unfold tWithin
  cases h with
  | one h ht hw => exact .inl (t_meth0 ha h rfl fun H2 e2 => ⟨_, rfl, fun t H3 _ e3 h3 => k t [] H3 (Same.trans e2 e3) h3 .nil⟩)
  | som h ht hw => exact .inr (.inl (t_meth0 ha h rfl fun H2 e2 => ⟨_, rfl, fun t H3 _ e3 h3 => k t [] H3 (Same.trans e2 e3) h3 .nil⟩))
  | number h hw => exact .inr (.inr (.inl (t_meth0 ha h rfl fun H2 e2 => ⟨_, rfl, fun t H3 _ e3 h3 => k t [] H3 (Same.trans e2 e3) h3 .nil⟩)))
  | check h hm hw => exact .inr (.inr (.inr (.inl (t_meth0 ha h rfl fun H2 e2 => ⟨_, rfl, fun t H3 _ e3 h3 => k t [] H3 (Same.trans e2 e3) h3 .nil⟩))))
  | sec h ht hr hw => exact .inr (.inr (.inr (.inr (.inl (t_meth0 ha h rfl fun H2 e2 => ⟨_, _, _, _, rfl, e2 _ _ h, fun H3 e3 => k _ _ H3 (Same.trans e2 e3) ((Same.trans e2 e3) _ _ ht) (hr.up (Same.trans e2 e3))⟩)))))
  | rnd h ht hr hw => exact .inr (.inr (.inr (.inr (.inr (t_meth0 ha h rfl fun H2 e2 => ⟨_, _, _, _, _, rfl, e2 _ _ h, fun H3 e3 => k _ _ H3 (Same.trans e2 e3) ((Same.trans e2 e3) _ _ ht) (hr.up (Same.trans e2 e3))⟩)))))
/-! ### condition.spoken() -/
def oS : Option Str → V
  | none => .non
  | some s => .str s
def SayD : Hp → V → Say → Prop := fun H v s => ∃ t, v = .ref t ∧ H t = some (.tup [.str s.1, .str s.2.1, oS s.2.2])
theorem up_say : Up SayD := fun _ _ _ _ e ⟨t, h1, h2⟩ => ⟨t, h1, e _ _ h2⟩
def Cnd.tag : Cnd → Nat
  | .is .. => 0
  | .has .. => 1
  | .abv .. => 2
  | .blw .. => 3
  | .not .. => 4
  | .both .. => 5
  | .either .. => 6
def sp_spk (T : Txt K mg) (m g : Nat) : Sp := fun vs H Q _ => ∃ (v : V) (c : Cnd), vs = [v] ∧ CondO T H v c ∧ c.tag = g ∧ c.dep ≤ m ∧ ∀ l ys H', Same H H' → H l = none → H' l = some (.lst ys) → Paired (SayD H') ys (says c) → Q (.ref l) H'
structure SpkAll (P : Program) (w : World) (base : Heap) (T : Txt K mg) (m k : Nat) : Prop where
  is : FnOk P w K mg base CX0 k T.a_Is_spoken T.d_Is_spoken ["self"] (sp_spk T m 0)
  has : FnOk P w K mg base CX0 k T.a_Has_spoken T.d_Has_spoken ["self"] (sp_spk T m 1)
  abv : FnOk P w K mg base CX0 k T.a_Above_spoken T.d_Above_spoken ["self"] (sp_spk T m 2)
  blw : FnOk P w K mg base CX0 k T.a_Below_spoken T.d_Below_spoken ["self"] (sp_spk T m 3)
  not : FnOk P w K mg base CX0 k T.a_Not_spoken T.d_Not_spoken ["self"] (sp_spk T m 4)
  both : FnOk P w K mg base CX0 k T.a_Both_spoken T.d_Both_spoken ["self"] (sp_spk T m 5)
  either : FnOk P w K mg base CX0 k T.a_Either_spoken T.d_Either_spoken ["self"] (sp_spk T m 6)
theorem SpkAll.mono {T : Txt K mg} {m k k' : Nat} (h : SpkAll P w base T m k) (le : k ≤ k') : SpkAll P w base T m k' := ⟨h.is.mono le, h.has.mono le, h.abv.mono le, h.blw.mono le, h.not.mono le, h.both.mono le, h.either.mono le⟩
def tSpk (T : Txt K mg) (m : Nat) (ta : TE) : TE := (tAlt (tMeth T.C_Is "spoken" (sp_spk T m 0) [] E0 ta tNil) (tAlt (tMeth T.C_Has "spoken" (sp_spk T m 1) [] E0 ta tNil) (tAlt (tMeth T.C_Above "spoken" (sp_spk T m 2) [] E0 ta tNil) (tAlt (tMeth T.C_Below "spoken" (sp_spk T m 3) [] E0 ta tNil) (tAlt (tMeth T.C_Not "spoken" (sp_spk T m 4) [] E0 ta tNil) (tAlt (tMeth T.C_Both "spoken" (sp_spk T m 5) [] E0 ta tNil) (tMeth T.C_Either "spoken" (sp_spk T m 6) [] E0 ta tNil)))))))
theorem pe_spk {X : Cx} {T : Txt X.K X.mg} {k m : Nat} (G : SpkAll X.prog X.w X.base T m k) {o : Expr} {ta : TE} {apos pos : Pos} {pl : Sem Bool} (he : PE X o ta) (hr : Room k X.A)
    (ht : eval (.Call (.Attribute o "spoken" apos) [] [] pos) X.env = (do
      let ov ← eval o X.env
      standAt apos.atName
      let (f, first) ← holding [ov] (getMethod ov "spoken" pl)
      callWith pos f first (backTo pos (starEach [] X.env)) (backToKw pos (keywordEach [] X.env))) := by rfl) : PE X (.Call (.Attribute o "spoken" apos) [] [] pos) (tSpk T m ta) :=
  (pe_alt (pe_meth0 he T.cl_Is T.m_Is_spoken G.is hr T.b_Is_spoken .nil pass0 ht) (pe_alt (pe_meth0 he T.cl_Has T.m_Has_spoken G.has hr T.b_Has_spoken .nil pass0 ht) (pe_alt (pe_meth0 he T.cl_Above T.m_Above_spoken G.abv hr T.b_Above_spoken .nil pass0 ht) (pe_alt (pe_meth0 he T.cl_Below T.m_Below_spoken G.blw hr T.b_Below_spoken .nil pass0 ht) (pe_alt (pe_meth0 he T.cl_Not T.m_Not_spoken G.not hr T.b_Not_spoken .nil pass0 ht) (pe_alt (pe_meth0 he T.cl_Both T.m_Both_spoken G.both hr T.b_Both_spoken .nil pass0 ht) (pe_meth0 he T.cl_Either T.m_Either_spoken G.either hr T.b_Either_spoken .nil pass0 ht)))))))
theorem t_spk {T : Txt K mg} {ta : TE} {σ : L2.St} {H : Hp} {v : V} {c : Cnd} {m : Nat} {Q : VK} (ha : Ev ta σ H v) (h : CondO T H v c) (hd : c.dep ≤ m) (k : ∀ l ys H1, Same H H1 → H l = none → H1 l = some (.lst ys) → Paired (SayD H1) ys (says c) → Q (.ref l) H1) : tSpk T m ta σ H Q := by
  unfold tSpk
  have go : ∀ {p : Addr} {c' : Cnd}, v = .ref p → c = c' → ∀ H2, Same H H2 → sp_spk T m c'.tag [.ref p] H2 Q E0 := fun {p c'} ev ec H2 e2 => ⟨_, c, rfl, by rw [← ev]; exact h.up e2, by rw [ec], hd, fun l ys H3 e3 hl h3 pd => k l ys H3 (Same.trans e2 e3) (Same.free e2 hl) h3 pd⟩
  cases h with
  | is h => exact .inl (t_meth0 ha h rfl (go rfl rfl))
  | has h => exact .inr (.inl (t_meth0 ha h rfl (go rfl rfl)))
  | abv h => exact .inr (.inr (.inl (t_meth0 ha h rfl (go rfl rfl))))
  | blw h => exact .inr (.inr (.inr (.inl (t_meth0 ha h rfl (go rfl rfl)))))
  | not h hc => exact .inr (.inr (.inr (.inr (.inl (t_meth0 ha h rfl (go rfl rfl))))))
  | both h h1 h2 => exact .inr (.inr (.inr (.inr (.inr (.inl (t_meth0 ha h rfl (go rfl rfl)))))))
  | either h h1 h2 => exact .inr (.inr (.inr (.inr (.inr (.inr (t_meth0 ha h rfl (go rfl rfl)))))))
theorem t_lst1 {σ : L2.St} {H : Hp} {te : TE} {Q : VK} (h : te σ H fun x H1 => [x].length ≤ sizeLine ∧ ∀ p, H1 p = none → Q (.ref p) (upd H1 p (.lst [x]))) : tLst (tCons te tNil) σ H Q := h
/-- one saying -/
theorem s_say1 {σ : L2.St} {H : Hp} {ta tb tc : TE} {s : Say} {D : Ends} (ha : Ev ta σ H (.str s.1)) (hb : Ev tb σ H (.str s.2.1)) (hc : Ev tc σ H (oS s.2.2)) (k : ∀ l ys H', Same H H' → H l = none → H' l = some (.lst ys) → Paired (SayD H') ys [s] → D.rt (.ref l) H') : tRet (tLst (tCons (tTup (tCons ta (tCons tb (tCons tc tNil)))) tNil)) D σ H := by
  refine s_give (t_lst1 ?_)
  refine (eu_tup (ea_cons ha (ea_cons hb (ea_cons hc ea_nil))) small3) H (Same.refl _) _ fun p H1 hp e1 h1 => ⟨by show 1 ≤ sizeLine; decide, fun l hl => ?_⟩
  exact k l _ _ (Same.trans e1 (same_new hl)) (Same.free e1 hl) upd_same (.cons ⟨p, rfl, same_new hl _ _ h1⟩ .nil)
theorem ok_Is_spoken (T : Txt K mg) (m : Nat) : FnOk P w K mg base CX0 1 T.a_Is_spoken T.d_Is_spoken ["self"] (sp_spk T m 0) := by
  refine T.F_Is_spoken.ok sc_Is_spoken (fun vs H Q E h => ?_) (fun cdv A outer s H vs Q E hr h => ?_)
  · obtain ⟨v, c, rfl, _⟩ := h
    rfl
  · obtain ⟨v, c, rfl, hc, ht, hd, k⟩ := h
    refine ⟨(tRet (tLst (tCons (tTup (tCons (tFld K (tVar 0) "name") (tCons (tC (.str "one")) (tCons (tFld K (tVar 0) "option") tNil)))) tNil))),
(pss_one (ps_ret (pe_lst (pa_cons (pe_tup (pa_cons (pe_fld (pv 0) rfl) (pa_cons pe_str (pa_cons (pe_fld (pv 0) rfl) pa_nil)))) pa_nil)))), ?_⟩
    cases hc <;> simp only [Cnd.tag, reduceCtorEq, Nat.reduceEqDiff] at ht
    rename_i p dx n o h
    exact s_say1 (s := (n, "one", some o)) (ev_fld (ev_var rfl) h T.cl_Is T.n_Is_name rfl) ev_c (ev_fld (ev_var rfl) h T.cl_Is T.n_Is_option rfl) fun l ys H' e hl h' pd => k l ys H' e hl h' pd
theorem ok_Has_spoken (T : Txt K mg) (m : Nat) : FnOk P w K mg base CX0 1 T.a_Has_spoken T.d_Has_spoken ["self"] (sp_spk T m 1) := by
  refine T.F_Has_spoken.ok sc_Has_spoken (fun vs H Q E h => ?_) (fun cdv A outer s H vs Q E hr h => ?_)
  · obtain ⟨v, c, rfl, _⟩ := h
    rfl
  · obtain ⟨v, c, rfl, hc, ht, hd, k⟩ := h
    refine ⟨(tRet (tLst (tCons (tTup (tCons (tFld K (tVar 0) "name") (tCons (tC (.str "some")) (tCons (tFld K (tVar 0) "option") tNil)))) tNil))),
(pss_one (ps_ret (pe_lst (pa_cons (pe_tup (pa_cons (pe_fld (pv 0) rfl) (pa_cons pe_str (pa_cons (pe_fld (pv 0) rfl) pa_nil)))) pa_nil)))), ?_⟩
    cases hc <;> simp only [Cnd.tag, reduceCtorEq, Nat.reduceEqDiff] at ht
    rename_i p dx n o h
    exact s_say1 (s := (n, "some", some o)) (ev_fld (ev_var rfl) h T.cl_Has T.n_Has_name rfl) ev_c (ev_fld (ev_var rfl) h T.cl_Has T.n_Has_option rfl) fun l ys H' e hl h' pd => k l ys H' e hl h' pd
theorem ok_Above_spoken (T : Txt K mg) (m : Nat) : FnOk P w K mg base CX0 1 T.a_Above_spoken T.d_Above_spoken ["self"] (sp_spk T m 2) := by
  refine T.F_Above_spoken.ok sc_Above_spoken (fun vs H Q E h => ?_) (fun cdv A outer s H vs Q E hr h => ?_)
  · obtain ⟨v, c, rfl, _⟩ := h
    rfl
  · obtain ⟨v, c, rfl, hc, ht, hd, k⟩ := h
    refine ⟨(tRet (tLst (tCons (tTup (tCons (tFld K (tVar 0) "name") (tCons (tC (.str "number")) (tCons (tC .non) tNil)))) tNil))),
(pss_one (ps_ret (pe_lst (pa_cons (pe_tup (pa_cons (pe_fld (pv 0) rfl) (pa_cons pe_str (pa_cons pe_non pa_nil)))) pa_nil)))), ?_⟩
    cases hc <;> simp only [Cnd.tag, reduceCtorEq, Nat.reduceEqDiff] at ht
    rename_i p dx n o h
    exact s_say1 (s := (n, "number", none)) (ev_fld (ev_var rfl) h T.cl_Above T.n_Above_name rfl) ev_c ev_c fun l ys H' e hl h' pd => k l ys H' e hl h' pd
theorem ok_Below_spoken (T : Txt K mg) (m : Nat) : FnOk P w K mg base CX0 1 T.a_Below_spoken T.d_Below_spoken ["self"] (sp_spk T m 3) := by
  refine T.F_Below_spoken.ok sc_Below_spoken (fun vs H Q E h => ?_) (fun cdv A outer s H vs Q E hr h => ?_)
  · obtain ⟨v, c, rfl, _⟩ := h
    rfl
  · obtain ⟨v, c, rfl, hc, ht, hd, k⟩ := h
    refine ⟨(tRet (tLst (tCons (tTup (tCons (tFld K (tVar 0) "name") (tCons (tC (.str "number")) (tCons (tC .non) tNil)))) tNil))),
(pss_one (ps_ret (pe_lst (pa_cons (pe_tup (pa_cons (pe_fld (pv 0) rfl) (pa_cons pe_str (pa_cons pe_non pa_nil)))) pa_nil)))), ?_⟩
    cases hc <;> simp only [Cnd.tag, reduceCtorEq, Nat.reduceEqDiff] at ht
    rename_i p dx n o h
    exact s_say1 (s := (n, "number", none)) (ev_fld (ev_var rfl) h T.cl_Below T.n_Below_name rfl) ev_c ev_c fun l ys H' e hl h' pd => k l ys H' e hl h' pd
theorem says_len : ∀ c : Cnd, (says c).length ≤ 2 ^ c.dep
  | .is .. => by simp [says, Cnd.dep]
  | .has .. => by simp [says, Cnd.dep]
  | .abv .. => by simp [says, Cnd.dep]
  | .blw .. => by simp [says, Cnd.dep]
  | .not c => by
    have h := says_len c
    simp only [says, Cnd.dep, Nat.pow_succ]
    omega
  | .both a b => by
    have h1 := says_len a
    have h2 := says_len b
    simp only [says, Cnd.dep, List.length_append, Nat.pow_succ]
    have h3 : 2 ^ a.dep ≤ 2 ^ max a.dep b.dep := Nat.pow_le_pow_right (by decide) (Nat.le_max_left _ _)
    have h4 : 2 ^ b.dep ≤ 2 ^ max a.dep b.dep := Nat.pow_le_pow_right (by decide) (Nat.le_max_right _ _)
    omega
  | .either a b => by
    have h1 := says_len a
    have h2 := says_len b
    simp only [says, Cnd.dep, List.length_append, Nat.pow_succ]
    have h3 : 2 ^ a.dep ≤ 2 ^ max a.dep b.dep := Nat.pow_le_pow_right (by decide) (Nat.le_max_left _ _)
    have h4 : 2 ^ b.dep ≤ 2 ^ max a.dep b.dep := Nat.pow_le_pow_right (by decide) (Nat.le_max_right _ _)
    omega
theorem ok_not (T : Txt K mg) (m : Nat) (G_spk : SpkAll P w base T m (m + 1)) : FnOk P w K mg base CX0 (m + 2) T.a_Not_spoken T.d_Not_spoken ["self"] (sp_spk T (m + 1) 4) := by
  refine T.F_Not_spoken.ok sc_Not_spoken (fun vs H Q E h => ?_) (fun cdv A outer s H vs Q E hr h => ?_)
  · obtain ⟨v, c, rfl, _⟩ := h
    rfl
  · obtain ⟨v, c, rfl, hc, ht, hd, k⟩ := h
    refine ⟨(tRet (tSpk T m (tFld K (tVar 0) "inner"))),
(pss_one (ps_ret (pe_spk (G_spk.mono (by omega)) (pe_fld (pv 0) rfl) hr))), ?_⟩
    cases hc <;> simp only [Cnd.tag, reduceCtorEq, Nat.reduceEqDiff] at ht
    rename_i p dx v c h hc
    refine s_give ?_
    exact t_spk (ev_fld (ev_var rfl) h T.cl_Not T.n_Not_inner rfl) hc (by simp only [Cnd.dep] at hd; omega) fun l ys H1 e1 hl h1 pd => k l ys H1 e1 hl h1 pd
theorem t_cat2 {T : Txt K mg} {σ : L2.St} {H : Hp} {ta tb : TE} {v u : V} {a b : Cnd} {m : Nat} {Q : VK} (ha : Ev ta σ H v) (hb : Ev tb σ H u) (ca : CondO T H v a) (cb : CondO T H u b) (da : a.dep ≤ m) (db : b.dep ≤ m) (hm : m ≤ 10) (k : ∀ l ys H1, Same H H1 → H l = none → H1 l = some (.lst ys) → Paired (SayD H1) ys (says a ++ says b) → Q (.ref l) H1) : tOp rCat (tSpk T m ta) (tSpk T m tb) σ H Q := by
  refine t_spk ha ca da fun l ys H1 e1 hl h1 pd => t_spk (hb.mono e1) (cb.up e1) db fun l2 ys2 H2 e2 hl2 h2 pd2 => ?_
  refine ⟨l, l2, ys, ys2, rfl, rfl, e2 _ _ h1, h2, ?_, fun p hp => ?_⟩
  · have l1 := pd_len pd
    have l2 := pd_len pd2
    have s1 := says_len a
    have s2 := says_len b
    have p1 : 2 ^ a.dep ≤ 2 ^ 10 := Nat.pow_le_pow_right (by decide) (by omega)
    have p2 : 2 ^ b.dep ≤ 2 ^ 10 := Nat.pow_le_pow_right (by decide) (by omega)
    exact Nat.le_trans (by omega : ys.length + ys2.length ≤ 2048) (by decide)
  · have e3 := same_new (o := .lst (ys ++ ys2)) hp
    exact k p _ _ (Same.trans (Same.trans e1 e2) e3) (Same.free (Same.trans e1 e2) hp) upd_same (pd_append (pd_imp (fun x s r => up_say _ _ _ _ (Same.trans e2 e3) r) pd) (pd_imp (fun x s r => up_say _ _ _ _ e3 r) pd2))
theorem ok_both (T : Txt K mg) (m : Nat) (hm : m ≤ 10) (G_spk : SpkAll P w base T m (m + 1)) : FnOk P w K mg base CX0 (m + 2) T.a_Both_spoken T.d_Both_spoken ["self"] (sp_spk T (m + 1) 5) := by
  refine T.F_Both_spoken.ok sc_Both_spoken (fun vs H Q E h => ?_) (fun cdv A outer s H vs Q E hr h => ?_)
  · obtain ⟨v, c, rfl, _⟩ := h
    rfl
  · obtain ⟨v, c, rfl, hc, ht, hd, k⟩ := h
    refine ⟨(tRet (tOp rCat (tSpk T m (tFld K (tVar 0) "left")) (tSpk T m (tFld K (tVar 0) "right")))),
(pss_one (ps_ret (pe_op op_cat (pe_spk (G_spk.mono (by omega)) (pe_fld (pv 0) rfl) hr) (pe_spk (G_spk.mono (by omega)) (pe_fld (pv 0) rfl) hr)))), ?_⟩
    cases hc <;> simp only [Cnd.tag, reduceCtorEq, Nat.reduceEqDiff] at ht
    rename_i p dx v u a b h ha hb
    refine s_give ?_
    simp only [Cnd.dep] at hd
    exact t_cat2 (ev_fld (ev_var rfl) h T.cl_Both T.n_Both_left rfl) (ev_fld (ev_var rfl) h T.cl_Both T.n_Both_right rfl) ha hb (by omega) (by omega) hm fun l ys H1 e1 hl h1 pd => k l ys H1 e1 hl h1 pd
theorem ok_either (T : Txt K mg) (m : Nat) (hm : m ≤ 10) (G_spk : SpkAll P w base T m (m + 1)) : FnOk P w K mg base CX0 (m + 2) T.a_Either_spoken T.d_Either_spoken ["self"] (sp_spk T (m + 1) 6) := by
  refine T.F_Either_spoken.ok sc_Either_spoken (fun vs H Q E h => ?_) (fun cdv A outer s H vs Q E hr h => ?_)
  · obtain ⟨v, c, rfl, _⟩ := h
    rfl
  · obtain ⟨v, c, rfl, hc, ht, hd, k⟩ := h
    refine ⟨(tRet (tOp rCat (tSpk T m (tFld K (tVar 0) "left")) (tSpk T m (tFld K (tVar 0) "right")))),
(pss_one (ps_ret (pe_op op_cat (pe_spk (G_spk.mono (by omega)) (pe_fld (pv 0) rfl) hr) (pe_spk (G_spk.mono (by omega)) (pe_fld (pv 0) rfl) hr)))), ?_⟩
    cases hc <;> simp only [Cnd.tag, reduceCtorEq, Nat.reduceEqDiff] at ht
    rename_i p dx v u a b h ha hb
    refine s_give ?_
    simp only [Cnd.dep] at hd
    exact t_cat2 (ev_fld (ev_var rfl) h T.cl_Either T.n_Either_left rfl) (ev_fld (ev_var rfl) h T.cl_Either T.n_Either_right rfl) ha hb (by omega) (by omega) hm fun l ys H1 e1 hl h1 pd => k l ys H1 e1 hl h1 pd
/-- what can't be asked is kept by any def -/
theorem ok_none {f : Addr} {fd : FuncData} {ps : List Str} {sp : Sp} {k : Nat} {CX : CXT} (h : ∀ vs H Q E, ¬ sp vs H Q E) : FnOk P w K mg base CX k f fd ps sp := ⟨fun vs H Q E z => absurd z (h vs H Q E), fun A outer s H args us vs Q E hr e0 hb hv z => absurd z (h vs H Q E)⟩
theorem deep0 {T : Txt K mg} {g : Nat} (hg : 4 ≤ g) : ∀ vs H Q E, ¬ sp_spk T 0 g vs H Q E := fun vs H Q E ⟨v, c, _, _, ht, hd, _⟩ => by
  cases c <;> simp only [Cnd.tag, Cnd.dep] at ht hd <;> omega
theorem ok_spk (T : Txt K mg) : ∀ m, m ≤ 10 → SpkAll P w base T m (m + 1)
  | 0, _ => ⟨ok_Is_spoken T 0, ok_Has_spoken T 0, ok_Above_spoken T 0, ok_Below_spoken T 0, ok_none (deep0 (by decide)), ok_none (deep0 (by decide)), ok_none (deep0 (by decide))⟩
  | m + 1, h =>
    have ih := ok_spk T m (by omega)
    ⟨(ok_Is_spoken T _).mono (by omega), (ok_Has_spoken T _).mono (by omega), (ok_Above_spoken T _).mono (by omega), (ok_Below_spoken T _).mono (by omega), ok_not T m ih, ok_both T m (by omega) ih, ok_either T m (by omega) ih⟩
end SF
namespace SF
open PySem PySem.Spec PyProof.Rows L2 GK Evl LamX
variable {P : Program} {w : World} {K : PySem.W.Frag} {mg : Str → Option Value} {base : Heap}
/-! ### what is let out -/
def Fault.cls (T : Txt K mg) : Fault → Addr
  | .count .. => T.C_BadCount
  | .name .. => T.C_NoName
  | .twice .. => T.C_Twice
  | .question .. => T.C_NoQuestion
  | .fit .. => T.C_NoFit
def Fault.fs : Fault → List (Str × V)
  | .count what n => [("count", .int n), ("what", .str what)]
  | .name s => [("name", .str s)]
  | .twice s => [("name", .str s)]
  | .question s => [("name", .str s)]
  | .fit s => [("name", .str s)]
def LetsF (T : Txt K mg) (H : Hp) (E : XK) (f : Fault) : Prop := Lets H E (f.cls T) f.fs
theorem LetsF.up {T : Txt K mg} {H H1 : Hp} {E : XK} {f : Fault} (h : LetsF T H E f) (e : Same H H1) : LetsF T H1 E f := Lets.up h e
/-- nothing is amiss, or this -/
structure Out (T : Txt K mg) (H : Hp) (Q : VK) (E : XK) (o : Option Fault) : Prop where
  ok : o = none → ∀ H', Same H H' → Q .non H'
  no : ∀ f, o = some f → LetsF T H E f
theorem Out.up {T : Txt K mg} {H H1 : Hp} {Q : VK} {E : XK} {o : Option Fault} (h : Out T H Q E o) (e : Same H H1) : Out T H1 Q E o := ⟨fun z H' e' => h.ok z H' (Same.trans e e'), fun f z => (h.no f z).up e⟩
theorem t_bad2 {T : Txt K mg} {σ : L2.St} {H : Hp} {ta tb : TE} {what : Str} {n : Int} {E : XK} {D : Ends} (ha : Ev ta σ H (.str what)) (hb : Ev tb σ H (.int n)) (l : LetsF T H E (.count what n)) : tRaiseO E (tMkO T.C_BadCount (sp_BadCount_new T) [] (tCons ta (tCons tb tNil))) D σ H :=
  t_raise2 ha hb l fun a Ha Q' E' h1 h2 => ⟨a, _, _, rfl, h1, h2⟩
/-! ### row.asked_fields() -/
theorem strs_q {H : Hp} {t : Addr} {os : List Str} (h : H t = some (.tup (os.map V.str))) : QOf K StrD H (.ref t) os := ⟨t, _, rfl, .inr (SqT.of h), pd_map os⟩
theorem strs_ql {H : Hp} {t : Addr} {os : List Str} (h : H t = some (.lst (os.map V.str))) : QOf K StrD H (.ref t) os := ⟨t, _, rfl, .inl (SqL.of h), pd_map os⟩
theorem opt_fields {T : Txt K mg} {H : Hp} {p dx t C : Addr} {fs : List (Str × V)} {os : List Str} {most : Nat} {Q : VK} {E : XK} {D : Ends} (hp : H p = some (.ins C dx fs)) (cl : Cls K C) (na : NoAttr K C "options") (lk : fs.lookup ("options" : Str) = some (V.ref t)) (ht : H t = some (.tup (os.map V.str))) (hz : os.length ≤ 1000) (hs : ∀ s ∈ os, sOk s) (o : Out T H Q E (optFault most os)) (hD : D.nx = fun _ H' => Q .non H') :
    (tSeq (tIfS (tNot (tTest (tChain (rI0 fun i j => .bl (decide (i ≤ j))) (rI0 fun i j => .bl (decide (i ≤ j))) (tC (.int 1)) (tCB (gLenQ K) (tCons (tFld K (tVar 0) "options") tNil)) (tC (.int most))))) (tRaiseO E (tMkO T.C_BadCount (sp_BadCount_new T) [] (tCons (tC (.str "options")) (tCons (tCB (gLenQ K) (tCons (tFld K (tVar 0) "options") tNil)) tNil)))) tNext)
  (tSeq (tDrop (tCall (sp_asked_names T) [] E (tCons (tFld K (tVar 0) "options") tNil)))
  (tDrop (tCall (sp_asked_once T) [] E (tCons (tFld K (tVar 0) "options") tNil))))) D [some (.ref p)] H := by
  have fl : ∀ {H1}, Same H H1 → Ev (tFld K (tVar 0) "options") [some (.ref p)] H1 (.ref t) := fun {H1} e => ev_fld (ev_var rfl) (e _ _ hp) cl na lk
  have ln : ∀ {H1}, Same H H1 → Ev (tCB (gLenQ K) (tCons (tFld K (tVar 0) "options") tNil)) [some (.ref p)] H1 (.int (os.length : Int)) := fun {H1} e => by
    have z := ev_lenS (K := K) (fl e) (.inr (SqT.of (e _ _ ht)))
    rw [List.length_map] at z
    exact z
  refine q_when (et_not (et_test (ev_chain (p := fun i j => decide (i ≤ j)) (q := fun i j => decide (i ≤ j)) (ev_c (v := .int 1)) (ln (Same.refl _)) (ev_c (v := .int most))))) (fun b H1 e1 => ?_) (fun b H1 e1 => ?_)
  · have e : optFault most os = some (.count "options" os.length) := by
      unfold optFault
      rw [if_pos]
      intro h
      have h1 : decide ((1 : Int) ≤ os.length) = true := decide_eq_true (by omega)
      have h2 : decide ((os.length : Int) ≤ (most : Int)) = true := decide_eq_true (by omega)
      rw [h1, h2] at b
      cases b
    exact t_bad2 ev_c (ln e1) ((o.no _ e).up e1)
  · have hl : 1 ≤ os.length ∧ os.length ≤ most := by
      have b' : (decide ((1 : Int) ≤ os.length) && decide ((os.length : Int) ≤ (most : Int))) = true := by simpa using b
      rw [Bool.and_eq_true] at b'
      have h1 := of_decide_eq_true b'.1
      have h2 := of_decide_eq_true b'.2
      exact ⟨by omega, by omega⟩
    have e : optFault most os = optTail os := by
      unfold optFault
      rw [if_neg (fun z => z hl)]
    refine q_do (t_call (ea_cons (fl e1) ea_nil) fun H2 e2 => ⟨.ref t, os, rfl, strs_q ((Same.trans e1 e2) _ _ ht), (fun s h => (hs s h).1), fun fb H3 e3 => ?_, fun s fb => (o.no (.name s) (by rw [e, optTail_bad fb])).up (Same.trans e1 e2)⟩)
    have e13 : Same H H3 := Same.trans (Same.trans e1 e2) e3
    refine s_do (t_call (ea_cons (fl e13) ea_nil) fun H4 e4 => ⟨.ref t, os, rfl, strs_q ((Same.trans e13 e4) _ _ ht), hz, fun fd H5 e5 => ?_, fun s fd => (o.no (.twice s) (by rw [e, optTail_dup fb, fd]; rfl)).up (Same.trans e13 e4)⟩)
    rw [hD]
    exact o.ok (by rw [e, optTail_dup fb, fd]; rfl) H5 (Same.trans (Same.trans e13 e4) e5)
def sp_One_asked_fields (T : Txt K mg) : Sp := fun vs H Q E => ∃ (v : V) (n : Str) (os : List Str) (c : Option Cnd), vs = [v] ∧ RowO T H v (.one n os c) ∧ os.length ≤ 1000 ∧ (∀ s ∈ os, sOk s) ∧ Out T H Q E (optFault 6 os)
theorem ok_One_asked_fields (T : Txt K mg) : FnOk P w K mg base (L2.CX P w) 4 T.a_One_asked_fields T.d_One_asked_fields ["self"] (sp_One_asked_fields T) := by
  have G_BadCount_new : FnOk P w K mg base CX0 1 T.a_BadCount_new T.d_BadCount_new ["self", "what", "count"] (sp_BadCount_new T) := ok_BadCount_new T
  have G_asked_names : FnOk P w K mg base (L2.CX P w) 3 T.a_asked_names T.d_asked_names ["texts"] (sp_asked_names T) := ok_asked_names T
  have G_asked_once : FnOk P w K mg base (L2.CX P w) 3 T.a_asked_once T.d_asked_once ["names"] (sp_asked_once T) := ok_asked_once T
  refine funX_ok T.F_One_asked_fields sc_One_asked_fields (fun vs H Q E h => ?_) (fun cdv A outer s H vs Q E hr h => ?_)
  · obtain ⟨v, n, os, c, rfl, _⟩ := h
    rfl
  · obtain ⟨v, n, os, c, rfl, hv, hz, hs, o⟩ := h
    refine ⟨(tSeq (tIfS (tNot (tTest (tChain (rI0 fun i j => .bl (decide (i ≤ j))) (rI0 fun i j => .bl (decide (i ≤ j))) (tC (.int 1)) (tCB (gLenQ K) (tCons (tFld K (tVar 0) "options") tNil)) (tC (.int 6))))) (tRaiseO E (tMkO T.C_BadCount (sp_BadCount_new T) [] (tCons (tC (.str "options")) (tCons (tCB (gLenQ K) (tCons (tFld K (tVar 0) "options") tNil)) tNil)))) tNext)
  (tSeq (tDrop (tCall (sp_asked_names T) [] E (tCons (tFld K (tVar 0) "options") tNil)))
  (tDrop (tCall (sp_asked_once T) [] E (tCons (tFld K (tVar 0) "options") tNil))))),
(pss_cons (ps_if (pt_not (pt_chain op_le op_le pe_int (pe_callB call_len_seq (by rfl) T.z_len (by decide +kernel) (pa_cons (pe_fld (pv 0) rfl) pa_nil)) pe_int)) (pss_one (ps_raiseE rfl (takes_of rfl rfl rfl rfl) (pmk_oex T.x_BadCount T.i_BadCount T.ti_BadCount (G_BadCount_new.mono (by omega)) hr T.b_BadCount_new .nil pass0 rfl T.gx_BadCount (pa_cons pe_str (pa_cons (pe_callB call_len_seq (by rfl) T.z_len (by decide +kernel) (pa_cons (pe_fld (pv 0) rfl) pa_nil)) pa_nil))))) pss_nil)
  (pss_cons (ps_expr (pe_call (G_asked_names.mono (by omega)) hr (by rfl) T.g_asked_names T.F_asked_names.kp T.b_asked_names .nil (passX (takes_of rfl rfl rfl rfl)) (pa_cons (pe_fld (pv 0) rfl) pa_nil)))
  (pss_one (ps_expr (pe_call (G_asked_once.mono (by omega)) hr (by rfl) T.g_asked_once T.F_asked_once.kp T.b_asked_once .nil (passX (takes_of rfl rfl rfl rfl)) (pa_cons (pe_fld (pv 0) rfl) pa_nil)))))), ?_⟩
    cases hv with
    | one hp ht hw => exact opt_fields (most := 6) hp T.cl_One T.n_One_options rfl ht hz hs o rfl
def sp_Some_asked_fields (T : Txt K mg) : Sp := fun vs H Q E => ∃ (v : V) (n : Str) (os : List Str) (c : Option Cnd), vs = [v] ∧ RowO T H v (.som n os c) ∧ os.length ≤ 1000 ∧ (∀ s ∈ os, sOk s) ∧ Out T H Q E (optFault 4 os)
theorem ok_Some_asked_fields (T : Txt K mg) : FnOk P w K mg base (L2.CX P w) 4 T.a_Some_asked_fields T.d_Some_asked_fields ["self"] (sp_Some_asked_fields T) := by
  have G_BadCount_new : FnOk P w K mg base CX0 1 T.a_BadCount_new T.d_BadCount_new ["self", "what", "count"] (sp_BadCount_new T) := ok_BadCount_new T
  have G_asked_names : FnOk P w K mg base (L2.CX P w) 3 T.a_asked_names T.d_asked_names ["texts"] (sp_asked_names T) := ok_asked_names T
  have G_asked_once : FnOk P w K mg base (L2.CX P w) 3 T.a_asked_once T.d_asked_once ["names"] (sp_asked_once T) := ok_asked_once T
  refine funX_ok T.F_Some_asked_fields sc_Some_asked_fields (fun vs H Q E h => ?_) (fun cdv A outer s H vs Q E hr h => ?_)
  · obtain ⟨v, n, os, c, rfl, _⟩ := h
    rfl
  · obtain ⟨v, n, os, c, rfl, hv, hz, hs, o⟩ := h
    refine ⟨(tSeq (tIfS (tNot (tTest (tChain (rI0 fun i j => .bl (decide (i ≤ j))) (rI0 fun i j => .bl (decide (i ≤ j))) (tC (.int 1)) (tCB (gLenQ K) (tCons (tFld K (tVar 0) "options") tNil)) (tC (.int 4))))) (tRaiseO E (tMkO T.C_BadCount (sp_BadCount_new T) [] (tCons (tC (.str "options")) (tCons (tCB (gLenQ K) (tCons (tFld K (tVar 0) "options") tNil)) tNil)))) tNext)
  (tSeq (tDrop (tCall (sp_asked_names T) [] E (tCons (tFld K (tVar 0) "options") tNil)))
  (tDrop (tCall (sp_asked_once T) [] E (tCons (tFld K (tVar 0) "options") tNil))))),
(pss_cons (ps_if (pt_not (pt_chain op_le op_le pe_int (pe_callB call_len_seq (by rfl) T.z_len (by decide +kernel) (pa_cons (pe_fld (pv 0) rfl) pa_nil)) pe_int)) (pss_one (ps_raiseE rfl (takes_of rfl rfl rfl rfl) (pmk_oex T.x_BadCount T.i_BadCount T.ti_BadCount (G_BadCount_new.mono (by omega)) hr T.b_BadCount_new .nil pass0 rfl T.gx_BadCount (pa_cons pe_str (pa_cons (pe_callB call_len_seq (by rfl) T.z_len (by decide +kernel) (pa_cons (pe_fld (pv 0) rfl) pa_nil)) pa_nil))))) pss_nil)
  (pss_cons (ps_expr (pe_call (G_asked_names.mono (by omega)) hr (by rfl) T.g_asked_names T.F_asked_names.kp T.b_asked_names .nil (passX (takes_of rfl rfl rfl rfl)) (pa_cons (pe_fld (pv 0) rfl) pa_nil)))
  (pss_one (ps_expr (pe_call (G_asked_once.mono (by omega)) hr (by rfl) T.g_asked_once T.F_asked_once.kp T.b_asked_once .nil (passX (takes_of rfl rfl rfl rfl)) (pa_cons (pe_fld (pv 0) rfl) pa_nil)))))), ?_⟩
    cases hv with
    | som hp ht hw => exact opt_fields (most := 4) hp T.cl_Some T.n_Some_options rfl ht hz hs o rfl
def sp_Number_asked_fields (T : Txt K mg) : Sp := fun vs H Q E => ∃ (v : V) (n : Str) (lo hi : Int) (c : Option Cnd), vs = [v] ∧ RowO T H v (.number n lo hi c) ∧ Out T H Q E (if lo > hi then some (.count "bounds" hi) else none)
theorem ok_Number_asked_fields (T : Txt K mg) : FnOk P w K mg base (L2.CX P w) 4 T.a_Number_asked_fields T.d_Number_asked_fields ["self"] (sp_Number_asked_fields T) := by
  have G_BadCount_new : FnOk P w K mg base CX0 1 T.a_BadCount_new T.d_BadCount_new ["self", "what", "count"] (sp_BadCount_new T) := ok_BadCount_new T
  refine funX_ok T.F_Number_asked_fields sc_Number_asked_fields (fun vs H Q E h => ?_) (fun cdv A outer s H vs Q E hr h => ?_)
  · obtain ⟨v, n, lo, hi, c, rfl, _⟩ := h
    rfl
  · obtain ⟨v, n, lo, hi, c, rfl, hv, o⟩ := h
    refine ⟨(tIfS (tTest (tOp (rI0 fun i j => .bl (decide (j < i))) (tFld K (tVar 0) "low") (tFld K (tVar 0) "high"))) (tRaiseO E (tMkO T.C_BadCount (sp_BadCount_new T) [] (tCons (tC (.str "bounds")) (tCons (tFld K (tVar 0) "high") tNil)))) tNext),
(pss_one (ps_if (pt_cmpR op_gt (pe_fld (pv 0) rfl) (pe_fld (pv 0) rfl) (nomark _)) (pss_one (ps_raiseE rfl (takes_of rfl rfl rfl rfl) (pmk_oex T.x_BadCount T.i_BadCount T.ti_BadCount (G_BadCount_new.mono (by omega)) hr T.b_BadCount_new .nil pass0 rfl T.gx_BadCount (pa_cons pe_str (pa_cons (pe_fld (pv 0) rfl) pa_nil))))) pss_nil)), ?_⟩
    cases hv with
    | number hp hw =>
      refine s_when (b := decide (hi < lo)) (et_test (ev_oI (ev_fld (ev_var rfl) hp T.cl_Number T.n_Number_low rfl) (ev_fld (ev_var rfl) hp T.cl_Number T.n_Number_high rfl))) (fun b H1 e1 => ?_) (fun b H1 e1 => ?_)
      · exact t_bad2 ev_c (ev_fld (ev_var rfl) (e1 _ _ hp) T.cl_Number T.n_Number_high rfl) ((o.no _ (if_pos (of_decide_eq_true b))).up e1)
      · exact o.ok (if_neg (of_decide_eq_false b)) H1 e1
def sp_Row_asked_fields (T : Txt K mg) : Sp := fun vs H Q _ => ∃ v, vs = [v] ∧ ∀ H', Same H H' → Q .non H'
theorem ok_Row_asked_fields (T : Txt K mg) : FnOk P w K mg base CX0 1 T.a_Row_asked_fields T.d_Row_asked_fields ["self"] (sp_Row_asked_fields T) := by
  refine T.F_Row_asked_fields.ok sc_Row_asked_fields (fun vs H Q E h => ?_) (fun cdv A outer s H vs Q E hr h => ?_)
  · obtain ⟨v, rfl, _⟩ := h
    rfl
  · obtain ⟨v, rfl, k⟩ := h
    refine ⟨(tRet (tC .non)),
(pss_one (ps_ret pe_non)), ?_⟩
    exact s_ret ev_c fun H1 e1 => k H1 e1
/-! ### many_rows -/
def sp_many_rows (T : Txt K mg) (m : Nat) : Sp := fun vs H Q _ => ∃ (t : Addr) (us : List V) (rows : List Rw), vs = [.ref t] ∧ H t = some (.tup us) ∧ RowsO T H us rows ∧ (∀ r ∈ rows, r.dep < m) ∧ cnts rows ≤ 90000 ∧ ∀ H', Same H H' → Q (.int (cnts rows : Int)) H'
theorem cnts_sum : ∀ rows : List Rw, (rows.map fun r => (r.cnt : Int)).sum = (cnts rows : Int)
  | [] => by simp [cnts]
  | r :: rs => by simp [cnts, cnts_sum rs]
theorem cnt_inner (r : Rw) : (r.cnt : Int) = 1 + (cnts r.inner : Int) := by
  cases r <;> simp [Rw.cnt, Rw.inner, cnts] <;> omega
theorem dep_inner {r x : Rw} {m : Nat} (h : r.dep < m + 1) (hx : x ∈ r.inner) : x.dep < m := by
  cases r with
  | sec rows c => simp only [Rw.dep, Rw.inner] at h hx; have := deps_mem hx; omega
  | rnd n rows c => simp only [Rw.dep, Rw.inner] at h hx; have := deps_mem hx; omega
  | _ => simp [Rw.inner] at hx
/-- over a tuple of things -/
theorem el_lcTu {α : Type} {σ : L2.St} {H : Hp} {tl te : TE} {t : Addr} {xs : List V} {S : Hp → V → α → Prop} {as : List α} {vs : List Nat} {j : Nat} {F : α → V} (up : Up S) (ha : Ev tl σ H (.ref t)) (ht : H t = some (.tup xs)) (hp : Paired (S H) xs as) (hz : as.length ≤ 90000) (hw : ∀ x, wipe ((wipe σ vs).set j (some x)) vs = wipe σ vs)
    (he : ∀ H1, Same H H1 → ∀ (i : Nat) b x, as[i]? = some b → S H1 x b → Ev te ((wipe σ vs).set j (some x)) H1 (F b)) : EvL (tLc (iTup K tl) (gName j) tYes te vs) σ H (as.map F) := fun H0 e Q q =>
  ha H0 e _ fun H1 e1 => ⟨t, rfl, ⟨xs, SqT.of ((Same.trans e e1) _ _ ht)⟩, fun Dl hD => by
    have hl := pd_len hp
    refine lc_pure (walk_tup (K := K) (a := t) (xs := xs)) (fun i x => xs[i]? = some x) (fun i H x H' _ y => y) (fun H' e' => SqT.of ((Same.trans (Same.trans e e1) e') _ _ ht)) hD as hl.symm (by omega) (fun _ => true) (fun b _ v => v = F b) (fun _ _ _ _ _ h => h) (fun i b x hb hx => ?_) (fun ys H2 e2 hly pd => ?_)
    · obtain ⟨c, h1, h2⟩ := pd_get hp hx
      rw [hb] at h1
      cases h1
      exact el_en (hw _) (en_of (he H1 (Same.trans e e1) i b x hb (up _ _ _ _ (Same.trans e e1) h2)))
    · rw [filter_yes] at pd
      rw [pd_eq (f := F) pd] at hly
      exact q Dl H2 (fresh_back e1 hD) (Same.trans e1 e2) hly⟩
theorem many_body (T : Txt K mg) (sp' : Sp) (m k : Nat) (G_many_rows : FnOk P w K mg base CX0 (k + 1) T.a_many_rows T.d_many_rows ["rows"] sp')
    (hc : ∀ (r : Rw) (t : Addr) (us : List V) (H : Hp) (Q : VK) (E : XK), r.dep < m → r.cnt ≤ 90000 → H t = some (.tup us) → RowsO T H us r.inner → (∀ H', Same H H' → Q (.int (cnts r.inner : Int)) H') → sp' [.ref t] H Q E) :
    FnOk P w K mg base CX0 (k + 2) T.a_many_rows T.d_many_rows ["rows"] (sp_many_rows T m) := by
  refine T.F_many_rows.ok sc_many_rows (fun vs H Q E h => ?_) (fun cdv A outer s H vs Q E hr h => ?_)
  · obtain ⟨t, us, rows, rfl, _⟩ := h
    rfl
  · obtain ⟨t, us, rows, rfl, ht, hr', hd, hz, q⟩ := h
    refine ⟨(tRet (tCB (rSum K) (tCons (tLc (iTup K (tVar 0)) (gName 1) tYes (tOp (rI0 fun i j => .int (i + j)) (tC (.int 1)) (tCall sp' [] E0 (tCons (tWithin T (tVar 1)) tNil))) [1]) tNil))),
(pss_one (ps_ret (pe_callB (cr_sum rfl) (by rfl) T.z_sum (by decide +kernel) (pa_cons (pe_lc (own := [("row", 1)]) (g := (gName 1)) (tt := tYes) (te := (tOp (rI0 fun i j => .int (i + j)) (tC (.int 1)) (tCall sp' [] E0 (tCons (tWithin T (tVar 1)) tNil)))) rfl sc_many_rows.nd (pi_tup (pv 0)) (blkOk_by (N := ["rows", "row"]) (sc := defScope s_many_rows) (own := [("row", 1)]) (by decide +kernel)) (fun _ _ _ _ _ => (pg_name (i := 1) sc_many_rows.nd rfl (.inl rfl))) (fun _ _ _ _ _ => pts_nil) (fun _ _ _ _ _ => (pe_op op_add pe_int (pe_call (G_many_rows.mono (by omega)) hr (by rfl) T.g_many_rows T.F_many_rows.kp T.b_many_rows .nil pass0 (pa_cons (pe_within (pv 1) hr) pa_nil))))) pa_nil)))), ?_⟩
    have hl := len_cnts rows
    refine s_ret (v := .int (cnts rows : Int)) ?_ fun H1 e1 => q H1 e1
    rw [← cnts_sum]
    refine ev_sumN (ns := rows.map fun r => (r.cnt : Int)) ?_
    rw [List.map_map]
    refine el_lcTu (S := RowO T) (F := V.int ∘ fun r => (r.cnt : Int)) (fun _ _ _ _ e h => h.up e) (ev_var rfl) ht hr'.pd (by omega) (fun x => rfl) fun H1 e1 i r x hi hx => ?_
    have mem := List.mem_of_getElem? hi
    have hcr := cnt_mem mem
    show Ev _ _ _ (.int (r.cnt : Int))
    rw [cnt_inner]
    refine ev_oI (g := fun i j => .int (i + j)) ev_c fun H2 e2 Q' q' => ?_
    refine t_within (ev_var rfl) (hx.up e2) fun t' us' H3 e3 h3 r3 => ?_
    exact hc r t' us' H3 Q' _ (hd r mem) (by omega) h3 r3 fun H4 e4 => q' H4 (Same.trans e3 e4)
theorem ok_many_rows (T : Txt K mg) : ∀ m, FnOk P w K mg base CX0 (m + 2) T.a_many_rows T.d_many_rows ["rows"] (sp_many_rows T m)
  | 0 => many_body T (fun _ _ _ _ => False) 0 0 (ok_none fun _ _ _ _ h => h) fun r t us H Q E h => by omega
  | m + 1 => many_body T (sp_many_rows T m) (m + 1) (m + 1) (ok_many_rows T m) fun r t us H Q E h hz ht hr q => ⟨t, us, r.inner, rfl, ht, hr, fun x hx => dep_inner h hx, by have := cnt_inner r; omega, q⟩
end SF
namespace SF
open PySem PySem.Spec PyProof.Rows L2 GK Evl LamX
variable {P : Program} {w : World} {K : PySem.W.Frag} {mg : Str → Option Value} {base : Heap}
/-! ### a form that is looked through -/
def hereV : Nat → V
  | 0 => .non
  | n + 1 => .int ((n + 1 : Nat) : Int)
def AskD (T : Txt K mg) (H : Hp) (kv : Key × V) (a : Str × Rw × Nat) : Prop := kv.1 = Sum.inr a.1 ∧ ∃ t v, kv.2 = .ref t ∧ H t = some (.tup [v, hereV a.2.2]) ∧ RowO T H v a.2.1
theorem AskD.up {T : Txt K mg} {H H' : Hp} (e : Same H H') {kv : Key × V} {a : Str × Rw × Nat} (h : AskD T H kv a) : AskD T H' kv a := by
  obtain ⟨h1, t, v, h2, h3, h4⟩ := h
  exact ⟨h1, t, v, h2, e _ _ h3, h4.up e⟩
structure FormAt (T : Txt K mg) (H : Hp) (p l d : Addr) (tv : V) (st : Stt) : Prop where
  obj : ∃ dx, H p = some (.ins T.C_Form dx [("top", tv), ("named", .ref l), ("asked", .ref d), ("rounds", .int (st.rounds : Int))])
  nam : H l = some (.lst (st.named.map V.str))
  ask : ∃ kvs, H d = some (.dK kvs) ∧ Paired (AskD T (offS [p, l, d] H)) kvs st.asked
theorem FormAt.up {T : Txt K mg} {H H' : Hp} {p l d : Addr} {tv : V} {st : Stt} (h : FormAt T H p l d tv st) (e : Same H H') : FormAt T H' p l d tv st := by
  obtain ⟨⟨dx, h1⟩, h2, kvs, h3, h4⟩ := h
  exact ⟨⟨dx, e _ _ h1⟩, e _ _ h2, kvs, e _ _ h3, pd_imp (fun _ _ r => r.up (offS_mono e)) h4⟩
theorem FormAt.ne {T : Txt K mg} {H : Hp} {p l d : Addr} {tv : V} {st : Stt} (h : FormAt T H p l d tv st) : p ≠ l ∧ p ≠ d ∧ l ≠ d := by
  obtain ⟨⟨dx, h1⟩, h2, kvs, h3, h4⟩ := h
  exact ⟨ne_of h1 h2 (fun z => nomatch z), ne_of h1 h3 (fun z => nomatch z), ne_of h2 h3 (fun z => nomatch z)⟩
theorem ask_get {T : Txt K mg} {H : Hp} {n : Str} : ∀ {kvs : List (Key × V)} {as : List (Str × Rw × Nat)}, Paired (AskD T H) kvs as → (getA as n = none ∧ valV kvs (Sum.inr n) = none) ∨ ∃ r h t v, getA as n = some (r, h) ∧ valV kvs (Sum.inr n) = some (.ref t) ∧ H t = some (.tup [v, hereV h]) ∧ RowO T H v r
  | _, _, .nil => .inl ⟨rfl, rfl⟩
  | _, _, .cons (a := kv) (b := a) r t => by
    obtain ⟨h1, t', v, h2, h3, h4⟩ := r
    by_cases e : a.1 = n
    · refine .inr ⟨a.2.1, a.2.2, t', v, ?_, ?_, h3, h4⟩
      · unfold getA
        rw [List.find?_cons_of_pos (by simpa using e)]
        rfl
      · rw [valV_pos (by rw [h1, e]), h2]
    · have e1 : ¬ kv.1 = Sum.inr n := fun z => e (by rw [h1] at z; exact Sum.inr.inj z)
      have g : ∀ as', getA (a :: as') n = getA as' n := fun as' => by
        unfold getA
        rw [List.find?_cons_of_neg (by simpa using e)]
      rcases ask_get (n := n) t with ⟨h5, h6⟩ | ⟨r, h, t2, v2, h5, h6, h7, h8⟩
      · exact .inl ⟨by rw [g]; exact h5, by rw [valV_neg e1]; exact h6⟩
      · exact .inr ⟨r, h, t2, v2, by rw [g]; exact h5, by rw [valV_neg e1]; exact h6, h7, h8⟩
theorem t_methA {C : Addr} {m : Str} {sp : Sp} {ta : TE} {t : TA} {vs : List V} {σ : L2.St} {H : Hp} {p dx : Addr} {fs : List (Str × V)} {Q : VK} {E : XK} (ha : Ev ta σ H (.ref p)) (h : H p = some (.ins C dx fs)) (hl : fs.lookup m = none) (hb : EvA t σ H vs) (k : ∀ H1, Same H H1 → sp (.ref p :: vs) H1 Q E) : tMeth C m sp [] E ta t σ H Q :=
  ha H (Same.refl _) _ fun H1 e1 => ⟨p, dx, fs, rfl, e1 _ _ h, hl, hb H1 e1 _ fun H2 e2 => by rw [List.append_nil]; exact k H2 (Same.trans e1 e2)⟩
theorem ev_dni {σ : L2.St} {H : Hp} {ta tb : TE} {y : V} {a : Addr} {o : Option V} (ha : Ev ta σ H y) (hb : Ev tb σ H (.ref a)) (g : DGet H a y o) : Ev (tDNotIn ta tb) σ H (.bl (!o.isSome)) := fun H1 e Q q =>
  ha H1 e _ fun H2 e2 => hb H2 (e.trans e2) _ fun H3 e3 => ⟨a, o, rfl, dget_up ((e.trans e2).trans e3) g, q H3 (e2.trans e3)⟩
theorem in_here (h here : Nat) : inV (hereV h) [.non, hereV here] = decide (h = 0 ∨ h = here) := by
  cases h with
  | zero => simp [inV, hereV, eqV]
  | succ h =>
    cases here with
    | zero => simp [inV, hereV, eqV]
    | succ k =>
      show (false || ((((k + 1 : Nat) : Int) == ((h + 1 : Nat) : Int)) || false)) = _
      rw [Bool.false_or, Bool.or_false, Bool.eq_iff_iff, beq_iff_eq, decide_eq_true_iff]
      omega
theorem flat_here (n : Nat) : flatV (hereV n) = true := by cases n <;> rfl
/-! ### form.spoken_of(name, here) -/
def sp_Form_spoken_of (T : Txt K mg) : Sp := fun vs H Q E => ∃ (p l d : Addr) (tv : V) (st : Stt) (n : Str) (here : Nat), vs = [.ref p, .str n, hereV here] ∧ FormAt T H p l d tv st ∧
  (∀ r, speak st n here = .ok r → ∀ v H', Same H H' → RowO T (offS [p, l, d] H') v r → Q v H') ∧ (∀ f, speak st n here = .error f → LetsF T H E f)
theorem ok_Form_spoken_of (T : Txt K mg) : FnOk P w K mg base (L2.CX P w) 3 T.a_Form_spoken_of T.d_Form_spoken_of ["self", "name", "here"] (sp_Form_spoken_of T) := by
  have G_NoQuestion_new : FnOk P w K mg base CX0 1 T.a_NoQuestion_new T.d_NoQuestion_new ["self", "name"] (sp_NoQuestion_new T) := ok_NoQuestion_new T
  refine funX_ok T.F_Form_spoken_of sc_Form_spoken_of (fun vs H Q E h => ?_) (fun cdv A outer s H vs Q E hr h => ?_)
  · obtain ⟨p, l, d, tv, st, n, here, rfl, _⟩ := h
    rfl
  · obtain ⟨p, l, d, tv, st, n, here, rfl, F, k1, k2⟩ := h
    refine ⟨(tSeq (tIfS (tOr (tB (tDNotIn (tVar 1) (tFld K (tVar 0) "asked"))) (tTest (tOp (rIn K true) (tOp (rIxT K) (tDGet (tFld K (tVar 0) "asked") (tVar 1)) (tC (.int 1))) (tTup (tCons (tC .non) (tCons (tVar 2) tNil)))))) (tRaiseO E (tMkO T.C_NoQuestion (sp_NoQuestion_new T) [] (tCons (tVar 1) tNil))) tNext)
  (tRet (tOp (rIxT K) (tDGet (tFld K (tVar 0) "asked") (tVar 1)) (tC (.int 0))))),
(pss_cons (ps_if (PW.pt (pw_or (pt_cmp (pc_dnotin (hu_of hr) (pv 1) (pe_fld (pv 0) rfl))) (pw_or1 (pt_cmpR op_notIn_seq (pe_ix ix_tup (pe_dget (hu_of hr) (pe_fld (pv 0) rfl) (pv 1) (fun _ _ => rfl)) pe_int (fun _ _ => rfl)) (pe_tup (pa_cons pe_non (pa_cons (pv 2) pa_nil))) (by rfl))))) (pss_one (ps_raiseE rfl (takes_of rfl rfl rfl rfl) (pmk_oex T.x_NoQuestion T.i_NoQuestion T.ti_NoQuestion (G_NoQuestion_new.mono (by omega)) hr T.b_NoQuestion_new .nil pass0 rfl T.gx_NoQuestion (pa_cons (pv 1) pa_nil)))) pss_nil)
  (PSs.nox (pss_one (ps_ret (pe_ix ix_tup (pe_dget (hu_of hr) (pe_fld (pv 0) rfl) (pv 1) (fun _ _ => rfl)) pe_int (fun _ _ => rfl)))))), ?_⟩
    obtain ⟨⟨dx, ob⟩, _, kvs, hd, pd⟩ := id F
    have fl : ∀ {H1}, Same H H1 → Ev (tFld K (tVar 0) "asked") [some (.ref p), some (.str n), some (hereV here)] H1 (.ref d) := fun {H1} e => ev_fld (ev_var rfl) (e _ _ ob) T.cl_Form T.n_Form_asked rfl
    have dg : ∀ {H1}, Same H H1 → DGet H1 d (.str n) (valV kvs (Sum.inr n)) := fun {H1} e => DGet.k (k := (Sum.inr n : Key)) (e _ _ hd)
    have raise : ∀ {H1} {D : Ends}, Same H H1 → speak st n here = .error (.question n) → tRaiseO E (tMkO T.C_NoQuestion (sp_NoQuestion_new T) [] (tCons (tVar 1) tNil)) D [some (.ref p), some (.str n), some (hereV here)] H1 := fun {H1 D} e h =>
      t_raise1 (ev_var (i := 1) rfl) ((k2 _ h).up e) fun a Ha Q' E' h1 h2 => ⟨a, _, rfl, h1, h2⟩
    rcases ask_get (n := n) pd with ⟨h1, h2⟩ | ⟨r, h, t, v, h1, h2, h3, h4⟩
    · have z := ev_dni (ev_var (σ := [some (.ref p), some (.str n), some (hereV here)]) (i := 1) rfl) (fl (Same.refl _)) (dg (Same.refl _))
      rw [h2] at z
      refine q_when (b := true) (et_or (a := true) (b := false) (et_B z) (fun z => by cases z)) (fun _ H1 e1 => ?_) (fun z => by cases z)
      exact raise e1 (by unfold speak; rw [h1])
    · have ht : H t = some (.tup [v, hereV h]) := (offS_some.mp h3).2
      have dgv : ∀ {H1}, Same H H1 → Ev (tDGet (tFld K (tVar 0) "asked") (tVar 1)) [some (.ref p), some (.str n), some (hereV here)] H1 (.ref t) := fun {H1} e => ev_dget (fl e) (ev_var rfl) (by have := dg e; rw [h2] at this; exact this)
      have z := ev_dni (ev_var (σ := [some (.ref p), some (.str n), some (hereV here)]) (i := 1) rfl) (fl (Same.refl _)) (dg (Same.refl _))
      rw [h2] at z
      refine q_when (b := !decide (h = 0 ∨ h = here)) (et_or (a := false) (et_B z) (fun _ => et_test ?_)) (fun b H1 e1 => ?_) (fun b H1 e1 => ?_)
      · have y := ev_niU (K := K) (xs := [.non, hereV here]) (ev_ixT (K := K) (dgv (Same.refl _)) (ev_c (v := .int 1)) (SqT.of ht) (atI_nat (j := 1) rfl)) (eu_tup (ea_cons (ev_c (v := .non)) (ea_cons (ev_var (i := 2) rfl) ea_nil)) small2) (flat_here h) (by show (flatV .non && (flatV (hereV here) && true)) = true; rw [flat_here]; rfl)
        rw [in_here] at y
        exact y
      · refine raise e1 ?_
        unfold speak
        rw [h1]
        show (if h = 0 ∨ h = here then _ else _) = _
        rw [if_neg (of_decide_eq_false (by simpa only [Bool.not_eq_true'] using b))]
      · have e : speak st n here = .ok r := by
          unfold speak
          rw [h1]
          show (if h = 0 ∨ h = here then _ else _) = _
          rw [if_pos (of_decide_eq_true (by simpa only [Bool.not_eq_false'] using b))]
        exact s_ret (ev_ixT (K := K) (dgv e1) (ev_c (v := .int 0)) (SqT.of (e1 _ _ ht)) (atI_nat (j := 0) rfl)) fun H2 e2 => k1 r e _ H2 (Same.trans e1 e2) (h4.up (offS_mono (Same.trans e1 e2)))
/-! ### form.look_at_condition(condition, here) -/
theorem rv_notN {H : Hp} {x : V} : RV rNotN x .non H (.bl (!decide (x = .non))) := fun H1 _ _ q => ⟨rfl, q H1 (Same.refl _)⟩
theorem says_kind : ∀ (c : Cnd) (s : Say), s ∈ says c → (s.2.2 = none ∧ s.2.1 = "number") ∨ ∃ o, s.2.2 = some o ∧ (s.2.1 = "one" ∨ s.2.1 = "some")
  | .is .., s, h => by rw [says, List.mem_singleton] at h; subst h; exact .inr ⟨_, rfl, .inl rfl⟩
  | .has .., s, h => by rw [says, List.mem_singleton] at h; subst h; exact .inr ⟨_, rfl, .inr rfl⟩
  | .abv .., s, h => by rw [says, List.mem_singleton] at h; subst h; exact .inl ⟨rfl, rfl⟩
  | .blw .., s, h => by rw [says, List.mem_singleton] at h; subst h; exact .inl ⟨rfl, rfl⟩
  | .not c, s, h => says_kind c s h
  | .both a b, s, h => by rw [says, List.mem_append] at h; exact h.elim (says_kind a s) (says_kind b s)
  | .either a b, s, h => by rw [says, List.mem_append] at h; exact h.elim (says_kind a s) (says_kind b s)
theorem in_strs {s : Str} : ∀ {ss : List Str}, inV (.str s) (ss.map V.str) = decide (s ∈ ss)
  | [] => rfl
  | t :: ss => by
    show ((t == s) || inV (.str s) (ss.map V.str)) = _
    rw [in_strs]
    by_cases h : t = s
    · subst h; simp
    · have h2 : ¬ s = t := fun z => h z.symm
      have e1 : (t == s) = false := by simpa using h
      rw [e1, Bool.false_or]
      by_cases h3 : s ∈ ss <;> simp [h2, h3]
theorem flat_vs : ∀ {ss : List Str}, (ss.map V.str).all flatV = true
  | [] => rfl
  | _ :: ss => by rw [List.map_cons, List.all_cons, flat_vs]; rfl
theorem row_opts {T : Txt K mg} {H : Hp} {v : V} {r : Rw} (h : RowO T H v r) (hk : r.kind = "one" ∨ r.kind = "some") : ∃ (p C dx t : Addr) (fs : List (Str × V)), v = .ref p ∧ H p = some (.ins C dx fs) ∧ Cls K C ∧ NoAttr K C "options" ∧ fs.lookup ("options" : Str) = some (V.ref t) ∧ H t = some (.tup (r.opts.map V.str)) := by
  cases h with
  | one h ht hw => exact ⟨_, _, _, _, _, rfl, h, T.cl_One, T.n_One_options, rfl, ht⟩
  | som h ht hw => exact ⟨_, _, _, _, _, rfl, h, T.cl_Some, T.n_Some_options, rfl, ht⟩
  | number h hw => exact hk.elim (fun z => absurd (show ("number" : Str) = "one" from z) (by decide)) (fun z => absurd (show ("number" : Str) = "some" from z) (by decide))
  | check h hm hw => exact hk.elim (fun z => absurd (show ("check" : Str) = "one" from z) (by decide)) (fun z => absurd (show ("check" : Str) = "some" from z) (by decide))
  | sec h ht hr hw => exact hk.elim (fun z => absurd (show ("section" : Str) = "one" from z) (by decide)) (fun z => absurd (show ("section" : Str) = "some" from z) (by decide))
  | rnd h ht hr hw => exact hk.elim (fun z => absurd (show ("rounds" : Str) = "one" from z) (by decide)) (fun z => absurd (show ("rounds" : Str) = "some" from z) (by decide))
theorem et_fits {T : Txt K mg} {H : Hp} {σ : L2.St} {v : V} {r : Rw} {s : Say} {i j k : Nat} (h : RowO T H v r) (hi : σ[i]? = some (some v)) (hj : σ[j]? = some (some (.str s.2.1))) (hk : σ[k]? = some (some (oS s.2.2))) (hs : (s.2.2 = none ∧ s.2.1 = "number") ∨ ∃ o, s.2.2 = some o ∧ (s.2.1 = "one" ∨ s.2.1 = "some")) :
    EvT (tOr (tTest (tOp rNe (tKind T (tVar i)) (tVar j))) (tAnd (tTest (tOp rNotN (tVar k) (tC .non))) (tTest (tOp (rIn K true) (tVar k) (tFld K (tVar i) "options"))))) σ H (!sayFits r s) := by
  have t1 := et_test (ev_neS (ev_kind (T := T) (ev_var hi) h) (ev_var hj) rfl)
  rw [GK.dec_str] at t1
  have t2 := et_test (ev_op (ev_var (H := H) hk) ev_c rv_notN)
  unfold sayFits
  by_cases hkd : r.kind = s.2.1
  · rw [decide_eq_true hkd] at t1 ⊢
    rw [Bool.true_and]
    rcases hs with ⟨h1, _⟩ | ⟨o, h1, h2⟩
    · rw [h1] at t2 ⊢
      exact et_or (a := false) (b := false) t1 fun _ => et_and (a := false) (b := false) t2 fun z => by cases z
    · rw [h1] at t2 ⊢
      obtain ⟨p, C, dx, t, fs, rfl, hp, cl, na, lk, ht⟩ := row_opts h (by rw [hkd]; exact h2)
      refine et_or (a := false) t1 fun _ => et_and (a := true) t2 fun _ => et_test ?_
      have z := ev_op (ev_var (H := H) hk) (ev_fld (ev_var hi) hp cl na lk) (rv_niT (K := K) (x := oS s.2.2) (SqT.of ht) (by rw [h1]; rfl) flat_vs)
      rw [h1] at z
      have e : inV (oS (some o)) (r.opts.map V.str) = decide (o ∈ r.opts) := in_strs
      rw [e] at z
      exact z
  · rw [decide_eq_false hkd] at t1 ⊢
    exact et_or (a := true) (b := false) t1 fun z => by cases z
def sp_Form_look_at_condition (T : Txt K mg) : Sp := fun vs H Q E => ∃ (p l d : Addr) (tv cv : V) (st : Stt) (c : Cnd) (here : Nat), vs = [.ref p, cv, hereV here] ∧ FormAt T H p l d tv st ∧ CondO T H cv c ∧ c.dep ≤ DP ∧ Out T H Q E (condFault st here c)
theorem some_take {α β : Type} {f : α → Option β} {as : List α} {i : Nat} {a : α} (h : (as.take i).findSome? f = none) (ha : as[i]? = some a) : (∀ b, f a = some b → as.findSome? f = some b) ∧ (f a = none → (as.take (i + 1)).findSome? f = none) := by
  have tk : as.take (i + 1) = as.take i ++ [a] := by rw [List.take_succ, ha]; rfl
  refine ⟨fun b hb => ?_, fun hb => ?_⟩
  · have z : as = as.take i ++ a :: as.drop (i + 1) := by
      obtain ⟨lt, es⟩ := List.getElem?_eq_some_iff.mp ha
      conv => lhs; rw [← List.take_append_drop i as, List.drop_eq_getElem_cons lt, es]
    rw [z, List.findSome?_append, h, List.findSome?_cons, hb]
    rfl
  · rw [tk, List.findSome?_append, h, List.findSome?_cons, hb]
    rfl
theorem ok_Form_look_at_condition (T : Txt K mg) : FnOk P w K mg base (L2.CX P w) 6 T.a_Form_look_at_condition T.d_Form_look_at_condition ["self", "condition", "here"] (sp_Form_look_at_condition T) := by
  have G_NoFit_new : FnOk P w K mg base CX0 1 T.a_NoFit_new T.d_NoFit_new ["self", "name"] (sp_NoFit_new T) := ok_NoFit_new T
  have G_Form_spoken_of : FnOk P w K mg base (L2.CX P w) 3 T.a_Form_spoken_of T.d_Form_spoken_of ["self", "name", "here"] (sp_Form_spoken_of T) := ok_Form_spoken_of T
  have G_spk : SpkAll P w base T DP 5 := ok_spk T 4 (by decide)
  refine funX_ok T.F_Form_look_at_condition sc_Form_look_at_condition (fun vs H Q E h => ?_) (fun cdv A outer s H vs Q E hr h => ?_)
  · obtain ⟨p, l, d, tv, cv, st, c, here, rfl, _⟩ := h
    rfl
  · obtain ⟨p, l, d, tv, cv, st, c, here, rfl, F, hc, hd, o⟩ := h
    refine ⟨(tFor (iList K (tSpk T DP (tVar 1))) (gTup K 3 (gCons (gName 3) (gCons (gName 4) (gCons (gName 5) gNil))))
  (tSeq (tAsg (tMeth T.C_Form "spoken_of" (sp_Form_spoken_of T) [] E (tVar 0) (tCons (tVar 3) (tCons (tVar 2) tNil))) (gName 6))
  (tIfS (tOr (tTest (tOp rNe (tKind T (tVar 6)) (tVar 4))) (tAnd (tTest (tOp rNotN (tVar 5) (tC .non))) (tTest (tOp (rIn K true) (tVar 5) (tFld K (tVar 6) "options"))))) (tRaiseO E (tMkO T.C_NoFit (sp_NoFit_new T) [] (tCons (tVar 3) tNil))) tNext))),
(pss_one (ps_for (passes_of rfl) rfl (pi_list (pe_spk (G_spk.mono (by omega)) (pv 1) hr)) (pg_tup rfl (pgs_cons (pg_name (i := 3) sc_Form_look_at_condition.nd rfl (.inl rfl)) (pgs_cons (pg_name (i := 4) sc_Form_look_at_condition.nd rfl (.inl rfl)) (pgs_cons (pg_name (i := 5) sc_Form_look_at_condition.nd rfl (.inl rfl)) pgs_nil))))
  (pss_cons (ps_set (i := 6) sc_Form_look_at_condition.nd rfl (.inl rfl) (pe_meth (pv 0) T.cl_Form T.m_Form_spoken_of (G_Form_spoken_of.mono (by omega)) hr T.b_Form_spoken_of .nil (passX (takes_of rfl rfl rfl rfl)) (pa_cons (pv 3) (pa_cons (pv 2) pa_nil))))
  (pss_one (ps_if (PW.pt (pw_or (pt_cmpR op_ne (pe_kind (pv 6) hr) (pv 4) (nomark _)) (pw_or1 (PW.pt (pw_and (pt_cmpR op_notN1 (pv 5) pe_non (nomark _)) (pw_and1 (pt_cmpR op_notIn_seq (pv 5) (pe_fld (pv 6) rfl) (by rfl)))))))) (pss_one (ps_raiseE rfl (takes_of rfl rfl rfl rfl) (pmk_oex T.x_NoFit T.i_NoFit T.ti_NoFit (G_NoFit_new.mono (by omega)) hr T.b_NoFit_new .nil pass0 rfl T.gx_NoFit (pa_cons (pv 3) pa_nil)))) pss_nil))))), ?_⟩
    refine t_spk (ev_var rfl) hc hd fun q ys H1 e1 hq h1 pd => ⟨q, rfl, ⟨ys, SqL.of h1⟩, ?_⟩
    refine for_list (xs := ys) (fun i σ' H' => Same H1 H' ∧ ((says c).take i).findSome? (sayFault st here) = none ∧ ∃ y1 y2 y3 y4, σ' = [some (.ref p), some cv, some (hereV here), y1, y2, y3, y4]) ⟨Same.refl _, rfl, none, none, none, none, rfl⟩ (fun i σ' H' _ z => SqL.of (z.1 _ _ h1)) (fun i x σ' H' hx z => ?_) (fun σ' H' z => ?_)
    · obtain ⟨e, fs, y1, y2, y3, y4, rfl⟩ := z
      obtain ⟨s', hs, t, rfl, ht⟩ := pd_get pd hx
      have ht' := e _ _ ht
      have sk := says_kind c s' (List.mem_of_getElem? hs)
      have nx := some_take fs hs
      refine ⟨t, _, rfl, SqT.of ht', rfl, .str s'.1, [.str s'.2.1, oS s'.2.2], rfl, .str s'.2.1, [oS s'.2.2], rfl, oS s'.2.2, [], rfl, rfl, ?_⟩
      have eH : Same H H' := Same.trans e1 e
      obtain ⟨⟨dx, ob⟩, _⟩ := id F
      refine q_set (t_methA (ev_var rfl) (eH _ _ ob) rfl (ea_cons (ev_var rfl) (ea_cons (ev_var rfl) ea_nil)) fun H2 e2 => ⟨p, l, d, tv, st, s'.1, here, rfl, F.up (Same.trans eH e2), fun r sp v H3 e3 hv => ?_, fun f sp => ?_⟩)
      · have e23 : Same H' H3 := Same.trans e2 e3
        refine s_when (et_fits (s := s') (i := 6) (j := 4) (k := 5) (hv.up (offS_same _ _)) rfl rfl rfl sk) (fun b H4 e4 => ?_) (fun b H4 e4 => ?_)
        · have sf : sayFault st here s' = some (.fit s'.1) := by
            unfold sayFault
            rw [sp]
            show (if sayFits r s' = true then _ else _) = _
            rw [if_neg (by simpa using b)]
          exact t_raise1 (ev_var (i := 3) rfl) ((o.no _ (nx.1 _ sf)).up (Same.trans (Same.trans eH e23) e4)) fun a Ha Q' E' h1 h2 => ⟨a, _, rfl, h1, h2⟩
        · have sf : sayFault st here s' = none := by
            unfold sayFault
            rw [sp]
            show (if sayFits r s' = true then _ else _) = _
            rw [if_pos (by simpa using b)]
          exact ⟨Same.trans e (Same.trans e23 e4), nx.2 sf, _, _, _, _, rfl⟩
      · have sf : sayFault st here s' = some f := by
          unfold sayFault
          rw [sp]
        exact (o.no _ (nx.1 _ sf)).up (Same.trans eH e2)
    · obtain ⟨e, fs, y1, y2, y3, y4, rfl⟩ := z
      rw [pd_len pd, List.take_length] at fs
      exact o.ok fs H' (Same.trans e1 e)
/-! ### form.look_at_rows(row, here) -/
def sp_Form_look_at_rows (T : Txt K mg) : Sp := fun vs H Q E => ∃ (p l d : Addr) (tv v : V) (st : Stt) (r : Rw) (here : Nat), vs = [.ref p, v, hereV here] ∧ FormAt T H p l d tv st ∧ RowO T H v r ∧ r.leaf = none ∧ Out T H Q E (headFault st here r)
theorem row_rows {T : Txt K mg} {H : Hp} {v : V} {r : Rw} (h : RowO T H v r) (hk : r.leaf = none) : ∃ (p C dx t : Addr) (fs : List (Str × V)) (us : List V), v = .ref p ∧ H p = some (.ins C dx fs) ∧ Cls K C ∧ NoAttr K C "rows" ∧ fs.lookup ("rows" : Str) = some (V.ref t) ∧ H t = some (.tup us) ∧ RowsO T H us r.inner := by
  cases h with
  | sec h ht hr hw => exact ⟨_, _, _, _, _, _, rfl, h, T.cl_Section, T.n_Section_rows, rfl, ht, hr⟩
  | rnd h ht hr hw => exact ⟨_, _, _, _, _, _, rfl, h, T.cl_Rounds, T.n_Rounds_rows, rfl, ht, hr⟩
  | _ => cases hk
theorem here_non {n : Nat} : (!decide (hereV n = .non)) = decide (n ≠ 0) := by cases n <;> simp [hereV]
theorem ok_Form_look_at_rows (T : Txt K mg) : FnOk P w K mg base (L2.CX P w) 4 T.a_Form_look_at_rows T.d_Form_look_at_rows ["self", "row", "here"] (sp_Form_look_at_rows T) := by
  have G_NoFit_new : FnOk P w K mg base CX0 1 T.a_NoFit_new T.d_NoFit_new ["self", "name"] (sp_NoFit_new T) := ok_NoFit_new T
  have G_BadCount_new : FnOk P w K mg base CX0 1 T.a_BadCount_new T.d_BadCount_new ["self", "what", "count"] (sp_BadCount_new T) := ok_BadCount_new T
  have G_Form_spoken_of : FnOk P w K mg base (L2.CX P w) 3 T.a_Form_spoken_of T.d_Form_spoken_of ["self", "name", "here"] (sp_Form_spoken_of T) := ok_Form_spoken_of T
  refine funX_ok T.F_Form_look_at_rows sc_Form_look_at_rows (fun vs H Q E h => ?_) (fun cdv A outer s H vs Q E hr h => ?_)
  · obtain ⟨p, l, d, tv, v, st, r, here, rfl, _⟩ := h
    rfl
  · obtain ⟨p, l, d, tv, v, st, r, here, rfl, F, hv, hlf, o⟩ := h
    refine ⟨(tSeq (tIfS (tTest (tOp rEq (tCB (gLenQ K) (tCons (tFld K (tVar 1) "rows") tNil)) (tC (.int 0)))) (tRaiseO E (tMkO T.C_BadCount (sp_BadCount_new T) [] (tCons (tC (.str "rows")) (tCons (tC (.int 0)) tNil)))) tNext)
  (tIfS (tTest (tOp rEq (tKind T (tVar 1)) (tC (.str "rounds")))) (tSeq (tIfS (tTest (tOp rNotN (tVar 2) (tC .non))) (tRaiseO E (tMkO T.C_BadCount (sp_BadCount_new T) [] (tCons (tC (.str "rounds")) (tCons (tC (.int 2)) tNil)))) tNext)
  (tSeq (tAsg (tMeth T.C_Form "spoken_of" (sp_Form_spoken_of T) [] E (tVar 0) (tCons (tFld K (tVar 1) "count") (tCons (tVar 2) tNil))) (gName 3))
  (tIfS (tOr (tTest (tOp rNe (tKind T (tVar 3)) (tC (.str "number")))) (tOr (tTest (tOp (rI0 fun i j => .bl (decide (i < j))) (tFld K (tVar 3) "low") (tC (.int 0)))) (tTest (tOp (rI0 fun i j => .bl (decide (j < i))) (tFld K (tVar 3) "high") (tC (.int 4)))))) (tRaiseO E (tMkO T.C_NoFit (sp_NoFit_new T) [] (tCons (tFld K (tVar 1) "count") tNil))) tNext))) tNext)),
(pss_cons (ps_if (pt_cmpR op_eq (pe_callB call_len_seq (by rfl) T.z_len (by decide +kernel) (pa_cons (pe_fld (pv 1) rfl) pa_nil)) pe_int (nomark _)) (pss_one (ps_raiseE rfl (takes_of rfl rfl rfl rfl) (pmk_oex T.x_BadCount T.i_BadCount T.ti_BadCount (G_BadCount_new.mono (by omega)) hr T.b_BadCount_new .nil pass0 rfl T.gx_BadCount (pa_cons pe_str (pa_cons pe_int pa_nil))))) pss_nil)
  (pss_one (ps_if (pt_cmpR op_eq (pe_kind (pv 1) hr) pe_str (nomark _)) (pss_cons (ps_if (pt_cmpR op_notN1 (pv 2) pe_non (nomark _)) (pss_one (ps_raiseE rfl (takes_of rfl rfl rfl rfl) (pmk_oex T.x_BadCount T.i_BadCount T.ti_BadCount (G_BadCount_new.mono (by omega)) hr T.b_BadCount_new .nil pass0 rfl T.gx_BadCount (pa_cons pe_str (pa_cons pe_int pa_nil))))) pss_nil)
  (pss_cons (ps_set (i := 3) sc_Form_look_at_rows.nd rfl (.inl rfl) (pe_meth (pv 0) T.cl_Form T.m_Form_spoken_of (G_Form_spoken_of.mono (by omega)) hr T.b_Form_spoken_of .nil (passX (takes_of rfl rfl rfl rfl)) (pa_cons (pe_fld (pv 1) rfl) (pa_cons (pv 2) pa_nil))))
  (pss_one (ps_if (PW.pt (pw_or (pt_cmpR op_ne (pe_kind (pv 3) hr) pe_str (nomark _)) (pw_or (pt_cmpR op_lt (pe_fld (pv 3) rfl) pe_int (nomark _)) (pw_or1 (pt_cmpR op_gt (pe_fld (pv 3) rfl) (pe_glob (by rfl) T.k_MOST_ROUNDS T.r_MOST_ROUNDS) (nomark _)))))) (pss_one (ps_raiseE rfl (takes_of rfl rfl rfl rfl) (pmk_oex T.x_NoFit T.i_NoFit T.ti_NoFit (G_NoFit_new.mono (by omega)) hr T.b_NoFit_new .nil pass0 rfl T.gx_NoFit (pa_cons (pe_fld (pv 1) rfl) pa_nil)))) pss_nil)))) pss_nil))), ?_⟩
    obtain ⟨q, C, dx, t, fs, us, rfl, hq, cl, na, lk, ht, hus⟩ := row_rows hv hlf
    have hlen : us.length = r.inner.length := pd_len hus.pd
    have t1 := et_test (ev_eqS (ev_lenS (K := K) (ev_fld (ev_var (σ := [some (.ref p), some (.ref q), some (hereV here), none]) (i := 1) rfl) hq cl na lk) (.inr (SqT.of ht))) (ev_c (v := .int 0)) rfl)
    rw [GK.dec_int, hlen] at t1
    refine q_when t1 (fun b H1 e1 => ?_) (fun b H1 e1 => ?_)
    · have e : r.inner = [] := List.length_eq_zero_iff.mp (by have := of_decide_eq_true b; omega)
      have hf : headFault st here r = some (.count "rows" 0) := by
        cases r <;> simp only [Rw.leaf, reduceCtorEq] at hlf <;> simp only [Rw.inner] at e <;> subst e <;> rfl
      exact t_bad2 ev_c ev_c ((o.no _ hf).up e1)
    · have hne : r.inner ≠ [] := fun z => by rw [z] at b; simp at b
      have t2 := et_test (ev_eqS (ev_kind (T := T) (ev_var (σ := [some (.ref p), some (.ref q), some (hereV here), none]) (i := 1) rfl) (hv.up e1)) (ev_c (v := .str "rounds")) rfl)
      rw [GK.dec_str] at t2
      refine s_when t2 (fun b2 H2 e2 => ?_) (fun b2 H2 e2 => ?_)
      · have e12 := Same.trans e1 e2
        cases hv with
        | rnd h ht' hr' hw =>
          rename_i dx' t' n vs rows u c
          simp only [Rw.inner] at hne
          have he : rows.isEmpty = false := by cases rows with
            | nil => exact absurd rfl hne
            | cons _ _ => rfl
          have t3 := et_test (ev_op (ev_var (H := H2) (σ := [some (.ref p), some (.ref q), some (hereV here), none]) (i := 2) rfl) ev_c rv_notN)
          rw [here_non] at t3
          refine q_when t3 (fun b3 H3 e3 => ?_) (fun b3 H3 e3 => ?_)
          · have hf : headFault st here (.rnd n rows c) = some (.count "rounds" 2) := by
              show (if rows.isEmpty = true then _ else _) = _
              rw [he, if_neg (by decide), if_pos (of_decide_eq_true b3)]
            exact t_bad2 ev_c ev_c ((o.no _ hf).up (Same.trans e12 e3))
          · have h0 : here = 0 := by have := of_decide_eq_false b3; omega
            have hf : headFault st here (.rnd n rows c) = countFault st n here := by
              show (if rows.isEmpty = true then _ else _) = _
              rw [he, if_neg (by decide), if_neg (by omega)]
            have e13 := Same.trans e12 e3
            obtain ⟨⟨dx2, ob⟩, _⟩ := id F
            refine q_set (t_methA (ev_var rfl) (e13 _ _ ob) rfl (ea_cons (ev_fld (ev_var rfl) (e13 _ _ h) T.cl_Rounds T.n_Rounds_count rfl) (ea_cons (ev_var rfl) ea_nil)) fun H4 e4 => ⟨p, l, d, tv, st, n, here, rfl, F.up (Same.trans e13 e4), fun r' sp v' H5 e5 hv' => ?_, fun f sp => ?_⟩)
            · have e15 := Same.trans (Same.trans e13 e4) e5
              have hv5 : RowO T H5 v' r' := hv'.up (offS_same _ _)
              have key : EvT (tOr (tTest (tOp rNe (tKind T (tVar 3)) (tC (.str "number")))) (tOr (tTest (tOp (rI0 fun i j => .bl (decide (i < j))) (tFld K (tVar 3) "low") (tC (.int 0)))) (tTest (tOp (rI0 fun i j => .bl (decide (j < i))) (tFld K (tVar 3) "high") (tC (.int 4)))))) [some (.ref p), some (.ref q), some (hereV here), some v'] H5 (!isCount r') := by
                have k1 := et_test (ev_neS (ev_kind (T := T) (ev_var (σ := [some (.ref p), some (.ref q), some (hereV here), some v']) (i := 3) rfl) hv5) (ev_c (v := .str "number")) rfl)
                rw [GK.dec_str] at k1
                cases hv5 with
                | number hn hw2 =>
                  rename_i q2 dx3 n2 lo hi u2 c2
                  have k2 := et_test (ev_oI (g := fun i j => .bl (decide (i < j))) (ev_fld (ev_var (σ := [some (.ref p), some (.ref q), some (hereV here), some (.ref q2)]) (i := 3) rfl) hn T.cl_Number T.n_Number_low rfl) (ev_c (v := .int 0)))
                  have k3 := et_test (ev_oI (g := fun i j => .bl (decide (j < i))) (ev_fld (ev_var (σ := [some (.ref p), some (.ref q), some (hereV here), some (.ref q2)]) (i := 3) rfl) hn T.cl_Number T.n_Number_high rfl) (ev_c (v := .int 4)))
                  have z := et_or (a := false) k1 fun _ => et_or k2 fun _ => k3
                  have e : (false || (decide (lo < 0) || decide (4 < hi))) = !isCount (.number n2 lo hi c2) := by
                    show _ = !(decide (0 ≤ lo) && decide (hi ≤ 4))
                    by_cases a1 : 0 ≤ lo <;> by_cases a2 : hi ≤ 4 <;> simp [a1, a2] <;> omega
                  rw [e] at z
                  exact z
                | one hn _ _ => exact et_or (a := true) (b := false) k1 fun z => by cases z
                | som hn _ _ => exact et_or (a := true) (b := false) k1 fun z => by cases z
                | check hn _ _ => exact et_or (a := true) (b := false) k1 fun z => by cases z
                | sec hn _ _ _ => exact et_or (a := true) (b := false) k1 fun z => by cases z
                | rnd hn _ _ _ => exact et_or (a := true) (b := false) k1 fun z => by cases z
              refine s_when key (fun b4 H6 e6 => ?_) (fun b4 H6 e6 => ?_)
              · have hff : headFault st here (.rnd n rows c) = some (.fit n) := by
                  rw [hf, countFault_ok sp]
                  rw [if_neg (by simpa using b4)]
                exact t_raise1 (ev_fld (ev_var (i := 1) rfl) ((Same.trans e15 e6) _ _ h) T.cl_Rounds T.n_Rounds_count rfl) ((o.no _ hff).up (Same.trans e15 e6)) fun a Ha Q' E' h1 h2 => ⟨a, _, rfl, h1, h2⟩
              · exact o.ok (by
                  rw [hf, countFault_ok sp]
                  rw [if_pos (by simpa using b4)]) H6 (Same.trans e15 e6)
            · exact (o.no f (by rw [hf, countFault_no sp])).up (Same.trans e13 e4)
        | sec h _ _ _ => exact absurd (show ("section" : Str) = "rounds" from of_decide_eq_true b2) (by decide)
        | _ => cases hlf
      · refine o.ok ?_ H2 (Same.trans e1 e2)
        cases hv with
        | sec h _ _ _ =>
          show (if List.isEmpty _ = true then _ else _) = _
          rw [if_neg]
          simpa [Rw.inner] using hne
        | rnd h _ _ _ => exact absurd rfl (of_decide_eq_false b2)
        | _ => cases hlf
end SF
namespace SF
open PySem PySem.Spec PyProof.Rows L2 GK Evl LamX
variable {P : Program} {w : World} {K : PySem.W.Frag} {mg : Str → Option Value} {base : Heap}
theorem small1 {a : V} : [a].length ≤ 100000 := by simp
theorem t_call1 {σ : L2.St} {H : Hp} {te : TE} {sp : Sp} {E : XK} {Q : VK} (h : te σ H fun x H1 => sp [x] H1 Q E) : tCall sp [] E (tCons te tNil) σ H Q := h
/-! ### what a row has -/
theorem row_name {T : Txt K mg} {H : Hp} {v : V} {r : Rw} {n : Str} (h : RowO T H v r) (hk : r.leaf = some n) : ∃ (p C dx : Addr) (fs : List (Str × V)), v = .ref p ∧ H p = some (.ins C dx fs) ∧ Cls K C ∧ NoAttr K C "name" ∧ fs.lookup ("name" : Str) = some (V.str n) := by
  cases h with
  | one h ht hw => cases hk; exact ⟨_, _, _, _, rfl, h, T.cl_One, T.n_One_name, rfl⟩
  | som h ht hw => cases hk; exact ⟨_, _, _, _, rfl, h, T.cl_Some, T.n_Some_name, rfl⟩
  | number h hw => cases hk; exact ⟨_, _, _, _, rfl, h, T.cl_Number, T.n_Number_name, rfl⟩
  | check h hm hw => cases hk; exact ⟨_, _, _, _, rfl, h, T.cl_Check, T.n_Check_name, rfl⟩
  | sec h ht hr hw => cases hk
  | rnd h ht hr hw => cases hk
theorem row_where {T : Txt K mg} {H : Hp} {v : V} {r : Rw} (h : RowO T H v r) : ∃ (p C dx : Addr) (fs : List (Str × V)) (u : V), v = .ref p ∧ H p = some (.ins C dx fs) ∧ Cls K C ∧ NoAttr K C "where" ∧ fs.lookup ("where" : Str) = some u ∧ OCondO T H u r.wh := by
  cases h with
  | one h ht hw => exact ⟨_, _, _, _, _, rfl, h, T.cl_One, T.n_One_where, rfl, hw⟩
  | som h ht hw => exact ⟨_, _, _, _, _, rfl, h, T.cl_Some, T.n_Some_where, rfl, hw⟩
  | number h hw => exact ⟨_, _, _, _, _, rfl, h, T.cl_Number, T.n_Number_where, rfl, hw⟩
  | check h hm hw => exact ⟨_, _, _, _, _, rfl, h, T.cl_Check, T.n_Check_where, rfl, hw⟩
  | sec h ht hr hw => exact ⟨_, _, _, _, _, rfl, h, T.cl_Section, T.n_Section_where, rfl, hw⟩
  | rnd h ht hr hw => exact ⟨_, _, _, _, _, rfl, h, T.cl_Rounds, T.n_Rounds_where, rfl, hw⟩
def Rw.must : Rw → Option Cnd
  | .check _ m _ => some m
  | _ => none
theorem kind_groups (r : Rw) : inV (.str r.kind) [.str "section", .str "rounds"] = r.leaf.isNone := by
  cases r with
  | one n os c => exact (by decide : inV (.str "one") [.str "section", .str "rounds"] = false)
  | som n os c => exact (by decide : inV (.str "some") [.str "section", .str "rounds"] = false)
  | number n lo hi c => exact (by decide : inV (.str "number") [.str "section", .str "rounds"] = false)
  | check n m c => exact (by decide : inV (.str "check") [.str "section", .str "rounds"] = false)
  | sec rows c => exact (by decide : inV (.str "section") [.str "section", .str "rounds"] = true)
  | rnd n rows c => exact (by decide : inV (.str "rounds") [.str "section", .str "rounds"] = true)
theorem kind_check (r : Rw) : decide (r.kind = "check") = r.must.isSome := by
  cases r with
  | one n os c => exact (by decide : decide (("one" : Str) = "check") = false)
  | som n os c => exact (by decide : decide (("some" : Str) = "check") = false)
  | number n lo hi c => exact (by decide : decide (("number" : Str) = "check") = false)
  | check n m c => exact (by decide : decide (("check" : Str) = "check") = true)
  | sec rows c => exact (by decide : decide (("section" : Str) = "check") = false)
  | rnd n rows c => exact (by decide : decide (("rounds" : Str) = "check") = false)
theorem Rw.ok_wh {r : Rw} {c : Cnd} (h : r.ok) (e : r.wh = some c) : c.ok ∧ c.dep ≤ DP := by
  have : ocOk r.wh := by cases r <;> simp only [Rw.ok, Rw.wh] at h ⊢ <;> simp only [h]
  rw [e] at this
  exact this
theorem Rw.ok_name {r : Rw} {n : Str} (h : r.ok) (e : r.leaf = some n) : sOk n := by
  cases r <;> simp only [Rw.leaf, reduceCtorEq, Option.some.injEq] at e <;> subst e <;> simp only [Rw.ok] at h <;> exact h.1
theorem conds_eq (r : Rw) : r.conds = r.wh.toList ++ r.must.toList := by cases r <;> rfl
theorem et_groups {T : Txt K mg} {σ : L2.St} {H : Hp} {v : V} {r : Rw} {i : Nat} {neg : Bool} (hi : σ[i]? = some (some v)) (h : RowO T H v r) : EvT (tTest (tOp (rIn K neg) (tKind T (tVar i)) (tTup (tCons (tC (.str "section")) (tCons (tC (.str "rounds")) tNil))))) σ H (if neg then r.leaf.isSome else r.leaf.isNone) := by
  have z := ev_opU (r := rIn K neg) (ev_kind (T := T) (ev_var hi) h) (eu_tup (ea_cons (ev_c (v := .str "section")) (ea_cons (ev_c (v := .str "rounds")) ea_nil)) small2) fun p H1 hp e1 => rv_inT (neg := neg) (st_of (K := K) hp) rfl rfl
  rw [kind_groups] at z
  have e : (if neg = true then !r.leaf.isNone else r.leaf.isNone) = (if neg = true then r.leaf.isSome else r.leaf.isNone) := by cases r.leaf <;> rfl
  rw [e] at z
  exact et_test z
/-! ### form.look_at(row, here) -/
theorem put_end {kvs : List (Key × V)} {k : Key} {v : V} (h : valV kvs k = none) : putK kvs k v = kvs ++ [(k, v)] := by
  unfold putK
  rw [if_neg]
  rw [valV_any, h]
  decide
/-- the form keeps what it has read of a row -/
theorem keep_part {T : Txt K mg} {H : Hp} {p l d : Addr} {tv v : V} {st : Stt} {r : Rw} {here : Nat} {D : Ends} {σ : L2.St} (hσ : σ = [some (.ref p), some v, some (hereV here)]) (F : FormAt T H p l d tv st) (hv : RowO T (offS [p, l, d] H) v r) (ok : SttOk st) (hz : st.named.length ≤ 900) (hz2 : st.asked.length ≤ 900) (hh : headFault st here r = none)
    (k : ∀ H', Same (offS [p, l, d] H) (offS [p, l, d] H') → FormAt T H' p l d tv (keep st here r) → D.nx σ H') :
    (tIfS (tTest (tOp (rIn K true) (tKind T (tVar 1)) (tTup (tCons (tC (.str "section")) (tCons (tC (.str "rounds")) tNil))))) (tSeq (tDrop (tBM K "list" rAppend (tFld K (tVar 0) "named") (tCons (tFld K (tVar 1) "name") tNil)))
  (tIfS (tTest (tOp rNe (tKind T (tVar 1)) (tC (.str "check")))) (sDPut (tFld K (tVar 0) "asked") (tFld K (tVar 1) "name") (tTup (tCons (tVar 1) (tCons (tVar 2) tNil)))) tNext)) tNext) D σ H := by
  subst hσ
  refine s_when (et_groups (T := T) (i := 1) rfl (hv.up (offS_same _ _))) (fun b H1 e1 => ?_) (fun b H1 e1 => ?_)
  · obtain ⟨n, hn⟩ := Option.isSome_iff_exists.mp b
    have F1 := F.up e1
    have hv1 := hv.up (offS_mono (S := [p, l, d]) e1)
    obtain ⟨q, C, dq, fs, rfl, hq, cl, na, lk⟩ := row_name hv1 hn
    have hqH : H1 q = some (.ins C dq fs) := (offS_some.mp hq).2
    have hqS := (offS_some.mp hq).1
    obtain ⟨⟨dx, ob⟩, nm, kvs, hd, pd⟩ := id F1
    obtain ⟨npl, npd, nld⟩ := F1.ne
    refine q_app (K := K) nm (ev_fld (ev_var rfl) ob T.cl_Form T.n_Form_named rfl) (ev_fld (ev_var rfl) hqH cl na lk) (by rw [List.length_map]; omega) fun H2 e2 => ?_
    generalize hHa : upd H2 l (.lst (st.named.map V.str ++ [.str n])) = Ha
    have la : Ha l = some (.lst ((st.named ++ [n]).map V.str)) := by rw [← hHa, upd_same, List.map_append]; rfl
    have ka : ∀ b o, b ≠ l → H1 b = some o → Ha b = some o := fun b o nb h => by rw [← hHa, upd_ne nb]; exact e2 _ _ h
    have sa : Same (offS [p, l, d] H1) (offS [p, l, d] Ha) := fun b o h => by
      obtain ⟨h1, h2⟩ := offS_some.mp h
      exact offS_some.mpr ⟨h1, ka b o (fun z => h1 (by rw [z]; simp)) h2⟩
    have hva := hv1.up sa
    have pa := ka _ _ npl ob
    have da := ka _ _ (Ne.symm nld) hd
    have qa := ka _ _ (fun z => hqS (by rw [z]; simp)) hqH
    have t1 := et_test (ev_neS (ev_kind (T := T) (ev_var (σ := [some (.ref p), some (.ref q), some (hereV here)]) (i := 1) rfl) (hva.up (offS_same _ _))) (ev_c (v := .str "check")) rfl)
    rw [GK.dec_str, kind_check] at t1
    refine s_when t1 (fun b2 H3 e3 => ?_) (fun b2 H3 e3 => ?_)
    · refine (eu_tup (ea_cons (ev_var (i := 1) rfl) (ea_cons (ev_var (i := 2) rfl) ea_nil)) small2) H3 (Same.refl _) _ fun t H4 ht e4 h4 => ?_
      have e34 : Same Ha H4 := Same.trans e3 e4
      have ht3 : Ha t = none := Same.free e3 ht
      refine (ev_fld (ev_var (i := 0) rfl) (e34 _ _ pa) T.cl_Form T.n_Form_asked rfl) H4 (Same.refl _) _ fun H5 e5 => ?_
      refine (ev_fld (ev_var (i := 1) rfl) ((Same.trans e34 e5) _ _ qa) cl na lk) H5 (Same.refl _) _ fun H6 e6 => ?_
      have e36 : Same Ha H6 := Same.trans e34 (Same.trans e5 e6)
      have d6 := e36 _ _ da
      have hlf := head_leaf hn hh
      have hno : valV kvs (Sum.inr n) = none := by
        rcases ask_get (n := n) pd with ⟨_, h⟩ | ⟨r', h', t', v', h, _⟩
        · exact h
        · rw [getA_none (n := n) fun a ha => fun z => hlf.2.1 (by rw [← z]; exact ok.sub a ha)] at h
          cases h
      have lk2 := pd_len pd
      refine ⟨d, _, rfl, DPut.k (k := (Sum.inr n : Key)) d6 (Nat.lt_of_le_of_lt (by omega : kvs.length ≤ 900) (by decide)), ?_⟩
      rw [put_end hno]
      generalize hHb : upd H6 d (.dK (kvs ++ [((Sum.inr n : Key), V.ref t)])) = Hb
      have db : Hb d = some (.dK (kvs ++ [(Sum.inr n, .ref t)])) := by rw [← hHb]; exact upd_same
      have kb : ∀ b o, b ≠ d → Ha b = some o → Hb b = some o := fun b o nb h => by rw [← hHb, upd_ne nb]; exact e36 _ _ h
      have sb : Same (offS [p, l, d] Ha) (offS [p, l, d] Hb) := fun b o h => by
        obtain ⟨h1, h2⟩ := offS_some.mp h
        exact offS_some.mpr ⟨h1, kb b o (fun z => h1 (by rw [z]; simp)) h2⟩
      have tS : t ∉ [p, l, d] := fun z => by
        simp only [List.mem_cons, List.not_mem_nil, or_false] at z
        rcases z with z | z | z <;> subst z
        · rw [pa] at ht3; cases ht3
        · rw [la] at ht3; cases ht3
        · rw [da] at ht3; cases ht3
      have tb : offS [p, l, d] Hb t = some (.tup [.ref q, hereV here]) := by
        refine offS_some.mpr ⟨tS, ?_⟩
        rw [← hHb, upd_ne (fun z => tS (by rw [z]; simp))]
        exact (Same.trans e5 e6) _ _ h4
      have hk : keep st here r = { st with named := st.named ++ [n], asked := st.asked ++ [(n, r, here)] } := by
        cases r <;> simp only [Rw.leaf, reduceCtorEq, Option.some.injEq] at hn <;> subst hn <;> first | rfl | simp [Rw.must] at b2
      refine k Hb ((Same.trans (offS_mono (Same.trans e1 (Same.refl _))) sa).trans sb) ?_
      rw [hk]
      exact ⟨⟨dx, kb _ _ npd pa⟩, kb _ _ nld la, _, db, pd_snoc (pd_imp (fun _ _ z => z.up (Same.trans sa sb)) pd) ⟨rfl, t, .ref q, rfl, tb, hva.up sb⟩⟩
    · have hk : keep st here r = { st with named := st.named ++ [n] } := by
        cases r <;> simp only [Rw.leaf, reduceCtorEq, Option.some.injEq] at hn <;> subst hn <;> first | rfl | simp [Rw.must] at b2
      refine k H3 (Same.trans (Same.trans (offS_mono e1) sa) (offS_mono e3)) ?_
      rw [hk]
      exact ⟨⟨dx, e3 _ _ pa⟩, e3 _ _ la, kvs, e3 _ _ da, pd_imp (fun _ _ z => z.up (Same.trans sa (offS_mono e3))) pd⟩
  · have hn : r.leaf = none := by
      cases e : r.leaf with
      | none => rfl
      | some n => rw [e] at b; cases b
    have hk : keep st here r = st := by cases r <;> simp only [Rw.leaf, reduceCtorEq] at hn <;> rfl
    refine k H1 (offS_mono e1) ?_
    rw [hk]
    exact F.up e1
def sp_Form_look_at (T : Txt K mg) : Sp := fun vs H Q E => ∃ (p l d : Addr) (tv v : V) (st : Stt) (r : Rw) (here : Nat), vs = [.ref p, v, hereV here] ∧ FormAt T H p l d tv st ∧ RowO T (offS [p, l, d] H) v r ∧ r.ok ∧ SttOk st ∧ st.named.length ≤ 900 ∧ st.asked.length ≤ 900 ∧
  (atFault st here r = none → ∀ H', Same (offS [p, l, d] H) (offS [p, l, d] H') → FormAt T H' p l d tv (keep st here r) → Q .non H') ∧ (∀ f, atFault st here r = some f → LetsF T H E f)
theorem ok_Form_look_at (T : Txt K mg) : FnOk P w K mg base (L2.CX P w) 7 T.a_Form_look_at T.d_Form_look_at ["self", "row", "here"] (sp_Form_look_at T) := by
  have G_asked_names : FnOk P w K mg base (L2.CX P w) 3 T.a_asked_names T.d_asked_names ["texts"] (sp_asked_names T) := ok_asked_names T
  have G_asked_once : FnOk P w K mg base (L2.CX P w) 3 T.a_asked_once T.d_asked_once ["names"] (sp_asked_once T) := ok_asked_once T
  have G_One_asked_fields : FnOk P w K mg base (L2.CX P w) 4 T.a_One_asked_fields T.d_One_asked_fields ["self"] (sp_One_asked_fields T) := ok_One_asked_fields T
  have G_Some_asked_fields : FnOk P w K mg base (L2.CX P w) 4 T.a_Some_asked_fields T.d_Some_asked_fields ["self"] (sp_Some_asked_fields T) := ok_Some_asked_fields T
  have G_Number_asked_fields : FnOk P w K mg base (L2.CX P w) 4 T.a_Number_asked_fields T.d_Number_asked_fields ["self"] (sp_Number_asked_fields T) := ok_Number_asked_fields T
  have G_Row_asked_fields : FnOk P w K mg base CX0 1 T.a_Row_asked_fields T.d_Row_asked_fields ["self"] (sp_Row_asked_fields T) := ok_Row_asked_fields T
  have G_Form_look_at_rows : FnOk P w K mg base (L2.CX P w) 4 T.a_Form_look_at_rows T.d_Form_look_at_rows ["self", "row", "here"] (sp_Form_look_at_rows T) := ok_Form_look_at_rows T
  have G_Form_look_at_condition : FnOk P w K mg base (L2.CX P w) 6 T.a_Form_look_at_condition T.d_Form_look_at_condition ["self", "condition", "here"] (sp_Form_look_at_condition T) := ok_Form_look_at_condition T
  refine funX_ok T.F_Form_look_at sc_Form_look_at (fun vs H Q E h => ?_) (fun cdv A outer s H vs Q E hr h => ?_)
  · obtain ⟨p, l, d, tv, v, st, r, here, rfl, _⟩ := h
    rfl
  · obtain ⟨p, l, d, tv, v, st, r, here, rfl, F, hv, hok, ok, hz, hz2, k1, k2⟩ := h
    refine ⟨(tSeq (tIfS (tTest (tOp (rIn K false) (tKind T (tVar 1)) (tTup (tCons (tC (.str "section")) (tCons (tC (.str "rounds")) tNil))))) (tDrop (tMeth T.C_Form "look_at_rows" (sp_Form_look_at_rows T) [] E (tVar 0) (tCons (tVar 1) (tCons (tVar 2) tNil)))) (tSeq (tDrop (tCall (sp_asked_names T) [] E (tCons (tLst (tCons (tFld K (tVar 1) "name") tNil)) tNil)))
  (tSeq (tDrop (tCall (sp_asked_once T) [] E (tCons (tOp (rCatS K) (tFld K (tVar 0) "named") (tLst (tCons (tFld K (tVar 1) "name") tNil))) tNil)))
  (tDrop (tAlt (tMeth T.C_One "asked_fields" (sp_One_asked_fields T) [] E (tVar 1) tNil) (tAlt (tMeth T.C_Some "asked_fields" (sp_Some_asked_fields T) [] E (tVar 1) tNil) (tAlt (tMeth T.C_Number "asked_fields" (sp_Number_asked_fields T) [] E (tVar 1) tNil) (tMeth T.C_Check "asked_fields" (sp_Row_asked_fields T) [] E0 (tVar 1) tNil))))))))
  (tSeq (tIfS (tTest (tOp rNotN (tFld K (tVar 1) "where") (tC .non))) (tDrop (tMeth T.C_Form "look_at_condition" (sp_Form_look_at_condition T) [] E (tVar 0) (tCons (tFld K (tVar 1) "where") (tCons (tVar 2) tNil)))) tNext)
  (tSeq (tIfS (tTest (tOp rEq (tKind T (tVar 1)) (tC (.str "check")))) (tDrop (tMeth T.C_Form "look_at_condition" (sp_Form_look_at_condition T) [] E (tVar 0) (tCons (tFld K (tVar 1) "must") (tCons (tVar 2) tNil)))) tNext)
  (tIfS (tTest (tOp (rIn K true) (tKind T (tVar 1)) (tTup (tCons (tC (.str "section")) (tCons (tC (.str "rounds")) tNil))))) (tSeq (tDrop (tBM K "list" rAppend (tFld K (tVar 0) "named") (tCons (tFld K (tVar 1) "name") tNil)))
  (tIfS (tTest (tOp rNe (tKind T (tVar 1)) (tC (.str "check")))) (sDPut (tFld K (tVar 0) "asked") (tFld K (tVar 1) "name") (tTup (tCons (tVar 1) (tCons (tVar 2) tNil)))) tNext)) tNext)))),
(pss_cons (ps_if (pt_cmpR op_in_seq (pe_kind (pv 1) hr) (pe_tup (pa_cons pe_str (pa_cons pe_str pa_nil))) (by rfl)) (pss_one (ps_expr (pe_meth (pv 0) T.cl_Form T.m_Form_look_at_rows (G_Form_look_at_rows.mono (by omega)) hr T.b_Form_look_at_rows .nil (passX (takes_of rfl rfl rfl rfl)) (pa_cons (pv 1) (pa_cons (pv 2) pa_nil))))) (pss_cons (ps_expr (pe_call (G_asked_names.mono (by omega)) hr (by rfl) T.g_asked_names T.F_asked_names.kp T.b_asked_names .nil (passX (takes_of rfl rfl rfl rfl)) (pa_cons (pe_lst (pa_cons (pe_fld (pv 1) rfl) pa_nil)) pa_nil)))
  (pss_cons (ps_expr (pe_call (G_asked_once.mono (by omega)) hr (by rfl) T.g_asked_once T.F_asked_once.kp T.b_asked_once .nil (passX (takes_of rfl rfl rfl rfl)) (pa_cons (pe_op op_catS (pe_fld (pv 0) rfl) (pe_lst (pa_cons (pe_fld (pv 1) rfl) pa_nil))) pa_nil)))
  (pss_one (ps_expr (pe_alt (pe_meth0 (pv 1) T.cl_One T.m_One_asked_fields (G_One_asked_fields.mono (by omega)) hr T.b_One_asked_fields .nil (passX (takes_of rfl rfl rfl rfl)) ) (pe_alt (pe_meth0 (pv 1) T.cl_Some T.m_Some_asked_fields (G_Some_asked_fields.mono (by omega)) hr T.b_Some_asked_fields .nil (passX (takes_of rfl rfl rfl rfl)) ) (pe_alt (pe_meth0 (pv 1) T.cl_Number T.m_Number_asked_fields (G_Number_asked_fields.mono (by omega)) hr T.b_Number_asked_fields .nil (passX (takes_of rfl rfl rfl rfl)) ) (pe_meth0 (pv 1) T.cl_Check T.m_Check_asked_fields (G_Row_asked_fields.mono (by omega)) hr T.b_Row_asked_fields .nil pass0 )))))))))
  (pss_cons (ps_if (pt_cmpR op_notN1 (pe_fld (pv 1) rfl) pe_non (nomark _)) (pss_one (ps_expr (pe_meth (pv 0) T.cl_Form T.m_Form_look_at_condition (G_Form_look_at_condition.mono (by omega)) hr T.b_Form_look_at_condition .nil (passX (takes_of rfl rfl rfl rfl)) (pa_cons (pe_fld (pv 1) rfl) (pa_cons (pv 2) pa_nil))))) pss_nil)
  (pss_cons (ps_if (pt_cmpR op_eq (pe_kind (pv 1) hr) pe_str (nomark _)) (pss_one (ps_expr (pe_meth (pv 0) T.cl_Form T.m_Form_look_at_condition (G_Form_look_at_condition.mono (by omega)) hr T.b_Form_look_at_condition .nil (passX (takes_of rfl rfl rfl rfl)) (pa_cons (pe_fld (pv 1) rfl) (pa_cons (pv 2) pa_nil))))) pss_nil)
  (PSs.nox (pss_one (ps_if (pt_cmpR op_notIn_seq (pe_kind (pv 1) hr) (pe_tup (pa_cons pe_str (pa_cons pe_str pa_nil))) (by rfl)) (pss_cons (ps_expr (pe_bm PySem.F.plainAttrs_list PySem.F.slot_list_append PySem.F.type_list_append mt_append (pe_fld (pv 0) rfl) (pa_cons (pe_fld (pv 1) rfl) pa_nil)))
  (pss_one (ps_if (pt_cmpR op_ne (pe_kind (pv 1) hr) pe_str (nomark _)) (pss_one (ps_dput (hu_of hr) (pe_fld (pv 0) rfl) (pe_fld (pv 1) rfl) (pe_tup (pa_cons (pv 1) (pa_cons (pv 2) pa_nil))) rfl)) pss_nil))) pss_nil)))))), ?_⟩
    have hvH : RowO T H v r := hv.up (offS_same _ _)
    obtain ⟨⟨dx, ob⟩, nm, kvs0, hd0, pd0⟩ := id F
    obtain ⟨q, C, dq, fs, u, rfl, hq, cl, naw, lkw, hu⟩ := row_where hvH
    -- the conditions, and what is kept
    have part4 : ∀ (H1 : Hp) (D : Ends), Same H H1 → atFault st here r = none → (D.nx = fun _ H' => Q .non H') → (tIfS (tTest (tOp (rIn K true) (tKind T (tVar 1)) (tTup (tCons (tC (.str "section")) (tCons (tC (.str "rounds")) tNil))))) (tSeq (tDrop (tBM K "list" rAppend (tFld K (tVar 0) "named") (tCons (tFld K (tVar 1) "name") tNil))) (tIfS (tTest (tOp rNe (tKind T (tVar 1)) (tC (.str "check")))) (sDPut (tFld K (tVar 0) "asked") (tFld K (tVar 1) "name") (tTup (tCons (tVar 1) (tCons (tVar 2) tNil)))) tNext)) tNext) D [some (.ref p), some (.ref q), some (hereV here)] H1 := fun H1 D e1 hf hD => by
      have hh : headFault st here r = none := by
        unfold atFault at hf
        cases z : headFault st here r with
        | none => rfl
        | some f => rw [z] at hf; cases hf
      refine keep_part rfl (F.up e1) (hv.up (offS_mono e1)) ok hz hz2 hh fun H' s' F' => ?_
      rw [hD]
      exact k1 hf H' (Same.trans (offS_mono e1) s') F'
    have atf : headFault st here r = none → atFault st here r = r.conds.findSome? (condFault st here) := fun h => by unfold atFault; rw [h]
    have part3 : ∀ (H1 : Hp) (D : Ends), Same H H1 → headFault st here r = none → (∀ c, r.wh = some c → condFault st here c = none) → (D.nx = fun _ H' => Q .non H') → (tSeq (tIfS (tTest (tOp rEq (tKind T (tVar 1)) (tC (.str "check")))) (tDrop (tMeth T.C_Form "look_at_condition" (sp_Form_look_at_condition T) [] E (tVar 0) (tCons (tFld K (tVar 1) "must") (tCons (tVar 2) tNil)))) tNext)
        (tIfS (tTest (tOp (rIn K true) (tKind T (tVar 1)) (tTup (tCons (tC (.str "section")) (tCons (tC (.str "rounds")) tNil))))) (tSeq (tDrop (tBM K "list" rAppend (tFld K (tVar 0) "named") (tCons (tFld K (tVar 1) "name") tNil))) (tIfS (tTest (tOp rNe (tKind T (tVar 1)) (tC (.str "check")))) (sDPut (tFld K (tVar 0) "asked") (tFld K (tVar 1) "name") (tTup (tCons (tVar 1) (tCons (tVar 2) tNil)))) tNext)) tNext)) D [some (.ref p), some (.ref q), some (hereV here)] H1 := fun H1 D e1 hh hw hD => by
      have t1 := et_test (ev_eqS (ev_kind (T := T) (ev_var (σ := [some (.ref p), some (.ref q), some (hereV here)]) (i := 1) rfl) (hvH.up e1)) (ev_c (v := .str "check")) rfl)
      rw [GK.dec_str, kind_check] at t1
      have wnone : (r.wh.toList).findSome? (condFault st here) = none := by
        cases e : r.wh with
        | none => rfl
        | some c => show [c].findSome? _ = none; rw [List.findSome?_cons, hw c e]; rfl
      refine q_when t1 (fun b H2 e2 => ?_) (fun b H2 e2 => ?_)
      · have e12 := Same.trans e1 e2
        cases hvH with
        | check h hm hw' =>
          rename_i dx' n m u' v' c
          have cf : atFault st here (.check n m c) = condFault st here m := by
            rw [atf hh, conds_eq, List.findSome?_append, wnone]
            show Option.or none ([m].findSome? _) = _
            rw [List.findSome?_cons]
            cases condFault st here m <;> rfl
          have dm := (hok.2.2.1)
          refine s_do (t_methA (ev_var rfl) (e12 _ _ ob) rfl (ea_cons (ev_fld (ev_var rfl) (e12 _ _ h) T.cl_Check T.n_Check_must rfl) (ea_cons (ev_var rfl) ea_nil)) fun H3 e3 => ⟨p, l, d, tv, _, st, m, here, rfl, F.up (Same.trans e12 e3), hm.up (Same.trans e12 e3), dm, ⟨fun z H4 e4 => ?_, fun f z => (k2 f (by rw [cf]; exact z)).up (Same.trans e12 e3)⟩⟩)
          exact part4 H4 D (Same.trans (Same.trans e12 e3) e4) (by rw [cf]; exact z) hD
        | _ => cases b
      · have mn : r.must = none := by
          cases e : r.must with
          | none => rfl
          | some m => rw [e] at b; cases b
        exact part4 H2 D (Same.trans e1 e2) (by rw [atf hh, conds_eq, List.findSome?_append, wnone, mn]; rfl) hD
    have part2 : ∀ (H1 : Hp) (D : Ends), Same H H1 → headFault st here r = none → (D.nx = fun _ H' => Q .non H') → (tSeq (tIfS (tTest (tOp rNotN (tFld K (tVar 1) "where") (tC .non))) (tDrop (tMeth T.C_Form "look_at_condition" (sp_Form_look_at_condition T) [] E (tVar 0) (tCons (tFld K (tVar 1) "where") (tCons (tVar 2) tNil)))) tNext)
        (tSeq (tIfS (tTest (tOp rEq (tKind T (tVar 1)) (tC (.str "check")))) (tDrop (tMeth T.C_Form "look_at_condition" (sp_Form_look_at_condition T) [] E (tVar 0) (tCons (tFld K (tVar 1) "must") (tCons (tVar 2) tNil)))) tNext)
        (tIfS (tTest (tOp (rIn K true) (tKind T (tVar 1)) (tTup (tCons (tC (.str "section")) (tCons (tC (.str "rounds")) tNil))))) (tSeq (tDrop (tBM K "list" rAppend (tFld K (tVar 0) "named") (tCons (tFld K (tVar 1) "name") tNil))) (tIfS (tTest (tOp rNe (tKind T (tVar 1)) (tC (.str "check")))) (sDPut (tFld K (tVar 0) "asked") (tFld K (tVar 1) "name") (tTup (tCons (tVar 1) (tCons (tVar 2) tNil)))) tNext)) tNext))) D [some (.ref p), some (.ref q), some (hereV here)] H1 := fun H1 D e1 hh hD => by
      have t1 := et_test (ev_op (ev_fld (ev_var (σ := [some (.ref p), some (.ref q), some (hereV here)]) (i := 1) rfl) (e1 _ _ hq) cl naw lkw) ev_c rv_notN)
      refine q_when t1 (fun b H2 e2 => ?_) (fun b H2 e2 => ?_)
      · have e12 := Same.trans e1 e2
        cases hwh : r.wh with
        | none =>
          rw [hwh] at hu
          have hu : u = .non := hu
          subst hu
          simp at b
        | some c =>
          rw [hwh] at hu
          have hu : CondO T H u c := hu
          have cf : ∀ f, condFault st here c = some f → atFault st here r = some f := fun f z => by
            rw [atf hh, conds_eq, hwh, List.findSome?_append]
            show Option.or ([c].findSome? _) _ = _
            rw [List.findSome?_cons, z]
            rfl
          refine s_do (t_methA (ev_var rfl) (e12 _ _ ob) rfl (ea_cons (ev_fld (ev_var rfl) (e12 _ _ hq) cl naw lkw) (ea_cons (ev_var rfl) ea_nil)) fun H3 e3 => ⟨p, l, d, tv, u, st, c, here, rfl, F.up (Same.trans e12 e3), hu.up (Same.trans e12 e3), (Rw.ok_wh hok hwh).2, ⟨fun z H4 e4 => ?_, fun f z => (k2 f (cf f z)).up (Same.trans e12 e3)⟩⟩)
          exact part3 H4 D (Same.trans (Same.trans e12 e3) e4) hh (fun c' h' => by rw [hwh] at h'; cases h'; exact z) hD
      · refine part3 H2 D (Same.trans e1 e2) hh (fun c' h' => ?_) hD
        rw [h'] at hu
        have hu : CondO T H u c' := hu
        cases hu <;> simp at b
    -- the row by itself
    have t0 := et_groups (T := T) (σ := [some (.ref p), some (.ref q), some (hereV here)]) (i := 1) (neg := false) rfl hvH
    have hhf : ∀ f, headFault st here r = some f → atFault st here r = some f := fun f z => by unfold atFault; rw [z]
    refine q_if t0 (fun b H1 e1 => ?_) (fun b H1 e1 => ?_)
    · have hlf : r.leaf = none := by
        cases e : r.leaf with
        | none => rfl
        | some n => rw [e] at b; cases b
      exact s_do (t_methA (ev_var rfl) (e1 _ _ ob) rfl (ea_cons (ev_var rfl) (ea_cons (ev_var rfl) ea_nil)) fun H2 e2 => ⟨p, l, d, tv, .ref q, st, r, here, rfl, F.up (Same.trans e1 e2), hvH.up (Same.trans e1 e2), hlf, ⟨fun z H3 e3 => part2 H3 _ (Same.trans (Same.trans e1 e2) e3) z rfl, fun f z => (k2 f (hhf f z)).up (Same.trans e1 e2)⟩⟩)
    · obtain ⟨n, hn⟩ : ∃ n, r.leaf = some n := by
        cases e : r.leaf with
        | none => rw [e] at b; cases b
        | some n => exact ⟨n, rfl⟩
      obtain ⟨q', C', dq', fs', ee, hq', cl', nan, lkn⟩ := row_name hvH hn
      cases ee
      have hs : sOk n := Rw.ok_name hok hn
      have hl : headFault st here r = leafFault st n r := by
        cases r <;> simp only [Rw.leaf, reduceCtorEq, Option.some.injEq] at hn <;> subst hn <;> rfl
      have nameE : ∀ {H'}, Same H H' → Ev (tFld K (tVar 1) "name") [some (.ref p), some (.ref q), some (hereV here)] H' (.str n) := fun {H'} e => ev_fld (ev_var rfl) (e _ _ hq') cl' nan lkn
      -- asked_names([row.name])
      refine q_do (t_call1 ?_)
      refine (el_lst (ea_cons (nameE e1) ea_nil) small1) H1 (Same.refl _) _ fun t H2 ht e2 h2 => ?_
      have e12 := Same.trans e1 e2
      refine ⟨.ref t, [n], rfl, strs_ql h2, fun s hs' => by rw [List.mem_singleton] at hs'; subst hs'; exact hs.1, fun fb H3 e3 => ?_, fun s fb => (k2 (.name s) (hhf _ ?_)).up e12⟩
      · have isn : isName n = true := by
          unfold firstBad at fb
          rw [List.find?_cons] at fb
          cases e : isName n with
          | true => rfl
          | false => rw [e] at fb; cases fb
        have e13 := Same.trans e12 e3
        -- asked_once(self.named + [row.name])
        refine q_do (t_call1 ?_)
        refine (el_catS (K := K) (ev_fld (ev_var (i := 0) rfl) (e13 _ _ ob) T.cl_Form T.n_Form_named rfl) (SqL.of (e13 _ _ nm)) (el_lst (ea_cons (nameE e13) ea_nil) small1) (by rw [List.length_map]; simp; omega)) H3 (Same.refl _) _ fun t2 H4 ht2 e4 h4 => ?_
        have e14 := Same.trans e13 e4
        have h4' : H4 t2 = some (.lst ((st.named ++ [n]).map V.str)) := by rw [List.map_append]; exact h4
        refine ⟨.ref t2, st.named ++ [n], rfl, strs_ql h4', by rw [List.length_append]; simp; omega, fun fd H5 e5 => ?_, fun s fd => (k2 (.twice s) (hhf _ ?_)).up e14⟩
        · have nin : n ∉ st.named := by
            rw [dup_last ok.nd] at fd
            intro z
            rw [if_pos z] at fd
            cases fd
          have hff : headFault st here r = fieldFault r := by
            rw [hl]
            unfold leafFault
            rw [isn, if_neg (by decide), if_neg nin]
          have e15 := Same.trans e14 e5
          have done : ∀ H', Same H5 H' → fieldFault r = none → (tSeq (tIfS (tTest (tOp rNotN (tFld K (tVar 1) "where") (tC .non))) (tDrop (tMeth T.C_Form "look_at_condition" (sp_Form_look_at_condition T) [] E (tVar 0) (tCons (tFld K (tVar 1) "where") (tCons (tVar 2) tNil)))) tNext)
              (tSeq (tIfS (tTest (tOp rEq (tKind T (tVar 1)) (tC (.str "check")))) (tDrop (tMeth T.C_Form "look_at_condition" (sp_Form_look_at_condition T) [] E (tVar 0) (tCons (tFld K (tVar 1) "must") (tCons (tVar 2) tNil)))) tNext)
              (tIfS (tTest (tOp (rIn K true) (tKind T (tVar 1)) (tTup (tCons (tC (.str "section")) (tCons (tC (.str "rounds")) tNil))))) (tSeq (tDrop (tBM K "list" rAppend (tFld K (tVar 0) "named") (tCons (tFld K (tVar 1) "name") tNil))) (tIfS (tTest (tOp rNe (tKind T (tVar 1)) (tC (.str "check")))) (sDPut (tFld K (tVar 0) "asked") (tFld K (tVar 1) "name") (tTup (tCons (tVar 1) (tCons (tVar 2) tNil)))) tNext)) tNext))) { nx := fun _ H' => Q .non H', rt := Q } [some (.ref p), some (.ref q), some (hereV here)] H' := fun H' e' z => part2 H' _ (Same.trans e15 e') (by rw [hff]; exact z) rfl
          have out : ∀ H', Same H5 H' → ∀ f, fieldFault r = some f → LetsF T H' E f := fun H' e' f z => (k2 f (hhf f (by rw [hff]; exact z))).up (Same.trans e15 e')
          refine s_do ?_
          have hv5 := hvH.up e15
          cases hvH with
          | one h ht' hw' =>
            exact .inl (t_meth0 (ev_var rfl) (e15 _ _ h) rfl fun H6 e6 => ⟨_, _, _, _, rfl, hv5.up e6, hok.2.1, hok.2.2.1, ⟨fun z H7 e7 => done H7 (Same.trans e6 e7) z, fun f z => out H6 e6 f z⟩⟩)
          | som h ht' hw' =>
            exact .inr (.inl (t_meth0 (ev_var rfl) (e15 _ _ h) rfl fun H6 e6 => ⟨_, _, _, _, rfl, hv5.up e6, hok.2.1, hok.2.2.1, ⟨fun z H7 e7 => done H7 (Same.trans e6 e7) z, fun f z => out H6 e6 f z⟩⟩))
          | number h hw' =>
            exact .inr (.inr (.inl (t_meth0 (ev_var rfl) (e15 _ _ h) rfl fun H6 e6 => ⟨_, _, _, _, _, rfl, hv5.up e6, ⟨fun z H7 e7 => done H7 (Same.trans e6 e7) z, fun f z => out H6 e6 f z⟩⟩)))
          | check h hm hw' =>
            exact .inr (.inr (.inr (t_meth0 (ev_var rfl) (e15 _ _ h) rfl fun H6 e6 => ⟨_, rfl, fun H7 e7 => done H7 (Same.trans e6 e7) rfl⟩)))
          | sec _ _ _ _ => cases hn
          | rnd _ _ _ _ => cases hn
        · rw [dup_last ok.nd] at fd
          by_cases z : n ∈ st.named
          · rw [if_pos z] at fd
            cases fd
            rw [hl]
            unfold leafFault
            rw [isn, if_neg (by decide), if_pos z]
          · rw [if_neg z] at fd
            cases fd
      · unfold firstBad at fb
        rw [List.find?_cons] at fb
        rw [hl]
        unfold leafFault
        cases e : isName n with
        | true => rw [e] at fb; cases fb
        | false =>
          rw [e] at fb
          cases fb
          rw [if_pos rfl]
end SF
namespace SF
open PySem PySem.Spec PyProof.Rows L2 GK Evl LamX
variable {P : Program} {w : World} {K : PySem.W.Frag} {mg : Str → Option Value} {base : Heap}
/-! ### form.look_through(rows, here) -/
def LetsS (T : Txt K mg) (S : List Addr) (H : Hp) (E : XK) (f : Fault) : Prop := ∀ dd H', Same (offS S H) (offS S H') → H dd = none → H' dd = some (.xd f.fs) → E (.ref (f.cls T)) (some dd) H'
theorem LetsS.lets {T : Txt K mg} {S : List Addr} {H H1 : Hp} {E : XK} {f : Fault} (h : LetsS T S H E f) (e : Same (offS S H) (offS S H1)) (dm : ∀ a ∈ S, ∃ o, H1 a = some o) : LetsF T H1 E f := fun dd H' s n hd => h dd H' (Same.trans e (offS_mono s)) (by
  cases z : H dd with
  | none => rfl
  | some o =>
    by_cases m : dd ∈ S
    · obtain ⟨o', ho⟩ := dm dd m
      rw [n] at ho
      cases ho
    · have := (offS_some.mp (e dd o (offS_some.mpr ⟨m, z⟩))).2
      rw [n] at this
      cases this) hd
theorem LetsS.up {T : Txt K mg} {S : List Addr} {H H1 : Hp} {E : XK} {f : Fault} (h : LetsS T S H E f) (e : Same (offS S H) (offS S H1)) (dm : ∀ a ∈ S, ∃ o, H1 a = some o) : LetsS T S H1 E f := fun dd H' s n hd => h dd H' (Same.trans e s) (by
  cases z : H dd with
  | none => rfl
  | some o =>
    by_cases m : dd ∈ S
    · obtain ⟨o', ho⟩ := dm dd m
      rw [n] at ho
      cases ho
    · have := (offS_some.mp (e dd o (offS_some.mpr ⟨m, z⟩))).2
      rw [n] at this
      cases this) hd
theorem FormAt.dom {T : Txt K mg} {H : Hp} {p l d : Addr} {tv : V} {st : Stt} (h : FormAt T H p l d tv st) : ∀ a ∈ [p, l, d], ∃ o, H a = some o := fun a ha => by
  obtain ⟨⟨dx, h1⟩, h2, kvs, h3, h4⟩ := h
  simp only [List.mem_cons, List.not_mem_nil, or_false] at ha
  rcases ha with rfl | rfl | rfl
  · exact ⟨_, h1⟩
  · exact ⟨_, h2⟩
  · exact ⟨_, h3⟩
def spLook (T : Txt K mg) (m : Nat) (go : Stt → List Rw → Nat → Except Fault Stt) : Sp := fun vs H Q E => ∃ (p l d t : Addr) (tv : V) (us : List V) (st : Stt) (rows : List Rw) (here : Nat), vs = [.ref p, .ref t, hereV here] ∧ FormAt T H p l d tv st ∧ offS [p, l, d] H t = some (.tup us) ∧ RowsO T (offS [p, l, d] H) us rows ∧ (∀ r ∈ rows, r.dep < m) ∧ rowsOk rows ∧ SttOk st ∧ st.named.length + cnts rows ≤ 900 ∧
  (∀ st', go st rows here = .ok st' → ∀ H', Same (offS [p, l, d] H) (offS [p, l, d] H') → FormAt T H' p l d tv st' → Q .non H') ∧ (∀ f, go st rows here = .error f → LetsS T [p, l, d] H E f)
def sp_Form_look_through (T : Txt K mg) (m : Nat) : Sp := spLook T m (looks m)
theorem cnts_split {rows : List Rw} {i : Nat} {r : Rw} (h : rows[i]? = some r) : cnts (rows.take i) + r.cnt ≤ cnts rows := by
  have z : rows = rows.take i ++ r :: rows.drop (i + 1) := by
    obtain ⟨lt, es⟩ := List.getElem?_eq_some_iff.mp h
    conv => lhs; rw [← List.take_append_drop i rows, List.drop_eq_getElem_cons lt, es]
  conv => rhs; rw [z, cnts_append, cnts]
  omega
theorem looksL_at {go : Stt → List Rw → Nat → Except Fault Stt} {here : Nat} {rows : List Rw} {i : Nat} {r : Rw} {st st1 : Stt} (h : rows[i]? = some r) (h1 : looksL go here st (rows.take i) = .ok st1) : (∀ f, step go here st1 r = .error f → looksL go here st rows = .error f) ∧ (∀ st2, step go here st1 r = .ok st2 → looksL go here st (rows.take (i + 1)) = .ok st2) := by
  have tk : rows.take (i + 1) = rows.take i ++ [r] := by rw [List.take_succ, h]; rfl
  refine ⟨fun f e => ?_, fun st2 e => ?_⟩
  · have z : rows = rows.take i ++ r :: rows.drop (i + 1) := by
      obtain ⟨lt, es⟩ := List.getElem?_eq_some_iff.mp h
      conv => lhs; rw [← List.take_append_drop i rows, List.drop_eq_getElem_cons lt, es]
    rw [z, looksL_append, h1]
    show looksL go here st1 (r :: _) = _
    rw [looksL, e]
  · rw [tk, looksL_append, h1]
    show looksL go here st1 [r] = _
    rw [looksL, e]
    rfl
theorem look_body (T : Txt K mg) (sp' : Sp) (m k : Nat) (go : Stt → List Rw → Nat → Except Fault Stt) (G_Form_look_through : FnOk P w K mg base (L2.CX P w) (k + 7) T.a_Form_look_through T.d_Form_look_through ["self", "rows", "here"] sp')
    (go0 : ∀ st h, go st [] h = .ok st) (hgo : ∀ st rows h st', SttOk st → go st rows h = .ok st' → SttOk st' ∧ st'.named.length ≤ st.named.length + cnts rows)
    (hc : ∀ (r : Rw) (p l d t : Addr) (tv : V) (us : List V) (st : Stt) (h : Nat) (H : Hp) (Q : VK) (E : XK), r.dep < m → FormAt T H p l d tv st → offS [p, l, d] H t = some (.tup us) → RowsO T (offS [p, l, d] H) us r.inner → rowsOk r.inner → SttOk st → st.named.length + cnts r.inner ≤ 900 →
      (∀ st', go st r.inner h = .ok st' → ∀ H', Same (offS [p, l, d] H) (offS [p, l, d] H') → FormAt T H' p l d tv st' → Q .non H') → (∀ f, go st r.inner h = .error f → LetsS T [p, l, d] H E f) → sp' [.ref p, .ref t, hereV h] H Q E) :
    FnOk P w K mg base (L2.CX P w) (k + 8) T.a_Form_look_through T.d_Form_look_through ["self", "rows", "here"] (spLook T m (fun st rows here => looksL go here st rows)) := by
  have G_Form_look_at : FnOk P w K mg base (L2.CX P w) 7 T.a_Form_look_at T.d_Form_look_at ["self", "row", "here"] (sp_Form_look_at T) := ok_Form_look_at T
  refine funX_ok T.F_Form_look_through sc_Form_look_through (fun vs H Q E h => ?_) (fun cdv A outer s H vs Q E hr h => ?_)
  · obtain ⟨p, l, d, t, tv, us, st, rows, here, rfl, _⟩ := h
    rfl
  · obtain ⟨p, l, d, t, tv, us, st, rows, here, rfl, F, ht, hrs, hd, hok, ok, hz, k1, k2⟩ := h
    refine ⟨(tFor (iTup K (tVar 1)) (gName 3)
  (tSeq (tDrop (tMeth T.C_Form "look_at" (sp_Form_look_at T) [] E (tVar 0) (tCons (tVar 3) (tCons (tVar 2) tNil))))
  (tSeq (tAsg (tVar 2) (gName 4))
  (tSeq (tIfS (tTest (tOp rEq (tKind T (tVar 3)) (tC (.str "rounds")))) (tSeq (sFld K (tVar 0) (tOp (rI0 fun i j => .int (i + j)) (tFld K (tVar 0) "rounds") (tC (.int 1))) "rounds")
  (tAsg (tFld K (tVar 0) "rounds") (gName 4))) tNext)
  (tDrop (tMeth T.C_Form "look_through" sp' [] E (tVar 0) (tCons (tWithin T (tVar 3)) (tCons (tVar 4) tNil)))))))),
(pss_one (ps_for (passes_of rfl) rfl (pi_tup (pv 1)) (pg_name (i := 3) sc_Form_look_through.nd rfl (.inl rfl))
  (pss_cons (ps_expr (pe_meth (pv 0) T.cl_Form T.m_Form_look_at (G_Form_look_at.mono (by omega)) hr T.b_Form_look_at .nil (passX (takes_of rfl rfl rfl rfl)) (pa_cons (pv 3) (pa_cons (pv 2) pa_nil))))
  (pss_cons (ps_set (i := 4) sc_Form_look_through.nd rfl (.inl rfl) (pv 2))
  (pss_cons (ps_if (pt_cmpR op_eq (pe_kind (pv 3) hr) pe_str (nomark _)) (PSs.nox (pss_cons (ps_fld (pv 0) (pe_op op_add (pe_fld (pv 0) rfl) pe_int) rfl)
  (pss_one (ps_set (i := 4) sc_Form_look_through.nd rfl (.inl rfl) (pe_fld (pv 0) rfl))))) pss_nil)
  (pss_one (ps_expr (pe_meth (pv 0) T.cl_Form T.m_Form_look_through (G_Form_look_through.mono (by omega)) hr T.b_Form_look_through .nil (passX (takes_of rfl rfl rfl rfl)) (pa_cons (pe_within (pv 3) hr) (pa_cons (pv 4) pa_nil)))))))))), ?_⟩
    have htH : H t = some (.tup us) := (offS_some.mp ht).2
    refine ⟨.ref t, rfl, t, rfl, ⟨us, SqT.of htH⟩, ?_⟩
    have pd := hrs.pd
    have hlen := pd_len pd
    refine for_tup (xs := us) (fun i σ' H' => ∃ st1, looksL go here st (rows.take i) = .ok st1 ∧ Same (offS [p, l, d] H) (offS [p, l, d] H') ∧ FormAt T H' p l d tv st1 ∧ ∃ y1 y2, σ' = [some (.ref p), some (.ref t), some (hereV here), y1, y2]) ⟨st, rfl, Same.refl _, F, none, none, rfl⟩ (fun i σ' H' _ ⟨st1, _, e, _⟩ => SqT.of ((Same.trans e (offS_same _ _)) _ _ ht)) (fun i x σ' H' hx z => ?_) (fun σ' H' z => ?_)
    · obtain ⟨st1, hl1, e, F1, y1, y2, rfl⟩ := z
      obtain ⟨r, hri, hrx⟩ := pd_get pd hx
      have mem := List.mem_of_getElem? hri
      obtain ⟨ok1, hz1⟩ := looksL_ok hgo ok hl1
      have hsp := cnts_split hri
      have nx := looksL_at hri hl1
      have rok : r.ok := rowsOk_iff.mp hok r mem
      have rc := cnt_pos r
      obtain ⟨⟨dx, ob⟩, _⟩ := id F1
      refine q_do (t_methA (ev_var rfl) ob rfl (ea_cons (ev_var rfl) (ea_cons (ev_var rfl) ea_nil)) fun H2 e2 => ⟨p, l, d, tv, x, st1, r, here, rfl, F1.up e2, hrx.up (Same.trans e (offS_mono e2)), rok, ok1, by omega, by have := ok1.le; omega, fun af H3 e3 F3 => ?_, fun f af => (k2 f (nx.1 f (by unfold step; rw [af]))).lets (Same.trans e (offS_mono e2)) (F1.up e2).dom⟩)
      · have e03 : Same (offS [p, l, d] H) (offS [p, l, d] H3) := Same.trans (Same.trans e (offS_mono e2)) e3
        have hh : headFault st1 here r = none := by
          unfold atFault at af
          cases z : headFault st1 here r with
          | none => rfl
          | some f => rw [z] at af; cases af
        have okk := keep_ok ok1 hh
        have kl : (keep st1 here r).named.length ≤ st1.named.length + 1 := by
          rw [keep_named, List.length_append]
          cases r.leaf <;> simp
        have hr3 := hrx.up e03
        have iok : rowsOk r.inner := by
          cases r <;> simp only [Rw.ok, Rw.inner, rowsOk] at rok ⊢
          · exact rok.1
          · exact rok.2.1
        have ci := cnt_inner r
        -- the call of look_through for the rows within
        have call : ∀ (H4 : Hp) (st2 : Stt) (h2 : Nat) (D : Ends), Same (offS [p, l, d] H3) (offS [p, l, d] H4) → FormAt T H4 p l d tv st2 → SttOk st2 → st2.named.length ≤ st1.named.length + 1 → (step go here st1 r = go st2 r.inner h2) → (D.nx = fun σ' H' => ∃ st1, looksL go here st (rows.take (i + 1)) = .ok st1 ∧ Same (offS [p, l, d] H) (offS [p, l, d] H') ∧ FormAt T H' p l d tv st1 ∧ ∃ y1 y2, σ' = [some (.ref p), some (.ref t), some (hereV here), y1, y2]) →
            (tDrop (tMeth T.C_Form "look_through" sp' [] E (tVar 0) (tCons (tWithin T (tVar 3)) (tCons (tVar 4) tNil)))) D [some (.ref p), some (.ref t), some (hereV here), some x, some (hereV h2)] H4 := fun H4 st2 h2 D e4 F4 ok2 hn2 hst hD => by
          have e04 := Same.trans e03 e4
          obtain ⟨⟨dx4, ob4⟩, _⟩ := id F4
          refine s_do ⟨.ref p, rfl, p, dx4, _, rfl, ob4, rfl, ?_⟩
          have hr4 := hr3.up e4
          -- the rows within, and where they lie
          have key : ∀ (t2 : Addr) (us2 : List V) (H5 : Hp), Same H4 H5 → offS [p, l, d] H5 t2 = some (.tup us2) → RowsO T (offS [p, l, d] H5) us2 r.inner → sp' [.ref p, .ref t2, hereV h2] H5 (fun _ H1 => D.nx [some (.ref p), some (.ref t), some (hereV here), some x, some (hereV h2)] H1) E := fun t2 us2 H5 e5 ht2 hr5 => by
            have e05 := Same.trans e04 (offS_mono (S := [p, l, d]) e5)
            refine hc r p l d t2 tv us2 st2 h2 H5 _ E (hd r mem) (F4.up e5) ht2 hr5 iok ok2 (by omega) (fun st' hg H' s' F' => ?_) (fun f hg => (k2 f (nx.1 f (by rw [hst]; exact hg))).up e05 (F4.up e5).dom)
            rw [hD]
            exact ⟨st', nx.2 st' (by rw [hst]; exact hg), Same.trans e05 s', F', _, _, rfl⟩
          have tail : ∀ (t2 : Addr) (us2 : List V) (H5 : Hp), Same H4 H5 → offS [p, l, d] H5 t2 = some (.tup us2) → RowsO T (offS [p, l, d] H5) us2 r.inner → (fun v H6 => (tCons (tVar 4) tNil) [some (.ref p), some (.ref t), some (hereV here), some x, some (hereV h2)] H6 fun vs H7 => sp' (V.ref p :: ((v :: vs) ++ [])) H7 (fun _ H1 => D.nx [some (.ref p), some (.ref t), some (hereV here), some x, some (hereV h2)] H1) E) (V.ref t2) H5 := fun t2 us2 H5 e5 ht2 hr5 => ⟨hereV h2, rfl, key t2 us2 H5 e5 ht2 hr5⟩
          -- within gives a tuple outside of the form
          show (tWithin T (tVar 3)) _ _ _
          unfold tWithin
          have fresh : ∀ {H6 : Hp}, Same H4 H6 → ∀ (t2 : Addr) (H7 : Hp), H6 t2 = none → Same H6 H7 → H7 t2 = some (.tup []) → offS [p, l, d] H7 t2 = some (.tup []) := fun {H6} e6 t2 H7 n2 e7 h7 => offS_some.mpr ⟨(fun z => by
            obtain ⟨o, ho⟩ := F4.dom t2 z
            rw [e6 _ _ ho] at n2
            cases n2), h7⟩
          cases hr4 with
          | one h ht' hw' => exact .inl (t_meth0 (ev_var rfl) (offS_some.mp h).2 rfl fun H6 e6 => ⟨_, rfl, fun t2 H7 n2 e7 h7 => tail t2 [] H7 (Same.trans e6 e7) (fresh e6 t2 H7 n2 e7 h7) .nil⟩)
          | som h ht' hw' => exact .inr (.inl (t_meth0 (ev_var rfl) (offS_some.mp h).2 rfl fun H6 e6 => ⟨_, rfl, fun t2 H7 n2 e7 h7 => tail t2 [] H7 (Same.trans e6 e7) (fresh e6 t2 H7 n2 e7 h7) .nil⟩))
          | number h hw' => exact .inr (.inr (.inl (t_meth0 (ev_var rfl) (offS_some.mp h).2 rfl fun H6 e6 => ⟨_, rfl, fun t2 H7 n2 e7 h7 => tail t2 [] H7 (Same.trans e6 e7) (fresh e6 t2 H7 n2 e7 h7) .nil⟩)))
          | check h hm' hw' => exact .inr (.inr (.inr (.inl (t_meth0 (ev_var rfl) (offS_some.mp h).2 rfl fun H6 e6 => ⟨_, rfl, fun t2 H7 n2 e7 h7 => tail t2 [] H7 (Same.trans e6 e7) (fresh e6 t2 H7 n2 e7 h7) .nil⟩))))
          | sec h ht' hr' hw' => exact .inr (.inr (.inr (.inr (.inl (t_meth0 (ev_var rfl) (offS_some.mp h).2 rfl fun H6 e6 => ⟨_, _, _, _, rfl, e6 _ _ (offS_some.mp h).2, fun H7 e7 => tail _ _ H7 (Same.trans e6 e7) (offS_mono (Same.trans e6 e7) _ _ ht') (hr'.up (offS_mono (Same.trans e6 e7)))⟩)))))
          | rnd h ht' hr' hw' => exact .inr (.inr (.inr (.inr (.inr (t_meth0 (ev_var rfl) (offS_some.mp h).2 rfl fun H6 e6 => ⟨_, _, _, _, _, rfl, e6 _ _ (offS_some.mp h).2, fun H7 e7 => tail _ _ H7 (Same.trans e6 e7) (offS_mono (Same.trans e6 e7) _ _ ht') (hr'.up (offS_mono (Same.trans e6 e7)))⟩)))))
        refine q_asg (ev_var rfl) fun H4 e4 => ?_
        have t1 := et_test (ev_eqS (ev_kind (T := T) (ev_var (σ := [some (.ref p), some (.ref t), some (hereV here), some x, some (hereV here)]) (i := 3) rfl) ((hr3.up (offS_same _ _)).up e4)) (ev_c (v := .str "rounds")) rfl)
        rw [GK.dec_str] at t1
        refine q_when t1 (fun b H5 e5 => ?_) (fun b H5 e5 => ?_)
        · have e35 := Same.trans e4 e5
          have hk : keep st1 here r = st1 := by
            cases r with
            | rnd n rows c => rfl
            | sec rows c => rfl
            | one n os c => exact absurd (show ("one" : Str) = "rounds" from of_decide_eq_true b) (by decide)
            | som n os c => exact absurd (show ("some" : Str) = "rounds" from of_decide_eq_true b) (by decide)
            | number n lo hi c => exact absurd (show ("number" : Str) = "rounds" from of_decide_eq_true b) (by decide)
            | check n m c => exact absurd (show ("check" : Str) = "rounds" from of_decide_eq_true b) (by decide)
          rw [hk] at F3
          have F5 := F3.up e35
          obtain ⟨⟨dx5, ob5⟩, nm5, kvs5, hd5, pd5⟩ := id F5
          refine q_fld (ev_oI (g := fun i j => .int (i + j)) (ev_fld (ev_var rfl) ob5 T.cl_Form T.n_Form_rounds rfl) ev_c) (ev_var rfl) ob5 T.cl_Form T.n_Form_rounds (by show 4 < 1000; decide) fun H6 e6 => ?_
          generalize hH7 : upd H6 p (.ins T.C_Form dx5 (putF "rounds" (.int ((st1.rounds : Int) + 1)) [("top", tv), ("named", .ref l), ("asked", .ref d), ("rounds", .int (st1.rounds : Int))])) = H7
          have p7 : H7 p = some (.ins T.C_Form dx5 [("top", tv), ("named", .ref l), ("asked", .ref d), ("rounds", .int ((st1.rounds + 1 : Nat) : Int))]) := by rw [← hH7, upd_same]; rfl
          have k7 : ∀ b o, b ≠ p → H5 b = some o → H7 b = some o := fun b o nb h => by rw [← hH7, upd_ne nb]; exact e6 _ _ h
          have s7 : Same (offS [p, l, d] H5) (offS [p, l, d] H7) := fun b o h => by
            obtain ⟨h1, h2⟩ := offS_some.mp h
            exact offS_some.mpr ⟨h1, k7 b o (fun z => h1 (by rw [z]; simp)) h2⟩
          obtain ⟨npl, npd, nld⟩ := F5.ne
          have F7 : FormAt T H7 p l d tv { st1 with rounds := st1.rounds + 1 } := ⟨⟨dx5, p7⟩, k7 _ _ (Ne.symm npl) nm5, kvs5, k7 _ _ (Ne.symm npd) hd5, pd_imp (fun _ _ z => z.up s7) pd5⟩
          refine s_asg (ev_fld (ev_var rfl) p7 T.cl_Form T.n_Form_rounds rfl) fun H8 e8 => ?_
          refine call H8 { st1 with rounds := st1.rounds + 1 } (st1.rounds + 1) _ (Same.trans (offS_mono e35) (Same.trans s7 (offS_mono e8))) (F7.up e8) ⟨ok1.nd, ok1.sub, ok1.le⟩ (by simp) ?_ rfl
          cases r with
          | rnd n rows c => unfold step; rw [af]; rfl
          | sec rows c => exact absurd (show ("section" : Str) = "rounds" from of_decide_eq_true b) (by decide)
          | one n os c => exact absurd (show ("one" : Str) = "rounds" from of_decide_eq_true b) (by decide)
          | som n os c => exact absurd (show ("some" : Str) = "rounds" from of_decide_eq_true b) (by decide)
          | number n lo hi c => exact absurd (show ("number" : Str) = "rounds" from of_decide_eq_true b) (by decide)
          | check n m c => exact absurd (show ("check" : Str) = "rounds" from of_decide_eq_true b) (by decide)
        · refine call H5 (keep st1 here r) here _ (offS_mono (Same.trans e4 e5)) (F3.up (Same.trans e4 e5)) okk kl ?_ rfl
          unfold step
          rw [af]
          cases r with
          | rnd n rows c => exact absurd rfl (of_decide_eq_false b)
          | sec rows c => rfl
          | one n os c => exact (go0 _ _).symm
          | som n os c => exact (go0 _ _).symm
          | number n lo hi c => exact (go0 _ _).symm
          | check n m c => exact (go0 _ _).symm
    · obtain ⟨st1, hl1, e, F1, y1, y2, rfl⟩ := z
      rw [hlen, List.take_length] at hl1
      exact k1 st1 hl1 H' e F1
end SF
namespace SF
open PySem PySem.Spec PyProof.Rows L2 GK Evl LamX
variable {P : Program} {w : World} {K : PySem.W.Frag} {mg : Str → Option Value} {base : Heap}
theorem looks_nil : ∀ (m : Nat) (st : Stt) (h : Nat), looks m st [] h = .ok st
  | 0, _, _ => rfl
  | _ + 1, _, _ => rfl
theorem ok_Form_look_through (T : Txt K mg) : ∀ m, FnOk P w K mg base (L2.CX P w) (m + 8) T.a_Form_look_through T.d_Form_look_through ["self", "rows", "here"] (sp_Form_look_through T m)
  | 0 => by
    have z := look_body (P := P) (w := w) (base := base) T (fun _ _ _ _ => False) 0 0 (looks 0) (ok_none fun _ _ _ _ h => h) (fun _ _ => rfl) (looks_ok 0) fun r p l d t tv us st h H Q E hd => by omega
    refine ⟨fun vs H Q E h => z.len vs H Q E (conv h), fun A outer s H args us vs Q E hr e0 hb hv h => z.run A outer s H args us vs Q E hr e0 hb hv (conv h)⟩
  | m + 1 => look_body T (sp_Form_look_through T m) (m + 1) (m + 1) (looks m) (ok_Form_look_through T m) (looks_nil m) (looks_ok m) fun r p l d t tv us st h H Q E hd F ht hr hok ok hz k1 k2 => ⟨p, l, d, t, tv, us, st, r.inner, h, rfl, F, ht, hr, fun x hx => dep_inner hd hx, hok, ok, hz, k1, k2⟩
where
  conv {T : Txt K mg} {vs : List V} {H : Hp} {Q : VK} {E : XK} (h : sp_Form_look_through T 0 vs H Q E) : spLook T 0 (fun st rows here => looksL (looks 0) here st rows) vs H Q E := by
    obtain ⟨p, l, d, t, tv, us, st, rows, here, e, F, ht, hr, hd, hok, ok, hz, k1, k2⟩ := h
    have : rows = [] := by
      cases rows with
      | nil => rfl
      | cons r rs => exact absurd (hd r List.mem_cons_self) (Nat.not_lt_zero _)
    subst this
    exact ⟨p, l, d, t, tv, us, st, [], here, e, F, ht, hr, hd, hok, ok, hz, k1, k2⟩
/-! ### Form(rows) -/
structure FormOk (T : Txt K mg) (H : Hp) (p : Addr) (us : List V) (ns : List Str) : Prop where
  ex : ∃ l d t st, FormAt T H p l d (.ref t) st ∧ H t = some (.tup us) ∧ st.asked.map (·.1) = ns
theorem FormOk.up {T : Txt K mg} {H H' : Hp} {p : Addr} {us : List V} {ns : List Str} (h : FormOk T H p us ns) (e : Same H H') : FormOk T H' p us ns := by
  obtain ⟨l, d, t, st, F, ht, hn⟩ := h.ex
  exact ⟨l, d, t, st, F.up e, e _ _ ht, hn⟩
def sp_Form_new (T : Txt K mg) : Sp := fun vs H Q E => ∃ (p dx q : Addr) (us : List V) (rows : List Rw), vs = [.ref p, .ref q] ∧ H p = some (.ins T.C_Form dx []) ∧ SqL K (off p H) q us ∧ RowsO T (off p H) us rows ∧ (∀ r ∈ rows, r.dep < 12) ∧ rowsOk rows ∧ cnts rows ≤ 90000 ∧
  (∀ ns, due rows = .ok ns → ∀ H', (∀ b o, H b = some o → b ≠ p → H' b = some o) → FormOk T H' p us ns → Q .non H') ∧
  (∀ f, due rows = .error f → ∀ dd H', (∀ b o, H b = some o → b ≠ p → H' b = some o) → H dd = none → H' dd = some (.xd f.fs) → E (.ref (f.cls T)) (some dd) H')
theorem ok_Form_new (T : Txt K mg) : FnOk P w K mg base (L2.CX P w) 21 T.a_Form_new T.d_Form_new ["self", "rows"] (sp_Form_new T) := by
  have G_BadCount_new : FnOk P w K mg base CX0 1 T.a_BadCount_new T.d_BadCount_new ["self", "what", "count"] (sp_BadCount_new T) := ok_BadCount_new T
  have G_many_rows : FnOk P w K mg base CX0 14 T.a_many_rows T.d_many_rows ["rows"] (sp_many_rows T 12) := ok_many_rows T 12
  have G_Form_look_through : FnOk P w K mg base (L2.CX P w) 20 T.a_Form_look_through T.d_Form_look_through ["self", "rows", "here"] (sp_Form_look_through T 12) := ok_Form_look_through T 12
  refine funX_ok T.F_Form_new sc_Form_new (fun vs H Q E h => ?_) (fun cdv A outer s H vs Q E hr h => ?_)
  · obtain ⟨p, dx, q, us, rows, rfl, _⟩ := h
    rfl
  · obtain ⟨p, dx, q, us, rows, rfl, hp, hq, hrs, hd, hok, hcz, k1, k2⟩ := h
    refine ⟨(tSeq (sFld K (tVar 0) (tCB (gTupOf K) (tCons (tVar 1) tNil)) "top")
  (tSeq (tIfS (tNot (tTest (tChain (rI0 fun i j => .bl (decide (i ≤ j))) (rI0 fun i j => .bl (decide (i ≤ j))) (tC (.int 1)) (tCall (sp_many_rows T 12) [] E0 (tCons (tFld K (tVar 0) "top") tNil)) (tC (.int 40))))) (tRaiseO E (tMkO T.C_BadCount (sp_BadCount_new T) [] (tCons (tC (.str "rows")) (tCons (tCall (sp_many_rows T 12) [] E0 (tCons (tFld K (tVar 0) "top") tNil)) tNil)))) tNext)
  (tSeq (sFld K (tVar 0) (tLst tNil) "named")
  (tSeq (sFld K (tVar 0) tDNewK "asked")
  (tSeq (sFld K (tVar 0) (tC (.int 0)) "rounds")
  (tDrop (tMeth T.C_Form "look_through" (sp_Form_look_through T 12) [] E (tVar 0) (tCons (tFld K (tVar 0) "top") (tCons (tC .non) tNil))))))))),
(pss_cons (ps_fld (pv 0) (pe_callTy call_tuple_of (by rfl) T.z_tuple (by decide +kernel) (pa_cons (pv 1) pa_nil)) rfl)
  (pss_cons (ps_if (pt_not (pt_chain op_le op_le pe_int (pe_call (G_many_rows.mono (by omega)) hr (by rfl) T.g_many_rows T.F_many_rows.kp T.b_many_rows .nil pass0 (pa_cons (pe_fld (pv 0) rfl) pa_nil)) (pe_glob (by rfl) T.k_MOST_ROWS T.r_MOST_ROWS))) (pss_one (ps_raiseE rfl (takes_of rfl rfl rfl rfl) (pmk_oex T.x_BadCount T.i_BadCount T.ti_BadCount (G_BadCount_new.mono (by omega)) hr T.b_BadCount_new .nil pass0 rfl T.gx_BadCount (pa_cons pe_str (pa_cons (pe_call (G_many_rows.mono (by omega)) hr (by rfl) T.g_many_rows T.F_many_rows.kp T.b_many_rows .nil pass0 (pa_cons (pe_fld (pv 0) rfl) pa_nil)) pa_nil))))) pss_nil)
  (pss_cons (ps_fld (pv 0) (pe_lst pa_nil) rfl)
  (pss_cons (ps_fld (pv 0) pe_dnewK rfl)
  (pss_cons (ps_fld (pv 0) pe_int rfl)
  (pss_one (ps_expr (pe_meth (pv 0) T.cl_Form T.m_Form_look_through (G_Form_look_through.mono (by omega)) hr T.b_Form_look_through .nil (passX (takes_of rfl rfl rfl rfl)) (pa_cons (pe_fld (pv 0) rfl) (pa_cons pe_non pa_nil)))))))))), ?_⟩
    -- self.top = tuple(rows)
    refine q_fldT ⟨.ref q, rfl, q, us, rfl, .inl ⟨sq_mono (off_same _ _) hq, fun t nt => ⟨.ref p, rfl, p, T.C_Form, dx, _, rfl, by rw [upd_ne (ne_of_none hp nt)]; exact hp, T.cl_Form, T.n_Form_top, (by show 0 < 1000; decide), ?_⟩⟩⟩
    have e1 : Same H (upd H t (.tup us)) := same_new nt
    have ntp : t ≠ p := (ne_of_none hp nt).symm
    generalize hK1 : upd (upd H t (.tup us)) p (.ins T.C_Form dx (putF "top" (.ref t) [])) = K1
    have p1 : K1 p = some (.ins T.C_Form dx [("top", .ref t)]) := by rw [← hK1]; exact upd_same
    have k1' : ∀ b o, H b = some o → b ≠ p → K1 b = some o := fun b o h n => by rw [← hK1, upd_ne n]; exact e1 _ _ h
    have t1 : K1 t = some (.tup us) := by rw [← hK1, upd_ne ntp]; exact upd_same
    have s1 : Same (off p H) K1 := fun b o h => k1' b o (off_some.mp h).2 (off_some.mp h).1
    have fr1 : ∀ b, K1 b = none → H b = none := fun b hb => by
      cases z : H b with
      | none => rfl
      | some o =>
        by_cases e : b = p
        · rw [e, p1] at hb; cases hb
        · rw [k1' b o z e] at hb; cases hb
    have hrs1 := hrs.up s1
    have ev : ∀ {H1}, Same K1 H1 → Ev (tCall (sp_many_rows T 12) [] E0 (tCons (tFld K (tVar 0) "top") tNil)) [some (.ref p), some (.ref q)] H1 (.int (cnts rows : Int)) := fun {H1} e => ev_call (ea_cons (ev_fld (ev_var rfl) (e _ _ p1) T.cl_Form T.n_Form_top rfl) ea_nil) fun H2 e2 Q' q' E' => ⟨t, us, rows, rfl, (Same.trans e e2) _ _ t1, hrs1.up (Same.trans e e2), hd, hcz, q'⟩
    have lets : ∀ {H1}, Same K1 H1 → ∀ f, due rows = .error f → LetsF T H1 E f := fun {H1} e f hf dd H' s' n' hd' => k2 f hf dd H' (fun b o hb nb => (Same.trans e s') _ _ (k1' b o hb nb)) (fr1 dd (Same.free e n')) hd'
    refine q_when (et_not (et_test (ev_chain (p := fun i j => decide (i ≤ j)) (q := fun i j => decide (i ≤ j)) (ev_c (v := .int 1)) (ev (Same.refl _)) (ev_c (v := .int 40))))) (fun b H2 e2 => ?_) (fun b H2 e2 => ?_)
    · have df : due rows = .error (.count "rows" (cnts rows : Int)) := by
        unfold due
        rw [if_neg]
        intro h
        have h1 : decide ((1 : Int) ≤ cnts rows) = true := decide_eq_true (by omega)
        have h2 : decide ((cnts rows : Int) ≤ 40) = true := decide_eq_true (by omega)
        rw [h1, h2] at b
        cases b
      exact t_bad2 ev_c (ev e2) (lets e2 _ df)
    · have hl : 1 ≤ cnts rows ∧ cnts rows ≤ 40 := by
        have b' : (decide ((1 : Int) ≤ cnts rows) && decide ((cnts rows : Int) ≤ 40)) = true := by simpa using b
        rw [Bool.and_eq_true] at b'
        have h1 := of_decide_eq_true b'.1
        have h2 := of_decide_eq_true b'.2
        exact ⟨by omega, by omega⟩
      have dno : ∀ f, looks 12 ⟨[], [], 0⟩ rows 0 = .error f → due rows = .error f := fun f h => by unfold due; rw [if_pos hl, h]
      have dok : ∀ st, looks 12 ⟨[], [], 0⟩ rows 0 = .ok st → due rows = .ok (st.asked.map (·.1)) := fun st h => by unfold due; rw [if_pos hl, h]
      -- self.named = []
      refine q_fldT ⟨by show 0 ≤ sizeLine; decide, fun l nl => ⟨.ref p, rfl, p, T.C_Form, dx, _, rfl, by rw [upd_ne (ne_of_none (e2 _ _ p1) nl)]; exact e2 _ _ p1, T.cl_Form, T.n_Form_named, (by show 1 < 1000; decide), ?_⟩⟩
      have nlp : l ≠ p := (ne_of_none (e2 _ _ p1) nl).symm
      have s3 : Same H2 (upd H2 l (.lst [])) := same_new nl
      generalize hK3 : upd (upd H2 l (.lst [])) p (.ins T.C_Form dx (putF "named" (.ref l) [("top", .ref t)])) = K3
      have p3 : K3 p = some (.ins T.C_Form dx [("top", .ref t), ("named", .ref l)]) := by rw [← hK3]; exact upd_same
      have l3 : K3 l = some (.lst []) := by rw [← hK3, upd_ne nlp]; exact upd_same
      have k3 : ∀ b o, K1 b = some o → b ≠ p → K3 b = some o := fun b o h n => by rw [← hK3, upd_ne n]; exact s3 _ _ (e2 _ _ h)
      -- self.asked = {}
      refine q_fldT fun d nd => ⟨.ref p, rfl, p, T.C_Form, dx, _, rfl, by rw [upd_ne (ne_of_none p3 nd)]; exact p3, T.cl_Form, T.n_Form_asked, (by show 2 < 1000; decide), ?_⟩
      have ndp : d ≠ p := (ne_of_none p3 nd).symm
      have ndl : d ≠ l := (ne_of_none l3 nd).symm
      have s4 : Same K3 (upd K3 d (.dK [])) := same_new nd
      generalize hK4 : upd (upd K3 d (.dK [])) p (.ins T.C_Form dx (putF "asked" (.ref d) [("top", .ref t), ("named", .ref l)])) = K4
      have p4 : K4 p = some (.ins T.C_Form dx [("top", .ref t), ("named", .ref l), ("asked", .ref d)]) := by rw [← hK4]; exact upd_same
      have d4 : K4 d = some (.dK []) := by rw [← hK4, upd_ne ndp]; exact upd_same
      have l4 : K4 l = some (.lst []) := by rw [← hK4, upd_ne nlp]; exact s4 _ _ l3
      have k4 : ∀ b o, K1 b = some o → b ≠ p → K4 b = some o := fun b o h n => by rw [← hK4, upd_ne n]; exact s4 _ _ (k3 b o h n)
      -- self.rounds = 0
      refine q_fld ev_c (ev_var rfl) p4 T.cl_Form T.n_Form_rounds (by show 3 < 1000; decide) fun H5 e5 => ?_
      generalize hK5 : upd H5 p (.ins T.C_Form dx (putF "rounds" (.int 0) [("top", .ref t), ("named", .ref l), ("asked", .ref d)])) = K5
      have p5 : K5 p = some (.ins T.C_Form dx [("top", .ref t), ("named", .ref l), ("asked", .ref d), ("rounds", .int 0)]) := by rw [← hK5]; exact upd_same
      have d5 : K5 d = some (.dK []) := by rw [← hK5, upd_ne ndp]; exact e5 _ _ d4
      have l5 : K5 l = some (.lst []) := by rw [← hK5, upd_ne nlp]; exact e5 _ _ l4
      have k5 : ∀ b o, K1 b = some o → b ≠ p → K5 b = some o := fun b o h n => by rw [← hK5, upd_ne n]; exact e5 _ _ (k4 b o h n)
      have F5 : FormAt T K5 p l d (.ref t) ⟨[], [], 0⟩ := ⟨⟨dx, p5⟩, l5, [], d5, .nil⟩
      -- what stood in H is outside of the form
      have nl1 : K1 l = none := Same.free e2 nl
      have nd1 : K1 d = none := by
        cases z : K1 d with
        | none => rfl
        | some o =>
          have := k3 d o z ndp
          rw [nd] at this
          cases this
      have s5 : Same (off p K1) (offS [p, l, d] K5) := fun b o h => by
        obtain ⟨nb, hb⟩ := off_some.mp h
        refine offS_some.mpr ⟨fun z => ?_, k5 b o hb nb⟩
        simp only [List.mem_cons, List.not_mem_nil, or_false] at z
        rcases z with z | z | z <;> subst z
        · exact nb rfl
        · rw [nl1] at hb; cases hb
        · rw [nd1] at hb; cases hb
      have s15 : Same (off p H) (offS [p, l, d] K5) := fun b o h => s5 b o (off_some.mpr ⟨(off_some.mp h).1, s1 b o h⟩)
      have t5 : offS [p, l, d] K5 t = some (.tup us) := s5 _ _ (off_some.mpr ⟨ntp, t1⟩)
      have back : ∀ H', Same (offS [p, l, d] K5) (offS [p, l, d] H') → ∀ b o, H b = some o → b ≠ p → H' b = some o := fun H' s' b o hb nb => (offS_some.mp (s' _ _ (s15 b o (off_some.mpr ⟨nb, hb⟩)))).2
      refine s_do (t_methA (ev_var rfl) p5 rfl (ea_cons (ev_fld (ev_var rfl) p5 T.cl_Form T.n_Form_top rfl) (ea_cons ev_c ea_nil)) fun H6 e6 => ?_)
      refine ⟨p, l, d, t, .ref t, us, ⟨[], [], 0⟩, rows, 0, rfl, F5.up e6, offS_mono e6 _ _ t5, hrs.up (Same.trans s15 (offS_mono e6)), hd, hok, ⟨by simp, by simp, by simp⟩, by simp; omega, fun st' hst H' s' F' => ?_, fun f hf dd H' s' n' hd' => ?_⟩
      · exact k1 _ (dok st' hst) H' (back H' (Same.trans (offS_mono e6) s')) ⟨l, d, t, st', F', (offS_some.mp ((Same.trans (offS_mono e6) s') _ _ t5)).2, rfl⟩
      · refine k2 f (dno f hf) dd H' (back H' (Same.trans (offS_mono e6) s')) ?_ hd'
        cases z : H dd with
        | none => rfl
        | some o =>
          by_cases e : dd = p
          · rw [e, e6 _ _ p5] at n'; cases n'
          · have := e6 _ _ (k5 dd o (k1' dd o z e) e)
            rw [n'] at this
            cases this
/-! ### form.outline(), form.names() -/
def sp_Form_outline (T : Txt K mg) : Sp := fun vs H Q _ => ∃ (p : Addr) (us : List V) (ns : List Str), vs = [.ref p] ∧ FormOk T H p us ns ∧ ∀ l H', H l = none → Same H H' → H' l = some (.lst us) → Q (.ref l) H'
theorem ok_Form_outline (T : Txt K mg) : FnOk P w K mg base CX0 1 T.a_Form_outline T.d_Form_outline ["self"] (sp_Form_outline T) := by
  refine T.F_Form_outline.ok sc_Form_outline (fun vs H Q E h => ?_) (fun cdv A outer s H vs Q E hr h => ?_)
  · obtain ⟨p, us, ns, rfl, _⟩ := h
    rfl
  · obtain ⟨p, us, ns, rfl, F, k⟩ := h
    refine ⟨(tRet (tCB (gListOf K) (tCons (tFld K (tVar 0) "top") tNil))),
(pss_one (ps_ret (pe_callTy call_list_of (by rfl) T.z_list (by decide +kernel) (pa_cons (pe_fld (pv 0) rfl) pa_nil)))), ?_⟩
    obtain ⟨l, d, t, st, ⟨⟨dx, ob⟩, _, _⟩, ht, _⟩ := F.ex
    exact s_retL (el_listOf (K := K) (ev_fld (ev_var rfl) ob T.cl_Form T.n_Form_top rfl) (.inr (SqT.of ht))) fun q H1 hq e1 h1 => k q H1 hq e1 h1
def sp_Form_names (T : Txt K mg) : Sp := fun vs H Q _ => ∃ (p : Addr) (us : List V) (ns : List Str), vs = [.ref p] ∧ FormOk T H p us ns ∧ ∀ l H', H l = none → Same H H' → H' l = some (.lst (ns.map V.str)) → Q (.ref l) H'
theorem ask_keys {T : Txt K mg} {H : Hp} : ∀ {kvs : List (Key × V)} {as : List (Str × Rw × Nat)}, Paired (AskD T H) kvs as → kvs.map (fun kv => kV kv.1) = (as.map (·.1)).map V.str
  | _, _, .nil => rfl
  | _, _, .cons r t => by rw [List.map_cons, List.map_cons, List.map_cons, ask_keys t, r.1]; rfl
theorem ok_Form_names (T : Txt K mg) : FnOk P w K mg base CX0 1 T.a_Form_names T.d_Form_names ["self"] (sp_Form_names T) := by
  refine T.F_Form_names.ok sc_Form_names (fun vs H Q E h => ?_) (fun cdv A outer s H vs Q E hr h => ?_)
  · obtain ⟨p, us, ns, rfl, _⟩ := h
    rfl
  · obtain ⟨p, us, ns, rfl, F, k⟩ := h
    refine ⟨(tRet (tCB rListD (tCons (tFld K (tVar 0) "asked") tNil))),
(pss_one (ps_ret (pe_callTy (call_list_dK rfl) (by rfl) T.z_list (by decide +kernel) (pa_cons (pe_fld (pv 0) rfl) pa_nil)))), ?_⟩
    obtain ⟨l, d, t, st, ⟨⟨dx, ob⟩, _, kvs, hd, pd⟩, ht, rfl⟩ := F.ex
    refine s_give ?_
    refine (ev_fld (ev_var (i := 0) rfl) ob T.cl_Form T.n_Form_asked rfl) H (Same.refl _) _ fun H1 e1 => ⟨d, kvs, rfl, e1 _ _ hd, fun q hq => ?_⟩
    rw [ask_keys pd]
    exact k q _ (Same.free e1 hq) (Same.trans e1 (same_new hq)) upd_same
end SF
/-! Draws within regions; lists of one's own that grow. -/
namespace GK
open PySem PySem.Spec PyProof.Rows L2 LamX Evl
section
variable {K : PySem.W.Frag} {R : Rg} {σ : L2.St} {H H' H0 H1 : Hp} {ta tb te : TE} {E : Ends} {tz : TS} {D : Pd} {P : PyData → Prop} {r p : Addr} {i : Nat}
/-- some number below n -/
def spDraw : Sp := fun vs H Q _ => ∃ (r : Addr) (n : Int), vs = [.ref r, .int n] ∧ Rng H r ∧ 0 < n ∧ n < 4611686018427387904 ∧ ∀ k H', 0 ≤ k → k < n → Fr r H H' → Q (.int k) H'
theorem x_draw {N A : Int → Prop} (d : Drw R r) (hi : σ[i]? = some (some (.ref r))) (hb : EvX R tb σ H (Dt K (isI N))) (hN : ∀ n, N n → 0 < n ∧ n < 4611686018427387904) (hP : ∀ n k, N n → 0 ≤ k → k < n → A k) : EvX R (tCall spDraw [] E0 (tCons (tVar i) (tCons tb tNil))) σ H (Dt K (isI A)) := fun H1 g Q q =>
  ⟨.ref r, hi, hb H1 g _ fun v H2 g2 hv => by
    obtain ⟨n, rfl, hn⟩ := dp_int_of hv
    exact ⟨r, n, rfl, d.rng g2.inv, (hN n hn).1, (hN n hn).2, fun k H' h0 h1 f => q _ H' (g2.trans (d.go g2.inv f)) ⟨.int k, ⟨k, rfl, hP n k hn h0 h1⟩, .int k⟩⟩⟩
theorem atI_lt {α : Type} {xs : List α} {k : Int} (h0 : 0 ≤ k) (h1 : k < (xs.length : Int)) : ∃ x, atI xs k = some x ∧ x ∈ xs := by
  obtain ⟨n, rfl⟩ := Int.eq_ofNat_of_zero_le h0
  have lt : n < xs.length := by omega
  exact ⟨xs[n], atI_nat (List.getElem?_eq_getElem lt), List.getElem_mem lt⟩
theorem atI_mem {α : Type} {xs : List α} {k : Int} {x : α} (h : atI xs k = some x) : x ∈ xs := by
  unfold atI at h
  cases hk : ixN xs.length k with
  | none => rw [hk] at h; cases h
  | some j => rw [hk] at h; exact List.mem_of_getElem? (by simpa using h)
/-- xs[draw(len(xs))], xs data -/
theorem x_pick {j : Nat} {v : V} {ds : List PyData} (d : Drw R r) (hi : σ[i]? = some (some (.ref r))) (hj : σ[j]? = some (some v)) (hv : Dp K (R.off H) v (.list ds)) (hne : ds ≠ []) (hz : ds.length ≤ 100000) (hP : ∀ x ∈ ds, P x) : EvX R (tOp (rIxL K) (tVar j) (tCall spDraw [] E0 (tCons (tVar i) (tCons (tCB (gLenQ K) (tCons (tVar j) tNil)) tNil)))) σ H (Dt K P) := by
  have pos : 0 < ds.length := List.length_pos_iff.mpr hne
  refine x_ixL (A := fun d => d = .list ds) (N := fun k => 0 ≤ k ∧ k < (ds.length : Int)) (x_d hj hv rfl) (x_draw (N := fun n => n = (ds.length : Int)) d hi (x_len (A := fun d => d = .list ds) (x_d hj hv rfl) fun d hd => ⟨ds, .inl hd, ⟨_, rfl, rfl⟩⟩) (fun n hn => by omega) (fun n k hn h0 h1 => ⟨h0, by omega⟩)) fun d i hd hi => ?_
  obtain ⟨x, h1, h2⟩ := atI_lt (xs := ds) hi.1 hi.2
  exact ⟨ds, x, hd, h1, hP x h2⟩
/-- .. xs a list at k that stays while draws are made -/
theorem x_pickM {j : Nat} {k : Addr} {vs : List V} {ds : List PyData} (d : Drw R r) (hi : σ[i]? = some (some (.ref r))) (hj : σ[j]? = some (some (.ref k))) (hk : ∀ H1, R.I H1 → H1 k = some (.lst vs)) (hv : DpAll K (R.off H) vs ds) (hne : ds ≠ []) (hz : ds.length ≤ 100000) (hP : ∀ x ∈ ds, P x) : EvX R (tOp (rIxL K) (tVar j) (tCall spDraw [] E0 (tCons (tVar i) (tCons (tCB (gLenQ K) (tCons (tVar j) tNil)) tNil)))) σ H (Dt K P) := fun H1 g Q q => by
  have pos : 0 < ds.length := List.length_pos_iff.mpr hne
  have hl := dpAll_len hv
  refine ⟨.ref k, hj, .ref r, hi, .ref k, hj, k, vs, rfl, .inl (SqL.of (hk H1 g.inv)), r, (vs.length : Int), rfl, d.rng g.inv, by omega, by omega, fun n H2 h0 h1 f => ?_⟩
  have g2 := d.go g.inv f
  obtain ⟨x, h3, h4⟩ := atI_lt (xs := ds) h0 (by omega)
  obtain ⟨y, h5, h6⟩ := dpAll_at (dpAll_up (g.trans g2).same hv) h3
  exact ⟨k, vs, n, y, rfl, rfl, SqL.of (hk H2 g2.inv), h5, q _ _ g2 ⟨x, hP x h4, h6⟩⟩
/-- l.append(e), l a list of one's own beside the region -/
theorem w_app1 {xs : List V} (hv : σ[i]? = some (some (.ref p))) (hI : (R.plus p (.lst xs)).I H) (he : EvX (R.plus p (.lst xs)) te σ H D) (hz : xs.length < 100000)
    (k : ∀ v H1, Go (R.plus p (.lst xs)) H H1 → D.p ((R.plus p (.lst xs)).off H1) v → E.nx σ (upd H1 p (.lst (xs ++ [v])))) : tDrop (tBM K "list" rAppend (tVar i) (tCons te tNil)) E σ H :=
  ⟨.ref p, hv, .inl ⟨rfl, xs, SqL.of hI.2⟩, he H (Go.refl hI) _ fun v H1 g hd => ⟨p, xs, v, rfl, rfl, g.inv.2, sz_lt hz, k v H1 g hd⟩⟩
theorem w_app {xs : List V} (hv : σ[i]? = some (some (.ref p))) (hI : (R.plus p (.lst xs)).I H) (he : EvX (R.plus p (.lst xs)) te σ H D) (hz : xs.length < 100000)
    (k : ∀ v H1, Go (R.plus p (.lst xs)) H H1 → D.p ((R.plus p (.lst xs)).off H1) v → tz E σ (upd H1 p (.lst (xs ++ [v])))) : tSeq (tDrop (tBM K "list" rAppend (tVar i) (tCons te tNil))) tz E σ H := w_app1 (E := { E with nx := tz E }) hv hI he hz k
/-- x = [] -/
theorem w_new (h : ∀ p, H p = none → tz E (σ.set i (some (.ref p))) (upd H p (.lst []))) : tSeq (tAsg (tLst tNil) (gName i)) tz E σ H := ⟨by show 0 ≤ sizeLine; decide, h⟩
end
end GK
namespace SF
open PySem PySem.Spec PyProof.Rows L2 GK Evl LamX
variable {P : Program} {w : World} {K : PySem.W.Frag} {mg : Str → Option Value} {base : Heap}
/-! ### _law_source, _law_take -/
def sp__law_source (T : Txt K mg) : Sp := fun vs H Q _ => ∃ (n : Int), vs = [.int n] ∧ ∀ r H', Same H H' → H r = none → Rng H' r → Q (.ref r) H'
theorem ok__law_source (T : Txt K mg) : FnOk P w K mg base CX0 1 T.a__law_source T.d__law_source ["_law_cell"] (sp__law_source T) := by
  refine T.F__law_source.ok sc__law_source (fun vs H Q E h => ?_) (fun cdv A outer s H vs Q E hr h => ?_)
  · obtain ⟨n, rfl, _⟩ := h
    rfl
  · obtain ⟨n, rfl, q⟩ := h
    refine ⟨(tRet (tLst (tCons (tCB gAbs (tCons (tVar 0) tNil)) (tCons (tOp (rI (fun _ j => 0 < j) fun i j => .int (i % j)) (tVar 0) (tC (.int 2147483629))) (tCons (tC (.int 0)) tNil))))),
(pss_one (ps_ret (pe_lst (pa_cons (pe_callB call_abs (by rfl) T.z_abs (by decide +kernel) (pa_cons (pv 0) pa_nil)) (pa_cons (pe_op op_mod (pv 0) pe_int) (pa_cons pe_int pa_nil)))))), ?_⟩
    refine s_retL (el_lst (ea_cons (ev_abs (ev_var rfl)) (ea_cons (ev_oC (ev_var rfl) ev_c (by decide)) (ea_cons ev_c ea_nil))) small3) fun p H2 hp e2 h2 => ?_
    exact q p H2 e2 hp ⟨_, ⟨_, by have := Int.emod_nonneg n (b := 2147483629) (by decide); have := Int.emod_lt_of_pos n (b := 2147483629) (by decide); omega⟩, _, h2⟩
abbrev sp__law_take (T : Txt K mg) : Sp := spDraw
theorem ok__law_take (T : Txt K mg) : FnOk P w K mg base CX0 1 T.a__law_take T.d__law_take ["_law_source_here", "_law_many"] (sp__law_take T) := by
  refine T.F__law_take.ok sc__law_take (fun vs H Q E h => ?_) (fun cdv A outer s H vs Q E hr h => ?_)
  · obtain ⟨r, n, rfl, _⟩ := h
    rfl
  · obtain ⟨r, n, rfl, ⟨a, ⟨b, hb0⟩, c, hR⟩, hn0, hn1, q⟩ := h
    refine ⟨(tSeq (tIfS (tTest (tOp (rI0 fun i j => .bl (decide (j ≤ i))) (tOp (rIxL K) (tVar 0) (tC (.int 0))) (tOp (rI CPow fun i j => .int (i ^ j.toNat)) (tC (.int 10)) (tC (.int 18))))) (tSeq (tAsg (tOp (rI (fun _ j => 0 < j) fun i j => .int (i % j)) (tOp (rIxL K) (tVar 0) (tC (.int 0))) (tVar 1)) (gName 2))
  (tSeq (tAsg (tOp (rI CDivW fun i j => .int (i / j)) (tOp (rIxL K) (tVar 0) (tC (.int 0))) (tVar 1)) (gSub (tVar 0) (tC (.int 0)) rSetL))
  (tRet (tVar 2)))) tNext)
  (tSeq (tAsg (tOp (rI0 fun i j => .int (i + j)) (tOp (rIxL K) (tVar 0) (tC (.int 2))) (tC (.int 1))) (gSub (tVar 0) (tC (.int 2)) rSetL))
  (tSeq (tAsg (tOp (rI (fun _ j => 0 < j) fun i j => .int (i % j)) (tOp (rI CMul fun i j => .int (i * j)) (tOp (rI0 fun i j => .int (i + j)) (tOp (rI0 fun i j => .int (i + j)) (tOp (rIxL K) (tVar 0) (tC (.int 1))) (tOp (rI CMul fun i j => .int (i * j)) (tC (.int 7919)) (tOp (rIxL K) (tVar 0) (tC (.int 2))))) (tC (.int 1))) (tC (.int 48271))) (tC (.int 2147483647))) (gName 3))
  (tSeq (tAsg (tOp (rI (fun _ j => 0 < j) fun i j => .int (i % j)) (tOp (rI CMul fun i j => .int (i * j)) (tVar 3) (tOp (rI0 fun i j => .int (i + j)) (tOp (rI CDivW fun i j => .int (i / j)) (tVar 3) (tC (.int 1013))) (tC (.int 69621)))) (tC (.int 2147483587))) (gName 3))
  (tRet (tOp (rI (fun _ j => 0 < j) fun i j => .int (i % j)) (tOp (rI (fun _ j => 0 < j) fun i j => .int (i % j)) (tOp (rI0 fun i j => .int (i + j)) (tOp (rI CDivW fun i j => .int (i / j)) (tVar 3) (tC (.int 7))) (tOp (rI CMul fun i j => .int (i * j)) (tOp (rI (fun _ j => 0 < j) fun i j => .int (i % j)) (tVar 3) (tC (.int 7919))) (tC (.int 40692)))) (tC (.int 2147483399))) (tVar 1))))))),
(pss_cons (ps_if (pt_cmpR op_ge (pe_ix ix_list (pv 0) pe_int (fun _ _ => rfl)) (pe_op op_pow pe_int pe_int) (nomark _)) (pss_cons (ps_set (i := 2) sc__law_take.nd rfl (.inl rfl) (pe_op op_mod (pe_ix ix_list (pv 0) pe_int (fun _ _ => rfl)) (pv 1)))
  (pss_cons (ps_asg (pe_op op_fdivW (pe_ix ix_list (pv 0) pe_int (fun _ _ => rfl)) (pv 1)) (pg_sub (pv 0) pe_int set_list))
  (pss_one (ps_ret (pv 2))))) pss_nil)
  (pss_cons (ps_asg (pe_op op_add (pe_ix ix_list (pv 0) pe_int (fun _ _ => rfl)) pe_int) (pg_sub (pv 0) pe_int set_list))
  (pss_cons (ps_set (i := 3) sc__law_take.nd rfl (.inl rfl) (pe_op op_mod (pe_op op_mul (pe_op op_add (pe_op op_add (pe_ix ix_list (pv 0) pe_int (fun _ _ => rfl)) (pe_op op_mul pe_int (pe_ix ix_list (pv 0) pe_int (fun _ _ => rfl)))) pe_int) pe_int) pe_int))
  (pss_cons (ps_set (i := 3) sc__law_take.nd rfl (.inl rfl) (pe_op op_mod (pe_op op_mul (pv 3) (pe_op op_add (pe_op op_fdivW (pv 3) pe_int) pe_int)) pe_int))
  (pss_one (ps_ret (pe_op op_mod (pe_op op_mod (pe_op op_add (pe_op op_fdivW (pv 3) pe_int) (pe_op op_mul (pe_op op_mod (pv 3) pe_int) pe_int)) pe_int) (pv 1)))))))), ?_⟩
    have at0 : ∀ {H1 : Hp} {x y z : V}, H1 r = some (.lst [x, y, z]) → SqL K H1 r [x, y, z] := fun h => SqL.of h
    have fr : ∀ {H' : Hp} {x z : Int}, Same H H' → Fr r H (upd H' r (.lst [.int x, .int b, .int z])) := fun {H' x z} e => ⟨by rw [off_upd]; exact off_mono e, x, ⟨b, hb0⟩, z, upd_same⟩
    refine q_when (et_test (ev_oI (ev_ixL (ev_var rfl) ev_c (at0 hR) (atI_nat (j := 0) rfl)) (ev_oC ev_c ev_c (by unfold CPow; decide)))) (fun hb H1 e1 => ?_) (fun hb H1 e1 => ?_)
    · refine q_asg (ev_oC (ev_ixL (ev_var rfl) ev_c (at0 (e1 _ _ hR)) (atI_nat (j := 0) rfl)) (ev_var rfl) hn0) fun H2 e2 => ?_
      have h2 : H2 r = some (.lst [.int a, .int b, .int c]) := e2 _ _ (e1 _ _ hR)
      refine q_setL (j := 0) h2 (ev_oC (ev_ixL (ev_var rfl) ev_c (at0 h2) (atI_nat (j := 0) rfl)) (ev_var rfl) ⟨hn0, hn1⟩) (ev_var rfl) ev_c (by simp) fun H3 e3 => ?_
      exact s_ret (ev_var rfl) fun H4 e4 => q _ H4 (Int.emod_nonneg _ (by omega)) (Int.emod_lt_of_pos _ hn0) ((fr (e1.trans (e2.trans e3))).then e4)
    · have h1 : H1 r = some (.lst [.int a, .int b, .int c]) := e1 _ _ hR
      refine q_setL (j := 2) h1 (ev_oI (ev_ixL (ev_var rfl) ev_c (at0 h1) (atI_nat (j := 2) rfl)) ev_c) (ev_var rfl) ev_c (by simp) fun H2 e2 => ?_
      generalize hH3 : upd H2 r (.lst ([V.int a, V.int b, V.int c].set 2 (.int (c + 1)))) = H3
      have h3 : H3 r = some (.lst [.int a, .int b, .int (c + 1)]) := by rw [← hH3]; exact upd_same
      have f3 : Fr r H H3 := by rw [← hH3]; exact fr (e1.trans e2)
      refine q_asg (ev_oC (ev_oC (ev_oI (ev_oI (ev_ixL (ev_var rfl) ev_c (at0 h3) (atI_nat (j := 1) rfl)) (ev_oC ev_c (ev_ixL (ev_var rfl) ev_c (at0 h3) (atI_nat (j := 2) rfl)) (.inl ⟨by decide, by decide⟩))) ev_c) ev_c (.inr ⟨by decide, by decide⟩)) ev_c (by decide)) fun H4 e4 => ?_
      generalize hm : (b + 7919 * (c + 1) + 1) * 48271 % 2147483647 = m
      have hm0 : 0 ≤ m ∧ m < 2147483647 := by
        rw [← hm]
        exact ⟨Int.emod_nonneg _ (by decide), Int.emod_lt_of_pos _ (by decide)⟩
      refine q_asg (ev_oC (ev_oC (ev_var rfl) (ev_oI (ev_oC (ev_var rfl) ev_c ⟨by decide, by decide⟩) ev_c) (.inl ⟨by omega, by omega⟩)) ev_c (by decide)) fun H5 e5 => ?_
      generalize hl : m * (m / 1013 + 69621) % 2147483587 = l
      have hl0 : 0 ≤ l ∧ l < 2147483587 := by
        rw [← hl]
        exact ⟨Int.emod_nonneg _ (by decide), Int.emod_lt_of_pos _ (by decide)⟩
      refine s_ret (ev_oC (ev_oC (ev_oI (ev_oC (ev_var rfl) ev_c ⟨by decide, by decide⟩) (ev_oC (ev_oC (ev_var rfl) ev_c (by decide)) ev_c (.inr ⟨by decide, by decide⟩))) ev_c (by decide)) (ev_var rfl) hn0) fun H6 e6 => ?_
      exact q _ H6 (Int.emod_nonneg _ (by omega)) (Int.emod_lt_of_pos _ hn0) (((f3.then e4).then e5).then e6)
/-! ### _law_names -/
def gd (n : Nat) (s : Str) : Prop := s.length ≤ n ∧ PyData.strOk s = true
def sp__law_names (T : Txt K mg) : Sp := fun vs H Q _ => ∃ (r : Addr) (n : Nat), vs = [.ref r, .int (n : Int)] ∧ Rng H r ∧ n ≤ 100 ∧ ∀ (a : Addr) (ss : List Str) H', Fr r H H' → H a = none → H' a = some (.lst (ss.map V.str)) → ss.length = n → (∀ s ∈ ss, gd 30 s) → Q (.ref a) H'
theorem gd_app {s t : Str} {a b : Nat} (hs : gd a s) (ht : gd b t) : gd (a + b) (s ++ t) := by
  refine ⟨by rw [PySem.Str.length_append]; have := hs.1; have := ht.1; omega, ?_⟩
  unfold PyData.strOk
  rw [PySem.Str.cps_append, Array.all_append]
  have h1 := hs.2
  have h2 := ht.2
  unfold PyData.strOk at h1 h2
  rw [h1, h2]
  rfl
theorem strOk_mem {s : Str} : PyData.strOk s = true ↔ ∀ c ∈ s.cps.toList, c < 0x110000 := by
  unfold PyData.strOk
  rw [← Array.all_toList, List.all_eq_true]
  simp
theorem gd_sign {z : Str} {k : Int} {c : Nat} (hz : PyData.strOk z = true) (h : atI z.cps.toList k = some c) : gd 1 ⟨#[c]⟩ := by
  refine ⟨Nat.le_refl _, strOk_mem.mpr fun x hx => ?_⟩
  have : x = c := by simpa using hx
  subst this
  exact strOk_mem.mp hz _ (atI_mem h)
theorem gd_cut {z : Str} {n : Nat} {lo hi : Option Int} (hz : gd n z) : gd n (cutS z lo hi) := by
  refine ⟨Nat.le_trans (cutS_length _ _ _) hz.1, strOk_mem.mpr fun x hx => strOk_mem.mp hz.2 x ?_⟩
  unfold cutS at hx
  have hx : x ∈ (z.cps.toList.drop (HT.sIx z.length 0 lo)).take (HT.sIx z.length z.length hi - HT.sIx z.length 0 lo) := by simpa using hx
  exact List.mem_of_mem_drop (List.mem_of_mem_take hx)
theorem gd_le {s : Str} {a b : Nat} (h : gd a s) (le : a ≤ b) : gd b s := ⟨Nat.le_trans h.1 le, h.2⟩
theorem at_sign {z : Str} {k : Int} {n : Nat} (hz : z.cps.toList.length = n) (h0 : 0 ≤ k) (h1 : k < (n : Int)) : ∃ c, atI z.cps.toList k = some c := by
  obtain ⟨x, h, _⟩ := atI_lt (xs := z.cps.toList) h0 (by rw [hz]; exact h1)
  exact ⟨x, h⟩
theorem ok__law_names (T : Txt K mg) : FnOk P w K mg base CX0 2 T.a__law_names T.d__law_names ["_law_source_here", "_law_many"] (sp__law_names T) := by
  have G__law_take : FnOk P w K mg base CX0 1 T.a__law_take T.d__law_take ["_law_source_here", "_law_many"] (sp__law_take T) := ok__law_take T
  refine T.F__law_names.ok sc__law_names (fun vs H Q E h => ?_) (fun cdv A outer s H vs Q E hr h => ?_)
  · obtain ⟨r, n, rfl, _⟩ := h
    rfl
  · obtain ⟨r, n, rfl, hR, hn, q⟩ := h
    refine ⟨(tSeq (tAsg (tC (.str "abcdefghijklmnopqrstuvwxyz")) (gName 2))
  (tSeq (tAsg (tCall (sp__law_take T) [] E0 (tCons (tVar 0) (tCons (tC (.int 26)) tNil))) (gName 3))
  (tSeq (tAsg (tOp rIxS (tVar 2) (tCall (sp__law_take T) [] E0 (tCons (tVar 0) (tCons (tC (.int 26)) tNil)))) (gName 4))
  (tSeq (tFor (iRng1 (tCons (tC (.int 6)) tNil)) (gName 5)
  (tAsg (tOp rAddT (tVar 4) (tOp rIxS (tOp rAddT (tVar 2) (tC (.str "0123456789"))) (tCall (sp__law_take T) [] E0 (tCons (tVar 0) (tCons (tC (.int 36)) tNil))))) (gName 4)))
  (tSeq (tAsg (tCall (sp__law_take T) [] E0 (tCons (tVar 0) (tCons (tC (.int 4)) tNil))) (gName 6))
  (tSeq (tAsg (tLst tNil) (gName 7))
  (tSeq (tFor (iRng1 (tCons (tVar 1) tNil)) (gName 5)
  (tSeq (tAsg (tOp rAddT (tSl rSlS (tVar 4) tNoPart (tPart (tVar 6))) (tOp rIxS (tVar 2) (tOp (rI (fun _ j => 0 < j) fun i j => .int (i % j)) (tOp (rI0 fun i j => .int (i + j)) (tVar 3) (tOp (rI CMul fun i j => .int (i * j)) (tC (.int 5)) (tVar 5))) (tC (.int 26))))) (gName 8))
  (tSeq (tAsg (tOp rAddT (tVar 8) (tSl rSlS (tVar 4) (tPart (tVar 6)) (tPart (tOp (rI0 fun i j => .int (i + j)) (tVar 6) (tCall (sp__law_take T) [] E0 (tCons (tVar 0) (tCons (tOp (rI0 fun i j => .int (i - j)) (tC (.int 8)) (tVar 6)) tNil))))))) (gName 8))
  (tDrop (tBM K "list" rAppend (tVar 7) (tCons (tOp rAddT (tVar 8) (tOp rMulT (tC (.str "x")) (tCB gInt1 (tCons (tOp (rIn K false) (tVar 8) (tLst (tCons (tC (.str "where")) (tCons (tC (.str "must")) (tCons (tC (.str "and")) (tCons (tC (.str "or")) (tCons (tC (.str "not")) tNil))))))) tNil)))) tNil))))))
  (tRet (tVar 7))))))))),
(pss_cons (ps_set (i := 2) sc__law_names.nd rfl (.inl rfl) pe_str)
  (pss_cons (ps_set (i := 3) sc__law_names.nd rfl (.inl rfl) (pe_call (G__law_take.mono (by omega)) hr (by rfl) T.g__law_take T.F__law_take.kp T.b__law_take .nil pass0 (pa_cons (pv 0) (pa_cons pe_int pa_nil))))
  (pss_cons (ps_set (i := 4) sc__law_names.nd rfl (.inl rfl) (pe_ix ix_str (pv 2) (pe_call (G__law_take.mono (by omega)) hr (by rfl) T.g__law_take T.F__law_take.kp T.b__law_take .nil pass0 (pa_cons (pv 0) (pa_cons pe_int pa_nil))) (fun _ _ => rfl)))
  (pss_cons (ps_for PassesOwn.never rfl (pi_range1 (by rfl) T.z_range (pa_cons pe_int pa_nil)) (pg_name (i := 5) sc__law_names.nd rfl (.inl rfl))
  (pss_one (ps_set (i := 4) sc__law_names.nd rfl (.inl rfl) (pe_op op_addT (pv 4) (pe_ix ix_str (pe_op op_addT (pv 2) pe_str) (pe_call (G__law_take.mono (by omega)) hr (by rfl) T.g__law_take T.F__law_take.kp T.b__law_take .nil pass0 (pa_cons (pv 0) (pa_cons pe_int pa_nil))) (fun _ _ => rfl))))))
  (pss_cons (ps_set (i := 6) sc__law_names.nd rfl (.inl rfl) (pe_call (G__law_take.mono (by omega)) hr (by rfl) T.g__law_take T.F__law_take.kp T.b__law_take .nil pass0 (pa_cons (pv 0) (pa_cons pe_int pa_nil))))
  (pss_cons (ps_set (i := 7) sc__law_names.nd rfl (.inl rfl) (pe_lst pa_nil))
  (pss_cons (ps_for PassesOwn.never rfl (pi_range1 (by rfl) T.z_range (pa_cons (pv 1) pa_nil)) (pg_name (i := 5) sc__law_names.nd rfl (.inl rfl))
  (pss_cons (ps_set (i := 8) sc__law_names.nd rfl (.inl rfl) (pe_op op_addT (pe_slice sl_str (pv 4) po_none (po_some (pv 6))) (pe_ix ix_str (pv 2) (pe_op op_mod (pe_op op_add (pv 3) (pe_op op_mul pe_int (pv 5))) pe_int) (fun _ _ => rfl))))
  (pss_cons (ps_set (i := 8) sc__law_names.nd rfl (.inl rfl) (pe_op op_addT (pv 8) (pe_slice sl_str (pv 4) (po_some (pv 6)) (po_some (pe_op op_add (pv 6) (pe_call (G__law_take.mono (by omega)) hr (by rfl) T.g__law_take T.F__law_take.kp T.b__law_take .nil pass0 (pa_cons (pv 0) (pa_cons (pe_op op_sub pe_int (pv 6)) pa_nil))))))))
  (pss_one (ps_expr (pe_bm PySem.F.plainAttrs_list PySem.F.slot_list_append PySem.F.type_list_append mt_append (pv 7) (pa_cons (pe_op op_addT (pv 8) (pe_op op_mulT pe_str (pe_callTy call_int1 (by rfl) T.z_int (by decide +kernel) (pa_cons (pe_cmpR op_in_seq (pv 8) (pe_lst (pa_cons pe_str (pa_cons pe_str (pa_cons pe_str (pa_cons pe_str (pa_cons pe_str pa_nil)))))) (by rfl)) pa_nil)))) pa_nil)))))))
  (pss_one (ps_ret (pv 7)))))))))), ?_⟩
    have dm : ∀ a ∈ [r], ∃ o, H a = some o := fun a ha => by
      rw [List.mem_singleton] at ha
      subst ha
      obtain ⟨x, b, c, z⟩ := hR
      exact ⟨_, z⟩
    let R : Rg := draw [r] r H dm (List.mem_singleton.mpr rfl)
    have dr : Drw R r := drw_draw
    have I0 : R.I H := draw_refl hR
    have hlet : ("abcdefghijklmnopqrstuvwxyz" : Str).cps.toList.length = 26 := by decide
    have hall : (("abcdefghijklmnopqrstuvwxyz" : Str) ++ "0123456789").cps.toList.length = 36 := by decide
    refine q_asg ev_c fun H1 e1 => ?_
    have g1 : Go R H H1 := Go.of I0 e1
    refine w_asg (D := Dt K (isI fun k => 0 ≤ k ∧ k < 26)) (x_draw (N := fun n => n = 26) dr (i := 0) rfl (x_i rfl) (fun n hn => by omega) (fun n k hn h0 h1 => ⟨h0, by omega⟩)) g1.inv fun v H2 g2 hv => ?_
    obtain ⟨bg, rfl, hbg⟩ := dp_int_of hv
    refine w_asg (D := Dt K (isS (gd 1))) (x_ixS (A := fun s => s = "abcdefghijklmnopqrstuvwxyz") (N := fun k => 0 ≤ k ∧ k < 26) (x_vs rfl rfl) (x_draw (N := fun n => n = 26) dr (i := 0) rfl (x_i rfl) (fun n hn => by omega) (fun n k hn h0 h1 => ⟨h0, by omega⟩)) fun s i hs hi => by
      subst hs
      obtain ⟨c, hc⟩ := at_sign hlet hi.1 hi.2
      exact ⟨by decide, c, hc, _, rfl, gd_sign (by decide +kernel) hc⟩) g2.inv fun v H3 g3 hv => ?_
    obtain ⟨st, rfl, hst⟩ := dp_str_of hv
    refine w_forR (K := K) (A := fun n => n = 6) (x_i rfl) g3.inv (fun n hn => by omega) (fun _ _ i σ' H' => Go R H H' ∧ ∃ (s : Str) (y : Option V), gd (1 + i) s ∧ σ' = [some (.ref r), some (.int (n : Int)), some (.str "abcdefghijklmnopqrstuvwxyz"), some (.int bg), some (.str s), y, none, none, none])
      (fun H4 n' _ g4 => ⟨((g1.trans g2).trans g3).trans g4, st, none, hst, rfl⟩) (fun H4 n' hn' g4 i σ' H' hi p => ?_) (fun H4 n' hn' g4 σ' H' p => ?_)
    · obtain ⟨g, s, y, hs, rfl⟩ := p
      refine w_asg1 (D := Dt K (isS (gd (1 + (i + 1))))) (x_addS (A := fun t => t = s) (B := gd 1) (x_vs rfl rfl) (x_ixS (A := fun t => t = "abcdefghijklmnopqrstuvwxyz" ++ "0123456789") (N := fun k => 0 ≤ k ∧ k < 36) (x_addS (A := fun t => t = "abcdefghijklmnopqrstuvwxyz") (B := fun t => t = "0123456789") (x_vs rfl rfl) (x_s rfl) fun a b ha hb => by subst ha hb; exact ⟨by decide, _, rfl, rfl⟩) (x_draw (N := fun n => n = 36) dr (i := 0) rfl (x_i rfl) (fun n hn => by omega) (fun n k hn h0 h1 => ⟨h0, by omega⟩)) fun t k ht hk => by
        subst ht
        obtain ⟨c, hc⟩ := at_sign hall hk.1 hk.2
        exact ⟨by decide, c, hc, _, rfl, gd_sign (by decide +kernel) hc⟩) fun a b ha hb => by
          subst ha
          exact ⟨by have := hs.1; have := hb.1; omega, _, rfl, gd_le (gd_app hs hb) (by omega)⟩) g.inv fun v H5 g5 hv => ?_
      obtain ⟨t, rfl, ht⟩ := dp_str_of hv
      exact ⟨g.trans g5, t, _, ht, rfl⟩
    · obtain ⟨g, s, y, hs, rfl⟩ := p
      have hs : gd 7 s := by
        have hh : n' = 6 := hn'
        rw [hh] at hs
        exact gd_le hs (by decide)
      refine w_asg (D := Dt K (isI fun k => 0 ≤ k ∧ k < 4)) (x_draw (N := fun n => n = 4) dr (i := 0) rfl (x_i rfl) (fun n hn => by omega) (fun n k hn h0 h1 => ⟨h0, by omega⟩)) g.inv fun v H5 g5 hv => ?_
      obtain ⟨at', rfl, hat⟩ := dp_int_of hv
      refine w_new fun f nf => ?_
      have g05 : Go R H H5 := g.trans g5
      have nS : f ∉ R.S := R.fresh g05.inv nf
      have nfr : f ≠ r := fun z => nS (by rw [z]; exact List.mem_singleton.mpr rfl)
      have hf0 : R.off H f = none := g05.free nf
      have hfH : H f = none := by
        cases z : H f with
        | none => rfl
        | some o =>
          have y : R.off H f = some o := offS_some.mpr ⟨nS, z⟩
          rw [y] at hf0
          cases hf0
      refine w_forR (K := K) (R := R.plus f (.lst [])) (A := fun m => m = (n : Int)) (x_vi rfl rfl) (plus_new nf g05.inv) (fun m hm => by omega) (fun _ _ i σ' H' => ∃ (ss : List Str) (y5 y8 : Option V), ss.length = i ∧ (∀ s ∈ ss, gd 30 s) ∧ (R.plus f (.lst (ss.map V.str))).I H' ∧ Same (offS [r] H) (offS [f, r] H') ∧ σ' = [some (.ref r), some (.int (n : Int)), some (.str "abcdefghijklmnopqrstuvwxyz"), some (.int bg), some (.str s), y5, some (.int at'), some (.ref f), y8])
        (fun H6 m hm g6 => ⟨[], _, _, rfl, by simp, g6.inv, (Same.trans g05.same (plus_same (o := .lst []) nf (same_new nf))).trans g6.same, rfl⟩) (fun H6 m hm g6 i σ' H' hi p => ?_) (fun H6 m hm g6 σ' H' p => ?_)
      · obtain ⟨ss, y5, y8, hl, hall', hI, hS, rfl⟩ := p
        have dr' : Drw (R.plus f (.lst (ss.map V.str))) r := plus_drw dr nfr
        refine w_asg (R := R.plus f (.lst (ss.map V.str))) (D := Dt K (isS (gd 8))) (x_addS (A := gd 7) (B := gd 1) (x_slS (A := fun t => t = s) (x_vs rfl rfl) xo_none (xo_some (K := K) (A := fun k => True) (x_vi rfl trivial)) fun t lo hi ht _ _ => by subst ht; exact ⟨by have := hs.1; omega, _, rfl, gd_cut hs⟩)
          (x_ixS (A := fun t => t = "abcdefghijklmnopqrstuvwxyz") (N := fun k => 0 ≤ k ∧ k < 26) (x_vs rfl rfl) (x_IC (A := fun _ => True) (B := fun j => j = 26) (x_I0 (A := fun _ => True) (B := fun _ => True) (x_vi rfl trivial) (x_IC (A := fun j => j = 5) (B := fun _ => True) (x_i rfl) (x_vi rfl trivial) fun a b ha _ => by subst ha; exact ⟨.inl ⟨by decide, by decide⟩, _, rfl, trivial⟩) fun a b _ _ => ⟨_, rfl, trivial⟩) (x_i rfl) fun a b _ hb => by subst hb; exact ⟨by decide, _, rfl, Int.emod_nonneg _ (by decide), Int.emod_lt_of_pos _ (by decide)⟩) fun t k ht hk => by
            subst ht
            obtain ⟨c, hc⟩ := at_sign hlet hk.1 hk.2
            exact ⟨by decide, c, hc, _, rfl, gd_sign (by decide +kernel) hc⟩) fun a b ha hb => ⟨by have := ha.1; have := hb.1; omega, _, rfl, gd_le (gd_app ha hb) (by omega)⟩) hI fun v H7 g7 hv => ?_
        obtain ⟨t1, rfl, ht1⟩ := dp_str_of hv
        refine w_asg (R := R.plus f (.lst (ss.map V.str))) (D := Dt K (isS (gd 15))) (x_addS (A := gd 8) (B := gd 7) (x_vs rfl ht1) (x_slS (A := fun t => t = s) (x_vs rfl rfl) (xo_some (K := K) (A := fun _ => True) (x_vi rfl trivial)) (xo_some (K := K) (A := fun _ => True) (x_I0 (A := fun _ => True) (B := fun _ => True) (x_vi rfl trivial) (x_draw (N := fun m => 0 < m ∧ m ≤ 8) dr' (i := 0) rfl (x_I0 (A := fun a => a = 8) (B := fun b => 0 ≤ b ∧ b < 4) (x_i rfl) (x_vi rfl hat) fun a b ha hb => ⟨_, rfl, by omega, by omega⟩) (fun n hn => by omega) (fun _ _ _ _ _ => trivial)) fun a b _ _ => ⟨_, rfl, trivial⟩)) fun t lo hi ht _ _ => by subst ht; exact ⟨by have := hs.1; omega, _, rfl, gd_cut hs⟩) fun a b ha hb => ⟨by have := ha.1; have := hb.1; omega, _, rfl, gd_le (gd_app ha hb) (by omega)⟩) g7.inv fun v H8 g8 hv => ?_
        obtain ⟨t2, rfl, ht2⟩ := dp_str_of hv
        refine w_app1 (K := K) (D := Dt K (isS (gd 30))) (i := 7) rfl g8.inv (x_addS (A := gd 15) (B := gd 1) (x_vs rfl ht2) (x_mulT (A := fun t => t = "x") (B := fun b => b = 0 ∨ b = 1) (x_s rfl) (x_intb (A := fun _ => True) (x_in (A := fun d => d = .str t2) (B := fun e => e = .list [.str "where", .str "must", .str "and", .str "or", .str "not"]) (x_d rfl (.str _) rfl) (x_lst (ds_cons (x_s (A := fun t => t = "where") rfl) (ds_cons (x_s (A := fun t => t = "must") rfl) (ds_cons (x_s (A := fun t => t = "and") rfl) (ds_cons (x_s (A := fun t => t = "or") rfl) (ds_cons (x_s (A := fun t => t = "not") rfl) ds_nil))))) fun ds al => ?_) fun d e hd he => ?_) fun b _ => ?_) fun s' n' hs' hn' => ?_) fun a b ha hb => ?_) (by rw [List.length_map]; omega) fun v H9 g9 hv => ?_
        · cases al with
          | cons h1 t => cases t with
            | cons h2 t => cases t with
              | cons h3 t => cases t with
                | cons h4 t => cases t with
                  | cons h5 t =>
                    cases t
                    obtain ⟨_, rfl, rfl⟩ := h1
                    obtain ⟨_, rfl, rfl⟩ := h2
                    obtain ⟨_, rfl, rfl⟩ := h3
                    obtain ⟨_, rfl, rfl⟩ := h4
                    obtain ⟨_, rfl, rfl⟩ := h5
                    rfl
        · exact ⟨_, .inl he, by rw [hd]; rfl, by decide, trivial⟩
        · cases b
          · exact ⟨0, rfl, .inl rfl⟩
          · exact ⟨1, rfl, .inr rfl⟩
        · refine ⟨hn', _, rfl, ?_⟩
          split
          · rw [hs']; exact ⟨by decide, by decide +kernel⟩
          · exact ⟨by decide, by decide +kernel⟩
        · exact ⟨by have := ha.1; have := hb.1; omega, _, rfl, gd_le (gd_app ha hb) (by omega)⟩
        · obtain ⟨t3, rfl, ht3⟩ := dp_str_of hv
          refine ⟨ss ++ [t3], _, _, by rw [List.length_append, hl]; rfl, fun x hx => ?_, ?_, ?_, rfl⟩
          · rcases List.mem_append.mp hx with z | z
            · exact hall' x z
            · rw [List.mem_singleton.mp z]; exact ht3
          · rw [List.map_append]
            exact plus_set nS g9.inv
          · rw [offS_upd List.mem_cons_self]
            exact Same.trans hS ((g7.trans g8).trans g9).same
      · obtain ⟨ss, y5, y8, hl, hall', hI, hS, rfl⟩ := p
        refine s_ret (ev_var rfl) fun H7 e7 => ?_
        have hm' : m = (n : Int) := hm
        refine q f ss H7 ⟨fun b o hb => ?_, (hI.1.1).up e7⟩ hfH (e7 _ _ hI.2) (by rw [hl, hm', Int.toNat_natCast]) hall'
        obtain ⟨nb, hb⟩ := off_some.mp hb
        exact off_some.mpr ⟨nb, e7 _ _ (offS_some.mp (hS b o (offS_some.mpr ⟨by simpa using nb, hb⟩))).2⟩
end SF
namespace SF
open PySem PySem.Spec PyProof.Rows L2 GK Evl LamX
variable {P : Program} {w : World} {K : PySem.W.Frag} {mg : Str → Option Value} {base : Heap}
/-! ### what is known: questions ahead -/
abbrev s30 (s : Str) : Prop := gd 30 s
def knP (d : PyData) : Prop := ∃ n : Str, s30 n ∧ ((∃ ss : List Str, ss ≠ [] ∧ ss.length ≤ 100 ∧ (∀ s ∈ ss, s30 s) ∧ (d = .tuple [.str n, .str "one", .list (ss.map .str)] ∨ d = .tuple [.str n, .str "some", .list (ss.map .str)])) ∨
  ∃ lo hi : Int, lo ≤ hi ∧ hi - lo ≤ 1000000000000 ∧ d = .tuple [.str n, .str "number", .tuple [.int lo, .int hi]])
/-- the draws' list at r and what is known, at k -/
structure Kn (K : PySem.W.Frag) (S : List Addr) (H : Hp) (r k : Addr) (vs : List V) (ds : List PyData) : Prop where
  mr : r ∈ S
  mk_ : k ∈ S
  ne : k ≠ r
  dm : ∀ a ∈ S, ∃ o, H a = some o
  rng : Rng H r
  at_ : H k = some (.lst vs)
  dp : DpAll K (offS S H) vs ds
  kn : ∀ d ∈ ds, knP d
  len : ds.length ≤ 1000
theorem Kn.fr {S : List Addr} {H H' : Hp} {r k : Addr} {vs : List V} {ds : List PyData} (h : Kn K S H r k vs ds) (f : Fr r H H') : Kn K S H' r k vs ds := by
  refine ⟨h.mr, h.mk_, h.ne, fun a ha => ?_, f.rng, (off_some.mp (f.same k _ (off_some.mpr ⟨h.ne, h.at_⟩))).2, dpAll_up (offS_of_off h.mr f.same) h.dp, h.kn, h.len⟩
  by_cases e : a = r
  · obtain ⟨x, b, c, z⟩ := f.rng
    exact ⟨_, by rw [e]; exact z⟩
  · obtain ⟨o, ho⟩ := h.dm a ha
    exact ⟨o, (off_some.mp (f.same a o (off_some.mpr ⟨e, ho⟩))).2⟩
/-- the region of a def that draws and reads what is known -/
def Kn.rg {S : List Addr} {H : Hp} {r k : Addr} {vs : List V} {ds : List PyData} (h : Kn K S H r k vs ds) : Rg := draw S r H h.dm h.mr
theorem Kn.I {S : List Addr} {H : Hp} {r k : Addr} {vs : List V} {ds : List PyData} (h : Kn K S H r k vs ds) : h.rg.I H := draw_refl h.rng
theorem Kn.drw {S : List Addr} {H : Hp} {r k : Addr} {vs : List V} {ds : List PyData} (h : Kn K S H r k vs ds) : Drw h.rg r := drw_draw
theorem Kn.go {S : List Addr} {H H' : Hp} {r k : Addr} {vs : List V} {ds : List PyData} (h : Kn K S H r k vs ds) (g : Go h.rg H H') : Kn K S H' r k vs ds := h.fr (draw_fr g)
theorem Kn.stay {S : List Addr} {H H1 : Hp} {r k : Addr} {vs : List V} {ds : List PyData} (h : Kn K S H r k vs ds) (i : h.rg.I H1) : H1 k = some (.lst vs) := (i.2 k h.mk_ h.ne).trans h.at_
theorem dp_t2 {H : Hp} {v : V} {a b : PyData} (h : Dp K H v (.tuple [a, b])) : ∃ t x y, v = .ref t ∧ SqT K H t [x, y] ∧ Dp K H x a ∧ Dp K H y b := by
  obtain ⟨t, vs, rfl, hs, hd⟩ := dp_tup h
  cases hd with
  | cons h1 t1 => cases t1 with
    | cons h2 t2 => cases t2; exact ⟨_, _, _, rfl, hs, h1, h2⟩
theorem dp_t3 {H : Hp} {v : V} {a b c : PyData} (h : Dp K H v (.tuple [a, b, c])) : ∃ t x y z, v = .ref t ∧ SqT K H t [x, y, z] ∧ Dp K H x a ∧ Dp K H y b ∧ Dp K H z c := by
  obtain ⟨t, vs, rfl, hs, hd⟩ := dp_tup h
  cases hd with
  | cons h1 t1 => cases t1 with
    | cons h2 t2 => cases t2 with
      | cons h3 t3 => cases t3; exact ⟨_, _, _, _, rfl, hs, h1, h2, h3⟩
theorem g_tup3 {H : Hp} {σ : L2.St} {i j k : Nat} {t : Addr} {x y z : V} {F : L2.St → Hp → Prop} (h : SqT K H t [x, y, z]) (q : F (((σ.set i (some x)).set j (some y)).set k (some z)) H) : gTup K 3 (gCons (gName i) (gCons (gName j) (gCons (gName k) gNil))) (.ref t) σ H F :=
  ⟨t, _, rfl, h, rfl, x, [y, z], rfl, y, [z], rfl, z, [], rfl, rfl, q⟩
theorem g_tup2 {H : Hp} {σ : L2.St} {i j : Nat} {t : Addr} {x y : V} {F : L2.St → Hp → Prop} (h : SqT K H t [x, y]) (q : F ((σ.set i (some x)).set j (some y)) H) : gTup K 2 (gCons (gName i) (gCons (gName j) gNil)) (.ref t) σ H F :=
  ⟨t, _, rfl, h, rfl, x, [y], rfl, y, [], rfl, rfl, q⟩
theorem al3 {P1 P2 P3 : PyData → Prop} {ds : List PyData} (h : Al [P1, P2, P3] ds) : ∃ a b c, ds = [a, b, c] ∧ P1 a ∧ P2 b ∧ P3 c := by
  cases h with
  | cons h1 t => cases t with
    | cons h2 t => cases t with
      | cons h3 t => cases t; exact ⟨_, _, _, rfl, h1, h2, h3⟩
theorem al2 {P1 P2 : PyData → Prop} {ds : List PyData} (h : Al [P1, P2] ds) : ∃ a b, ds = [a, b] ∧ P1 a ∧ P2 b := by
  cases h with
  | cons h1 t => cases t with
    | cons h2 t => cases t; exact ⟨_, _, rfl, h1, h2⟩
/-- conditions up to a depth, as data -/
def cnP (m : Nat) (d : PyData) : Prop := ∃ c : Cnd, c.ok ∧ c.dep ≤ m ∧ d = c.py
theorem s30_ok {s : Str} (h : s30 s) : sOk s := ⟨by have := h.1; omega, h.2⟩
theorem x_tu {R : Rg} {σ : L2.St} {H : Hp} {ta : TA} {Ps : List (PyData → Prop)} {P : PyData → Prop} (h : EvDs K R ta σ H Ps) (f : ∀ ds, Al Ps ds → P (.tuple ds)) (hz : Ps.length ≤ 1000 := by simp) : EvX R (tTup ta) σ H (Dt K P) := x_tup h f hz
theorem x_li {R : Rg} {σ : L2.St} {H : Hp} {ta : TA} {Ps : List (PyData → Prop)} {P : PyData → Prop} (h : EvDs K R ta σ H Ps) (f : ∀ ds, Al Ps ds → P (.list ds)) (hz : Ps.length ≤ 1000 := by simp) : EvX R (tLst ta) σ H (Dt K P) := x_lst h f hz
/-- one of two texts, drawn -/
theorem x_two {R : Rg} {σ : L2.St} {H : Hp} {tb : TE} {a b : Str} {A : Str → Prop} (hb : EvX R tb σ H (Dt K (isI fun k => 0 ≤ k ∧ k < 2))) (ha : A a) (hb' : A b) : EvX R (tOp (rIxL K) (tLst (tCons (tC (.str a)) (tCons (tC (.str b)) tNil))) tb) σ H (Dt K (isS A)) :=
  x_ixL (A := fun d => d = .list [.str a, .str b]) (x_li (ds_cons (x_s (A := fun t => t = a) rfl) (ds_cons (x_s (A := fun t => t = b) rfl) ds_nil)) fun ds al => by
    obtain ⟨x, y, rfl, ⟨_, rfl, rfl⟩, ⟨_, rfl, rfl⟩⟩ := al2 al
    rfl) hb fun d i hd hi => by
      subst hd
      obtain ⟨x, h1, h2⟩ := atI_lt (xs := [PyData.str a, .str b]) hi.1 (by show i < 2; omega)
      refine ⟨_, x, rfl, h1, ?_⟩
      rcases List.mem_cons.mp h2 with rfl | h2
      · exact ⟨a, rfl, ha⟩
      · rw [List.mem_singleton] at h2
        subst h2
        exact ⟨b, rfl, hb'⟩
/-! ### _law_simple -/
def sp__law_simple (T : Txt K mg) : Sp := fun vs' H Q _ => ∃ (r k : Addr) (S : List Addr) (vs : List V) (ds : List PyData), vs' = [.ref r, .ref k] ∧ Kn K S H r k vs ds ∧ ds ≠ [] ∧ ∀ v d H', Fr r H H' → cnP 0 d → Dp K (offS S H') v d → Q v H'
theorem ok__law_simple (T : Txt K mg) : FnOk P w K mg base CX0 2 T.a__law_simple T.d__law_simple ["_law_source_here", "_law_known"] (sp__law_simple T) := by
  have G__law_take : FnOk P w K mg base CX0 1 T.a__law_take T.d__law_take ["_law_source_here", "_law_many"] (sp__law_take T) := ok__law_take T
  refine T.F__law_simple.ok sc__law_simple (fun vs H Q E h => ?_) (fun cdv A outer s H vs Q E hr h => ?_)
  · obtain ⟨r, k, S, vs, ds, rfl, _⟩ := h
    rfl
  · obtain ⟨r, k, S, vs, ds, rfl, kn, hne, q⟩ := h
    refine ⟨(tSeq (tAsg (tOp (rIxL K) (tVar 1) (tCall (sp__law_take T) [] E0 (tCons (tVar 0) (tCons (tCB (gLenQ K) (tCons (tVar 1) tNil)) tNil)))) (gTup K 3 (gCons (gName 2) (gCons (gName 3) (gCons (gName 4) gNil)))))
  (tSeq (tIfS (tTest (tOp rEq (tVar 3) (tC (.str "number")))) (tRet (tTup (tCons (tOp (rIxL K) (tLst (tCons (tC (.str "above")) (tCons (tC (.str "below")) tNil))) (tCall (sp__law_take T) [] E0 (tCons (tVar 0) (tCons (tC (.int 2)) tNil)))) (tCons (tVar 2) (tCons (tOp (rI0 fun i j => .int (i - j)) (tOp (rI0 fun i j => .int (i + j)) (tOp (rIxT K) (tVar 4) (tC (.int 0))) (tCall (sp__law_take T) [] E0 (tCons (tVar 0) (tCons (tOp (rI0 fun i j => .int (i + j)) (tOp (rI0 fun i j => .int (i - j)) (tOp (rIxT K) (tVar 4) (tC (.int 1))) (tOp (rIxT K) (tVar 4) (tC (.int 0)))) (tC (.int 3))) tNil)))) (tC (.int 1))) tNil))))) tNext)
  (tRet (tTup (tCons (tDGet (tDisp [((tC (.str "one")), (tC (.str "is"))), ((tC (.str "some")), (tC (.str "has")))]) (tVar 3)) (tCons (tVar 2) (tCons (tOp (rIxL K) (tVar 4) (tCall (sp__law_take T) [] E0 (tCons (tVar 0) (tCons (tCB (gLenQ K) (tCons (tVar 4) tNil)) tNil)))) tNil))))))),
(pss_cons (ps_asg (pe_ix ix_list (pv 1) (pe_call (G__law_take.mono (by omega)) hr (by rfl) T.g__law_take T.F__law_take.kp T.b__law_take .nil pass0 (pa_cons (pv 0) (pa_cons (pe_callB call_len_seq (by rfl) T.z_len (by decide +kernel) (pa_cons (pv 1) pa_nil)) pa_nil))) (fun _ _ => rfl)) (pg_tup rfl (pgs_cons (pg_name (i := 2) sc__law_simple.nd rfl (.inl rfl)) (pgs_cons (pg_name (i := 3) sc__law_simple.nd rfl (.inl rfl)) (pgs_cons (pg_name (i := 4) sc__law_simple.nd rfl (.inl rfl)) pgs_nil)))))
  (pss_cons (ps_if (pt_cmpR op_eq (pv 3) pe_str (nomark _)) (pss_one (ps_ret (pe_tup (pa_cons (pe_ix ix_list (pe_lst (pa_cons pe_str (pa_cons pe_str pa_nil))) (pe_call (G__law_take.mono (by omega)) hr (by rfl) T.g__law_take T.F__law_take.kp T.b__law_take .nil pass0 (pa_cons (pv 0) (pa_cons pe_int pa_nil))) (fun _ _ => rfl)) (pa_cons (pv 2) (pa_cons (pe_op op_sub (pe_op op_add (pe_ix ix_tup (pv 4) pe_int (fun _ _ => rfl)) (pe_call (G__law_take.mono (by omega)) hr (by rfl) T.g__law_take T.F__law_take.kp T.b__law_take .nil pass0 (pa_cons (pv 0) (pa_cons (pe_op op_add (pe_op op_sub (pe_ix ix_tup (pv 4) pe_int (fun _ _ => rfl)) (pe_ix ix_tup (pv 4) pe_int (fun _ _ => rfl))) pe_int) pa_nil)))) pe_int) pa_nil)))))) pss_nil)
  (pss_one (ps_ret (pe_tup (pa_cons (pe_dget (hu_of hr) (pe_disp (pps_cons pe_str pe_str (pps_cons pe_str pe_str pps_nil)) (by rfl) (by rfl) (fun z => by cases z) (by decide)) (pv 3) (fun _ _ => rfl)) (pa_cons (pv 2) (pa_cons (pe_ix ix_list (pv 4) (pe_call (G__law_take.mono (by omega)) hr (by rfl) T.g__law_take T.F__law_take.kp T.b__law_take .nil pass0 (pa_cons (pv 0) (pa_cons (pe_callB call_len_seq (by rfl) T.z_len (by decide +kernel) (pa_cons (pv 4) pa_nil)) pa_nil))) (fun _ _ => rfl)) pa_nil)))))))), ?_⟩
    refine x_pickM (K := K) (P := knP) kn.drw (i := 0) rfl (j := 1) rfl (fun H1 i => kn.stay i) kn.dp hne (by have := kn.len; omega) (fun x hx => kn.kn x hx) H (Go.refl kn.I) _ fun v H1 g1 hv => ?_
    obtain ⟨d, ⟨n, hn, hd⟩, dp⟩ := hv
    rcases hd with ⟨ss, hs0, hsl, hs, hd⟩ | ⟨lo, hi, hlo, hhi, rfl⟩
    · have hk : ∃ kd : Str, (kd = "one" ∨ kd = "some") ∧ d = .tuple [.str n, .str kd, .list (ss.map .str)] := hd.elim (fun z => ⟨_, .inl rfl, z⟩) (fun z => ⟨_, .inr rfl, z⟩)
      obtain ⟨kd, hkd, rfl⟩ := hk
      obtain ⟨t, x, y, z, rfl, ht, hx, hy, hz⟩ := dp_t3 dp
      cases hx
      cases hy
      refine g_tup3 (st_mono (offS_same _ _) ht) ?_
      refine w_when (B := fun b => b = false) (xt_test (x_eqS (K := K) (A := fun s => s = kd) (B := fun s => s = "number") (x_vs rfl rfl) (x_s rfl) fun a b ha hb => by subst ha hb; rcases hkd with rfl | rfl <;> decide)) g1.inv (fun H2 _ z => by cases z) (fun H2 g2 _ => ?_)
      have hz2 := dp_up g2.same hz
      refine w_ret (D := Dt K (cnP 0)) (x_tu (ds_cons (x_pick2 (P := fun d => (kd = "one" ∧ d = .str "is") ∨ (kd = "some" ∧ d = .str "has")) (A := fun s => s = kd) (by decide) (fun _ => .str _) (fun _ => .str _) (x_vs rfl rfl) (fun a ha => by subst ha; rcases hkd with rfl | rfl; exact .inl ⟨rfl, .inl ⟨rfl, rfl⟩⟩; exact .inr ⟨rfl, .inr ⟨rfl, rfl⟩⟩)) (ds_cons (x_vs (A := fun s => s = n) rfl rfl) (ds_cons (x_pick (P := isS s30) kn.drw (i := 0) rfl (j := 4) rfl hz2 (by simpa using hs0) (by rw [List.length_map]; omega) (fun x hx => by obtain ⟨s, hs1, rfl⟩ := List.mem_map.mp hx; exact ⟨s, rfl, hs s hs1⟩)) ds_nil))) fun ds' al => ?_) g2.inv fun v H3 g3 hv => ?_
      · obtain ⟨a, b, c, rfl, ha, ⟨_, rfl, rfl⟩, ⟨o, rfl, ho⟩⟩ := al3 al
        rcases ha with ⟨_, rfl⟩ | ⟨_, rfl⟩
        · exact ⟨.is _ o, ⟨s30_ok hn, s30_ok ho⟩, Nat.le_refl _, rfl⟩
        · exact ⟨.has _ o, ⟨s30_ok hn, s30_ok ho⟩, Nat.le_refl _, rfl⟩
      · obtain ⟨d, hc, dp⟩ := hv
        exact q v d H3 (draw_fr ((g1.trans g2).trans g3)) hc dp
    · obtain ⟨t, x, y, z, rfl, ht, hx, hy, hz⟩ := dp_t3 dp
      cases hx
      cases hy
      refine g_tup3 (st_mono (offS_same _ _) ht) ?_
      refine w_when (B := fun b => b = true) (xt_test (x_eqS (K := K) (A := fun s => s = "number") (B := fun s => s = "number") (x_vs rfl rfl) (x_s rfl) fun a b ha hb => by subst ha hb; decide)) g1.inv (fun H2 g2 _ => ?_) (fun H2 _ z => by cases z)
      have hz2 := dp_up g2.same hz
      have ix0 : ∀ {H3}, Go kn.rg H2 H3 → EvX kn.rg (tOp (rIxT K) (tVar 4) (tC (.int 0))) [some (.ref r), some (.ref k), some (.str n), some (.str "number"), some z] H3 (Dt K (isI fun i => i = lo)) := fun {H3} g => x_ixT (A := fun d => d = .tuple [.int lo, .int hi]) (N := fun i => i = 0) (x_d rfl (dp_up g.same hz2) rfl) (x_i rfl) fun d i hd hi' => by subst hi'; exact ⟨_, _, hd, atI_nat (j := 0) rfl, _, rfl, rfl⟩
      have ix1 : ∀ {H3}, Go kn.rg H2 H3 → EvX kn.rg (tOp (rIxT K) (tVar 4) (tC (.int 1))) [some (.ref r), some (.ref k), some (.str n), some (.str "number"), some z] H3 (Dt K (isI fun i => i = hi)) := fun {H3} g => x_ixT (A := fun d => d = .tuple [.int lo, .int hi]) (N := fun i => i = 1) (x_d rfl (dp_up g.same hz2) rfl) (x_i rfl) fun d i hd hi' => by subst hi'; exact ⟨_, _, hd, atI_nat (j := 1) rfl, _, rfl, rfl⟩
      have g22 := Go.refl g2.inv
      refine w_ret (D := Dt K (cnP 0)) (x_tu (ds_cons (x_two (A := fun s => s = "above" ∨ s = "below") (x_draw (N := fun n => n = 2) kn.drw (i := 0) rfl (x_i rfl) (fun n hn => by omega) (fun n k hn h0 h1 => ⟨h0, by omega⟩)) (.inl rfl) (.inr rfl)) (ds_cons (x_vs (A := fun s => s = n) rfl rfl) (ds_cons (x_I0 (P := isI fun _ => True) (A := fun _ => True) (B := fun _ => True) (x_I0 (A := fun i => i = lo) (B := fun _ => True) (ix0 g22) (x_draw (N := fun n => 0 < n ∧ n < 2000000000000) kn.drw (i := 0) rfl (x_I0 (A := fun i => i = hi - lo) (B := fun i => i = 3) (x_I0 (A := fun i => i = hi) (B := fun i => i = lo) (ix1 g22) (ix0 g22) fun a b ha hb => ⟨_, rfl, by omega⟩) (x_i rfl) fun a b ha hb => ⟨_, rfl, by omega, by omega⟩) (fun n hn => by omega) (fun _ _ _ _ _ => trivial)) fun a b _ _ => ⟨_, rfl, trivial⟩) (x_i trivial) fun a b _ _ => ⟨_, rfl, trivial⟩) ds_nil))) fun ds' al => ?_) g2.inv fun v H3 g3 hv => ?_
      · obtain ⟨a, b, c, rfl, ⟨_, rfl, ha⟩, ⟨_, rfl, rfl⟩, ⟨o, rfl, _⟩⟩ := al3 al
        rcases ha with rfl | rfl
        · exact ⟨.abv _ o, s30_ok hn, Nat.le_refl _, rfl⟩
        · exact ⟨.blw _ o, s30_ok hn, Nat.le_refl _, rfl⟩
      · obtain ⟨d, hc, dp⟩ := hv
        exact q v d H3 (draw_fr ((g1.trans g2).trans g3)) hc dp
/-! ### _law_condition -/
def sp__law_condition (T : Txt K mg) (m : Nat) : Sp := fun vs' H Q _ => ∃ (r k : Addr) (S : List Addr) (vs : List V) (ds : List PyData), vs' = [.ref r, .ref k, .int (m : Int)] ∧ Kn K S H r k vs ds ∧ ds ≠ [] ∧ ∀ v d H', Fr r H H' → cnP m d → Dp K (offS S H') v d → Q v H'
theorem cond_body (T : Txt K mg) (sp' : Sp) (j m : Nat) (G__law_condition : FnOk P w K mg base CX0 (j + 2) T.a__law_condition T.d__law_condition ["_law_source_here", "_law_known", "_law_deep"] sp')
    (hc : ∀ m', m = m' + 1 → ∀ vs H Q E, sp__law_condition T m' vs H Q E → sp' vs H Q E) : FnOk P w K mg base CX0 (j + 3) T.a__law_condition T.d__law_condition ["_law_source_here", "_law_known", "_law_deep"] (sp__law_condition T m) := by
  have G__law_take : FnOk P w K mg base CX0 1 T.a__law_take T.d__law_take ["_law_source_here", "_law_many"] (sp__law_take T) := ok__law_take T
  have G__law_simple : FnOk P w K mg base CX0 2 T.a__law_simple T.d__law_simple ["_law_source_here", "_law_known"] (sp__law_simple T) := ok__law_simple T
  refine T.F__law_condition.ok sc__law_condition (fun vs H Q E h => ?_) (fun cdv A outer s H vs Q E hr h => ?_)
  · obtain ⟨r, k, S, vs, ds, rfl, _⟩ := h
    rfl
  · obtain ⟨r, k, S, vs, ds, rfl, kn, hne, q⟩ := h
    refine ⟨(tSeq (tAsg (tCall (sp__law_take T) [] E0 (tCons (tVar 0) (tCons (tC (.int 7)) tNil))) (gName 3))
  (tSeq (tIfS (tOr (tTest (tOp rEq (tVar 2) (tC (.int 0)))) (tTest (tOp (rI0 fun i j => .bl (decide (i < j))) (tVar 3) (tC (.int 3))))) (tRet (tCall (sp__law_simple T) [] E0 (tCons (tVar 0) (tCons (tVar 1) tNil)))) tNext)
  (tSeq (tIfS (tTest (tOp rEq (tVar 3) (tC (.int 3)))) (tRet (tTup (tCons (tC (.str "not")) (tCons (tCall sp' [] E0 (tCons (tVar 0) (tCons (tVar 1) (tCons (tOp (rI0 fun i j => .int (i - j)) (tVar 2) (tC (.int 1))) tNil)))) tNil)))) tNext)
  (tSeq (tAsg (tCall sp' [] E0 (tCons (tVar 0) (tCons (tVar 1) (tCons (tOp (rI0 fun i j => .int (i - j)) (tVar 2) (tC (.int 1))) tNil)))) (gName 4))
  (tRet (tTup (tCons (tOp (rIxL K) (tLst (tCons (tC (.str "both")) (tCons (tC (.str "either")) tNil))) (tOp (rI (fun _ j => 0 < j) fun i j => .int (i % j)) (tVar 3) (tC (.int 2)))) (tCons (tVar 4) (tCons (tCall sp' [] E0 (tCons (tVar 0) (tCons (tVar 1) (tCons (tOp (rI0 fun i j => .int (i - j)) (tVar 2) (tC (.int 1))) tNil)))) tNil))))))))),
(pss_cons (ps_set (i := 3) sc__law_condition.nd rfl (.inl rfl) (pe_call (G__law_take.mono (by omega)) hr (by rfl) T.g__law_take T.F__law_take.kp T.b__law_take .nil pass0 (pa_cons (pv 0) (pa_cons pe_int pa_nil))))
  (pss_cons (ps_if (PW.pt (pw_or (pt_cmpR op_eq (pv 2) pe_int (nomark _)) (pw_or1 (pt_cmpR op_lt (pv 3) pe_int (nomark _))))) (pss_one (ps_ret (pe_call (G__law_simple.mono (by omega)) hr (by rfl) T.g__law_simple T.F__law_simple.kp T.b__law_simple .nil pass0 (pa_cons (pv 0) (pa_cons (pv 1) pa_nil))))) pss_nil)
  (pss_cons (ps_if (pt_cmpR op_eq (pv 3) pe_int (nomark _)) (pss_one (ps_ret (pe_tup (pa_cons pe_str (pa_cons (pe_call (G__law_condition.mono (by omega)) hr (by rfl) T.g__law_condition T.F__law_condition.kp T.b__law_condition .nil pass0 (pa_cons (pv 0) (pa_cons (pv 1) (pa_cons (pe_op op_sub (pv 2) pe_int) pa_nil)))) pa_nil))))) pss_nil)
  (pss_cons (ps_set (i := 4) sc__law_condition.nd rfl (.inl rfl) (pe_call (G__law_condition.mono (by omega)) hr (by rfl) T.g__law_condition T.F__law_condition.kp T.b__law_condition .nil pass0 (pa_cons (pv 0) (pa_cons (pv 1) (pa_cons (pe_op op_sub (pv 2) pe_int) pa_nil)))))
  (pss_one (ps_ret (pe_tup (pa_cons (pe_ix ix_list (pe_lst (pa_cons pe_str (pa_cons pe_str pa_nil))) (pe_op op_mod (pv 3) pe_int) (fun _ _ => rfl)) (pa_cons (pv 4) (pa_cons (pe_call (G__law_condition.mono (by omega)) hr (by rfl) T.g__law_condition T.F__law_condition.kp T.b__law_condition .nil pass0 (pa_cons (pv 0) (pa_cons (pv 1) (pa_cons (pe_op op_sub (pv 2) pe_int) pa_nil)))) pa_nil)))))))))), ?_⟩
    refine w_asg (D := Dt K (isI fun k => 0 ≤ k ∧ k < 7)) (x_draw (N := fun n => n = 7) kn.drw (i := 0) rfl (x_i rfl) (fun n hn => by omega) (fun n k hn h0 h1 => ⟨h0, by omega⟩)) kn.I fun v H1 g1 hv => ?_
    obtain ⟨way, rfl, hway⟩ := dp_int_of hv
    -- a call for less deep conditions
    have deep : ∀ m', m = m' + 1 → ∀ {H2 : Hp} {y : Option V}, Go kn.rg H H2 → EvX kn.rg (tCall sp' [] E0 (tCons (tVar 0) (tCons (tVar 1) (tCons (tOp (rI0 fun i j => .int (i - j)) (tVar 2) (tC (.int 1))) tNil)))) [some (.ref r), some (.ref k), some (.int (m : Int)), some (.int way), y] H2 (Dt K (cnP m')) := fun m' em {H2 y} g2 H3 g3 Q' q' => by
      refine ⟨.ref r, rfl, .ref k, rfl, .int (m : Int), rfl, (m : Int), 1, rfl, rfl, ?_⟩
      refine hc m' em _ _ _ _ ⟨r, k, S, vs, ds, ?_, kn.go (g2.trans g3), hne, fun v d H' f hd dp => q' v H' (kn.drw.go g3.inv f) ⟨d, hd, dp⟩⟩
      subst em
      show [V.ref r, V.ref k, V.int (((m' + 1 : Nat) : Int) - 1)] = _
      rw [show (((m' + 1 : Nat) : Int) - 1) = (m' : Int) by omega]
    refine w_when (B := fun b => b = (decide (m = 0) || decide (way < 3))) (xt_or (A := fun b => b = decide (m = 0)) (B := fun b => b = decide (way < 3)) (xt_test (x_eqI (K := K) (A := fun i => i = (m : Int)) (B := fun i => i = 0) (x_vi rfl rfl) (x_i rfl) fun a b ha hb => by subst ha hb; rw [Bool.eq_iff_iff, decide_eq_true_iff, decide_eq_true_iff]; omega)) (fun _ => xt_test (x_cmpI (K := K) (p := fun i j => decide (i < j)) (A := fun i => i = way) (B := fun i => i = 3) (x_vi rfl rfl) (x_i rfl) fun a b ha hb => by subst ha hb; rfl)) (fun h => by rw [← h]; rfl) (fun b h hb => by rw [← h, hb]; rfl)) g1.inv (fun H2 g2 _ => ?_) (fun H2 g2 hb => ?_)
    · refine w_ret (D := Dt K (cnP m)) (fun H3 g3 Q' q' => ⟨.ref r, rfl, .ref k, rfl, r, k, S, vs, ds, rfl, kn.go ((g1.trans g2).trans g3), hne, fun v d H' f ⟨c, h1, h2, h3⟩ dp => q' v H' (kn.drw.go g3.inv f) ⟨d, ⟨c, h1, Nat.le_trans h2 (Nat.zero_le _), h3⟩, dp⟩⟩) g2.inv fun v H3 g3 hv => ?_
      obtain ⟨d, hc', dp⟩ := hv
      exact q v d H3 (draw_fr ((g1.trans g2).trans g3)) hc' dp
    · have hm : m ≠ 0 := fun z => by rw [z] at hb; simp at hb
      obtain ⟨m', rfl⟩ := Nat.exists_eq_succ_of_ne_zero hm
      have g02 := g1.trans g2
      refine w_when (B := fun b => b = decide (way = 3)) (xt_test (x_eqI (K := K) (A := fun i => i = way) (B := fun i => i = 3) (x_vi rfl rfl) (x_i rfl) fun a b ha h3 => by rw [ha, h3])) g2.inv (fun H3 g3 _ => ?_) (fun H3 g3 _ => ?_)
      · refine w_ret (D := Dt K (cnP (m' + 1))) (x_tu (ds_cons (x_s (A := fun s => s = "not") rfl) (ds_cons (deep m' rfl (g02.trans g3)) ds_nil)) fun ds' al => ?_) g3.inv fun v H4 g4 hv => ?_
        · obtain ⟨a, b, rfl, ⟨_, rfl, rfl⟩, ⟨c, h1, h2, rfl⟩⟩ := al2 al
          exact ⟨.not c, h1, by show c.dep + 1 ≤ _; omega, rfl⟩
        · obtain ⟨d, hc', dp⟩ := hv
          exact q v d H4 (draw_fr ((g02.trans g3).trans g4)) hc' dp
      · refine w_asg (D := Dt K (cnP m')) (deep m' rfl (g02.trans g3)) g3.inv fun v H4 g4 hv => ?_
        obtain ⟨d1, ⟨c1, h11, h12, rfl⟩, dp1⟩ := hv
        have g04 := (g02.trans g3).trans g4
        refine w_ret (D := Dt K (cnP (m' + 1))) (x_tu (ds_cons (x_two (A := fun s => s = "both" ∨ s = "either") (x_IC (A := fun _ => True) (B := fun j => j = 2) (x_vi rfl trivial) (x_i rfl) fun a b _ hb => by subst hb; exact ⟨by decide, _, rfl, Int.emod_nonneg _ (by decide), Int.emod_lt_of_pos _ (by decide)⟩) (.inl rfl) (.inr rfl)) (ds_cons (x_d (P := fun d => d = c1.py) (i := 4) rfl dp1 rfl) (ds_cons (deep m' rfl g04) ds_nil))) fun ds' al => ?_) g4.inv fun v H5 g5 hv => ?_
        · obtain ⟨a, b, c, rfl, ⟨_, rfl, ha⟩, rfl, ⟨c2, h21, h22, rfl⟩⟩ := al3 al
          rcases ha with rfl | rfl
          · exact ⟨.both c1 c2, ⟨h11, h21⟩, by show max c1.dep c2.dep + 1 ≤ _; omega, rfl⟩
          · exact ⟨.either c1 c2, ⟨h11, h21⟩, by show max c1.dep c2.dep + 1 ≤ _; omega, rfl⟩
        · obtain ⟨d, hc', dp⟩ := hv
          exact q v d H5 (draw_fr (g04.trans g5)) hc' dp
theorem ok__law_condition (T : Txt K mg) : ∀ m, FnOk P w K mg base CX0 (m + 3) T.a__law_condition T.d__law_condition ["_law_source_here", "_law_known", "_law_deep"] (sp__law_condition T m)
  | 0 => cond_body T (fun _ _ _ _ => False) 0 0 (ok_none fun _ _ _ _ h => h) fun m' e => by omega
  | m + 1 => cond_body T (sp__law_condition T m) (m + 1) (m + 1) (ok__law_condition T m) fun m' e vs H Q E h => by
    have : m' = m := by omega
    subst this
    exact h
/-! ### _law_perhaps -/
def ocP' (d : PyData) : Prop := d = .none ∨ cnP 2 d
def sp__law_perhaps (T : Txt K mg) : Sp := fun vs' H Q _ => ∃ (r k : Addr) (S : List Addr) (vs : List V) (ds : List PyData), vs' = [.ref r, .ref k] ∧ Kn K S H r k vs ds ∧ ∀ v d H', Fr r H H' → ocP' d → Dp K (offS S H') v d → Q v H'
theorem eqv_nil (ds : List PyData) : PyData.eqv (.list ds) (.list []) = ds.isEmpty := by
  cases ds <;> simp [PyData.eqv, PyData.eqvAll]
theorem strs_lay : ∀ {ss : List Str}, (∀ s ∈ ss, PyData.strOk s = true) → PyData.canLayAll0 (ss.map .str) = true ∧ PyData.depthAll (ss.map .str) = 0
  | [], _ => by simp [PyData.canLayAll0, PyData.depthAll]
  | a :: r, h => by
    have h1 := h a List.mem_cons_self
    have h2 := strs_lay fun s hs => h s (List.mem_cons_of_mem _ hs)
    simp [PyData.canLayAll0, PyData.depthAll, PyData.canLay0, PyData.depth, h1, h2]
theorem kn_lay {d : PyData} (h : knP d) : d.canLay0 = true ∧ d.depth ≤ 2 := by
  obtain ⟨n, hn, h⟩ := h
  have o1 : PyData.strOk "one" = true := by decide +kernel
  have o2 : PyData.strOk "some" = true := by decide +kernel
  have o3 : PyData.strOk "number" = true := by decide +kernel
  rcases h with ⟨ss, _, _, hs, h⟩ | ⟨lo, hi, _, _, h⟩
  · have ls := strs_lay fun s h => (hs s h).2
    rcases h with h | h <;> subst h <;> simp [PyData.canLay0, PyData.canLayAll0, PyData.depth, PyData.depthAll, ls, hn.2, o1, o2]
  · subst h
    simp [PyData.canLay0, PyData.canLayAll0, PyData.depth, PyData.depthAll, hn.2, o3]
theorem kns_shaped : ∀ {ds : List PyData}, (∀ d ∈ ds, knP d) → PyData.canLayAll0 ds = true ∧ PyData.depthAll ds ≤ 2
  | [], _ => by simp [PyData.canLayAll0, PyData.depthAll]
  | d :: ds, h => by
    have h1 := kn_lay (h d List.mem_cons_self)
    have h2 := kns_shaped fun x hx => h x (List.mem_cons_of_mem _ hx)
    simp only [PyData.canLayAll0, PyData.depthAll, h1.1, h2.1, Bool.and_self, true_and]
    omega
theorem kns_shp {ds : List PyData} (h : ∀ d ∈ ds, knP d) : SeqAt.shaped (.list ds) = true := shp (by simp only [PyData.canLay0]; exact (kns_shaped h).1) (by have := (kns_shaped h).2; simp only [PyData.depth]; omega)
theorem shp_nil : SeqAt.shaped (.list []) = true := by decide +kernel
/-- known == [] -/
theorem xt_knil {S : List Addr} {H H1 : Hp} {r k : Addr} {vs : List V} {ds : List PyData} (kn : Kn K S H r k vs ds) {σ : L2.St} {j : Nat} (hj : σ[j]? = some (some (.ref k))) (g1 : Go kn.rg H H1) : EvXT kn.rg (tTest (tOp (rEqD K) (tVar j) (tLst tNil))) σ H1 (fun b => b = ds.isEmpty) := fun H2 g2 Q q =>
  ⟨.ref k, hj, by show 0 ≤ sizeLine; decide, fun p np => by
    have g3 : Go kn.rg H2 (upd H2 p (.lst [])) := Go.new g2.inv np
    refine ⟨.list ds, .list [], .lst (SqL.of (kn.stay g3.inv)) (dpAll_up (Same.trans (g1.trans (g2.trans g3)).same (offS_same _ _)) kn.dp), .lst (SqL.of upd_same) .nil, kns_shp kn.kn, shp_nil, _, rfl, q _ _ g3 (eqv_nil ds)⟩⟩
theorem ok__law_perhaps (T : Txt K mg) : FnOk P w K mg base CX0 6 T.a__law_perhaps T.d__law_perhaps ["_law_source_here", "_law_known"] (sp__law_perhaps T) := by
  have G__law_take : FnOk P w K mg base CX0 1 T.a__law_take T.d__law_take ["_law_source_here", "_law_many"] (sp__law_take T) := ok__law_take T
  have G__law_condition : FnOk P w K mg base CX0 5 T.a__law_condition T.d__law_condition ["_law_source_here", "_law_known", "_law_deep"] (sp__law_condition T 2) := ok__law_condition T 2
  refine T.F__law_perhaps.ok sc__law_perhaps (fun vs H Q E h => ?_) (fun cdv A outer s H vs Q E hr h => ?_)
  · obtain ⟨r, k, S, vs, ds, rfl, _⟩ := h
    rfl
  · obtain ⟨r, k, S, vs, ds, rfl, kn, q⟩ := h
    refine ⟨(tSeq (tIfS (tOr (tTest (tOp (rEqD K) (tVar 1) (tLst tNil))) (tTest (tOp (rI0 fun i j => .bl (decide (j < i))) (tCall (sp__law_take T) [] E0 (tCons (tVar 0) (tCons (tC (.int 3)) tNil))) (tC (.int 0))))) (tRet (tC .non)) tNext)
  (tRet (tCall (sp__law_condition T 2) [] E0 (tCons (tVar 0) (tCons (tVar 1) (tCons (tC (.int 2)) tNil)))))),
(pss_cons (ps_if (PW.pt (pw_or (pt_cmpR (op_eqD hr.units) (pv 1) (pe_lst pa_nil) (nomark _)) (pw_or1 (pt_cmpR op_gt (pe_call (G__law_take.mono (by omega)) hr (by rfl) T.g__law_take T.F__law_take.kp T.b__law_take .nil pass0 (pa_cons (pv 0) (pa_cons pe_int pa_nil))) pe_int (nomark _))))) (pss_one (ps_ret pe_non)) pss_nil)
  (pss_one (ps_ret (pe_call (G__law_condition.mono (by omega)) hr (by rfl) T.g__law_condition T.F__law_condition.kp T.b__law_condition .nil pass0 (pa_cons (pv 0) (pa_cons (pv 1) (pa_cons pe_int pa_nil))))))), ?_⟩
    refine w_when (B := fun b => b = false → ds ≠ []) (xt_or (A := fun b => b = ds.isEmpty) (B := fun _ => True) (xt_knil kn rfl (Go.refl kn.I)) (fun _ => xt_test (x_cmpI (K := K) (p := fun i j => decide (j < i)) (A := fun _ => True) (B := fun _ => True) (x_draw (N := fun n => n = 3) kn.drw (i := 0) rfl (x_i rfl) (fun n hn => by omega) (fun _ _ _ _ _ => trivial)) (x_i trivial) fun _ _ _ _ => trivial)) (fun _ z => by cases z) (fun b h _ _ z => by subst z; cases h)) kn.I (fun H1 g1 _ => ?_) (fun H1 g1 hb => ?_)
    · exact s_ret ev_c fun H2 e2 => q _ .none H2 (draw_fr (g1.trans (Go.of g1.inv e2))) (.inl rfl) .non
    · refine w_ret (D := Dt K (cnP 2)) (fun H3 g3 Q' q' => ⟨.ref r, rfl, .ref k, rfl, r, k, S, vs, ds, rfl, kn.go (g1.trans g3), hb rfl, fun v d H' f hd dp => q' v H' (kn.drw.go g3.inv f) ⟨d, hd, dp⟩⟩) g1.inv fun v H3 g3 hv => ?_
      obtain ⟨d, hc', dp⟩ := hv
      exact q v d H3 (draw_fr (g1.trans g3)) (.inr hc') dp
end SF
namespace SF
open PySem PySem.Spec PyProof.Rows L2 GK Evl LamX
variable {P : Program} {w : World} {K : PySem.W.Frag} {mg : Str → Option Value} {base : Heap}
/-! ### what is written to: W, of the region S -/
structure Eff (S W : List Addr) (H H' : Hp) : Prop where
  same : Same (offS S H) (offS S H')
  oth : ∀ a ∈ S, a ∉ W → H' a = H a
theorem Eff.refl {S W : List Addr} {H : Hp} : Eff S W H H := ⟨Same.refl _, fun _ _ _ => rfl⟩
theorem Eff.trans {S W : List Addr} {H H1 H2 : Hp} (a : Eff S W H H1) (b : Eff S W H1 H2) : Eff S W H H2 := ⟨Same.trans a.same b.same, fun x hx hw => (b.oth x hx hw).trans (a.oth x hx hw)⟩
theorem Eff.wider {S W W' : List Addr} {H H1 : Hp} (a : Eff S W H H1) (h : ∀ x ∈ W, x ∈ W') : Eff S W' H H1 := ⟨a.same, fun x hx hw => a.oth x hx fun z => hw (h x z)⟩
theorem Eff.fr {S W : List Addr} {H H1 : Hp} {r : Addr} (hr : r ∈ S) (hw : r ∈ W) (dm : ∀ a ∈ S, ∃ o, H a = some o) (f : Fr r H H1) : Eff S W H H1 := ⟨offS_of_off hr f.same, fun a ha n => by
  obtain ⟨o, ho⟩ := dm a ha
  rw [ho, (off_some.mp (f.same a o (off_some.mpr ⟨fun z => n (z ▸ hw), ho⟩))).2]⟩
theorem Eff.up {S W : List Addr} {H H1 : Hp} (dm : ∀ a ∈ S, ∃ o, H a = some o) (e : Same H H1) : Eff S W H H1 := ⟨offS_mono e, fun a ha _ => by
  obtain ⟨o, ho⟩ := dm a ha
  rw [ho, e _ _ ho]⟩
theorem Eff.put {S W : List Addr} {H : Hp} {k : Addr} {o : HO} (hk : k ∈ S) (hw : k ∈ W) : Eff S W H (upd H k o) := ⟨by rw [offS_upd hk]; exact Same.refl _, fun a ha n => upd_ne fun z => n (z ▸ hw)⟩
theorem kn_app {S : List Addr} {H : Hp} {r k : Addr} {vs : List V} {ds : List PyData} {v : V} {d : PyData} (h : Kn K S H r k vs ds) (hd : Dp K (offS S H) v d) (hk : knP d) (hz : ds.length < 1000) : Kn K S (upd H k (.lst (vs ++ [v]))) r k (vs ++ [v]) (ds ++ [d]) := by
  refine ⟨h.mr, h.mk_, h.ne, fun a ha => ?_, ?_, upd_same, ?_, fun x hx => ?_, by rw [List.length_append]; simp; omega⟩
  · by_cases e : a = k
    · exact ⟨_, by rw [e]; exact upd_same⟩
    · obtain ⟨o, ho⟩ := h.dm a ha
      exact ⟨o, by rw [upd_ne e]; exact ho⟩
  · obtain ⟨x, b, c, z⟩ := h.rng
    exact ⟨x, b, c, by rw [upd_ne (Ne.symm h.ne)]; exact z⟩
  · rw [offS_upd h.mk_]
    exact dpAll_append h.dp (.cons hd .nil)
  · rcases List.mem_append.mp hx with z | z
    · exact h.kn x z
    · rw [List.mem_singleton.mp z]; exact hk
/-- several names, drawn -/
def nmP (d : PyData) : Prop := ∃ ss : List Str, ss ≠ [] ∧ ss.length ≤ 100 ∧ (∀ s ∈ ss, s30 s) ∧ d = .list (ss.map .str)
theorem dp_strs {H : Hp} : ∀ ss : List Str, DpAll K H (ss.map V.str) (ss.map .str)
  | [] => .nil
  | s :: ss => .cons (.str s) (dp_strs ss)
theorem x_names (T : Txt K mg) {R : Rg} {σ : L2.St} {H : Hp} {r : Addr} {tb : TE} {N : Int → Prop} {i : Nat} (dr : Drw R r) (hi : σ[i]? = some (some (.ref r))) (hb : EvX R tb σ H (Dt K (isI N))) (hN : ∀ n, N n → 1 ≤ n ∧ n ≤ 100) : EvX R (tCall (sp__law_names T) [] E0 (tCons (tVar i) (tCons tb tNil))) σ H (Dt K nmP) := fun H1 g Q q =>
  ⟨.ref r, hi, hb H1 g _ fun v H2 g2 hv => by
    obtain ⟨n, rfl, hn⟩ := dp_int_of hv
    obtain ⟨h1, h2⟩ := hN n hn
    obtain ⟨m, rfl⟩ := Int.eq_ofNat_of_zero_le (show 0 ≤ n by omega)
    refine ⟨r, m, rfl, dr.rng g2.inv, by omega, fun a ss H' f na ha hl hs => ?_⟩
    have g3 := dr.go g2.inv f
    refine q _ H' (g2.trans g3) ⟨_, ⟨ss, fun z => by subst z; simp at hl; omega, by omega, hs, rfl⟩, .lst (SqL.of (offS_some.mpr ⟨R.fresh g2.inv na, ha⟩)) (dp_strs ss)⟩⟩
/-- one of some numbers, drawn -/
theorem x_menu {R : Rg} {σ : L2.St} {H : Hp} {tb : TE} {ta : TA} {Ps : List (PyData → Prop)} {A : PyData → Prop} {n : Nat} (ha : EvDs K R ta σ H Ps) (hn : Ps.length = n) (hA : ∀ ds, Al Ps ds → ∀ d ∈ ds, A d) (hb : EvX R tb σ H (Dt K (isI fun k => 0 ≤ k ∧ k < (n : Int)))) (hz : n ≤ 1000 := by decide) : EvX R (tOp (rIxL K) (tLst ta) tb) σ H (Dt K A) :=
  x_ixL (A := fun d => ∃ ds, d = .list ds ∧ ds.length = n ∧ ∀ x ∈ ds, A x) (x_lst ha (fun ds al => ⟨ds, rfl, by rw [al_len al, hn], hA ds al⟩) (by omega)) hb fun d i ⟨ds, hd, hl, hx⟩ hi => by
    obtain ⟨x, h1, h2⟩ := atI_lt (xs := ds) hi.1 (by omega)
    exact ⟨ds, x, hd, h1, hx x h2⟩
theorem al_mem {A : PyData → Prop} : ∀ {Ps : List (PyData → Prop)} {ds : List PyData}, Al Ps ds → (∀ P ∈ Ps, ∀ d, P d → A d) → ∀ d ∈ ds, A d
  | _, _, .nil, _, d, h => by cases h
  | _, _, .cons hp t, f, d, h => by
    rcases List.mem_cons.mp h with e | e
    · subst e; exact f _ List.mem_cons_self _ hp
    · exact al_mem t (fun P hP => f P (List.mem_cons_of_mem _ hP)) d e
/-! ### _law_question -/
theorem al4 {P1 P2 P3 P4 : PyData → Prop} {ds : List PyData} (h : Al [P1, P2, P3, P4] ds) : ∃ a b c d, ds = [a, b, c, d] ∧ P1 a ∧ P2 b ∧ P3 c ∧ P4 d := by
  cases h with
  | cons h1 t => cases t with
    | cons h2 t => cases t with
      | cons h3 t => cases t with
        | cons h4 t => cases t; exact ⟨_, _, _, _, rfl, h1, h2, h3, h4⟩
theorem al5 {P1 P2 P3 P4 P5 : PyData → Prop} {ds : List PyData} (h : Al [P1, P2, P3, P4, P5] ds) : ∃ a b c d e, ds = [a, b, c, d, e] ∧ P1 a ∧ P2 b ∧ P3 c ∧ P4 d ∧ P5 e := by
  cases h with
  | cons h1 t => cases t with
    | cons h2 t => cases t with
      | cons h3 t => cases t with
        | cons h4 t => cases t with
          | cons h5 t => cases t; exact ⟨_, _, _, _, _, rfl, h1, h2, h3, h4, h5⟩
mutual
def Rw.wid : Rw → Nat
  | .one _ os _ => os.length
  | .som _ os _ => os.length
  | .sec rows _ => wids rows
  | .rnd _ rows _ => wids rows
  | _ => 0
def wids : List Rw → Nat
  | [] => 0
  | r :: rs => max r.wid (wids rs)
end
theorem wids_le {n : Nat} : ∀ {rows : List Rw}, wids rows ≤ n ↔ ∀ r ∈ rows, r.wid ≤ n
  | [] => by simp [wids]
  | r :: rs => by simp only [wids, List.mem_cons, forall_eq_or_imp, ← wids_le (rows := rs)]; omega
/-- a row that is fine: its sizes -/
def cb : Nat → Nat
  | 0 => 1
  | d + 1 => 1 + 3 * cb d
theorem cb_mono {a b : Nat} (h : a ≤ b) : cb a ≤ cb b := by
  induction h with
  | refl => exact Nat.le_refl _
  | step _ ih => simp only [cb]; omega
structure fineR (D : Nat) (rw : Rw) : Prop where
  ok : rw.ok
  dep : rw.dep ≤ D
  cnt : rw.cnt ≤ cb D
  wid : rw.wid ≤ 100
theorem fineR.mono {D D' : Nat} {rw : Rw} (h : fineR D rw) (le : D ≤ D') : fineR D' rw := ⟨h.ok, Nat.le_trans h.dep le, Nat.le_trans h.cnt (cb_mono le), h.wid⟩
theorem oc_of {d : PyData} (h : ocP' d) : ∃ c : Option Cnd, ocOk c ∧ d = ocP c := by
  rcases h with rfl | ⟨c, h1, h2, rfl⟩
  · exact ⟨none, trivial, rfl⟩
  · exact ⟨some c, ⟨h1, Nat.le_trans h2 (by decide)⟩, rfl⟩
def sp__law_question (T : Txt K mg) : Sp := fun vs' H Q _ => ∃ (r k : Addr) (S : List Addr) (vs : List V) (ds : List PyData) (n : Str), vs' = [.ref r, .str n, .ref k] ∧ Kn K S H r k vs ds ∧ s30 n ∧ ds.length < 1000 ∧
  ∀ v rw H' x dx, Eff S [r, k] H H' → Kn K S H' r k (vs ++ [x]) (ds ++ [dx]) → fineR 0 rw → Dp K (offS S H') v rw.py → Q v H'
theorem w_known {S : List Addr} {H H1 : Hp} {r k : Addr} {vs : List V} {ds : List PyData} (kn : Kn K S H r k vs ds) {σ : L2.St} {i : Nat} {te : TE} {tz : TS} {E : Ends} (g1 : Go kn.rg H H1) (hi : σ[i]? = some (some (.ref k))) (he : EvX kn.rg te σ H1 (Dt K knP)) (hz : ds.length < 1000)
    (q : ∀ v d H2, Eff S [r, k] H H2 → Kn K S H2 r k (vs ++ [v]) (ds ++ [d]) → Same (offS S H1) (offS S H2) → tz E σ H2) : tSeq (tDrop (tBM K "list" rAppend (tVar i) (tCons te tNil))) tz E σ H1 :=
  ⟨.ref k, hi, .inl ⟨rfl, vs, SqL.of (kn.stay g1.inv)⟩, he H1 (Go.refl g1.inv) _ fun v H2 g2 ⟨d, hd, dp⟩ => by
    have kn2 := kn.go (g1.trans g2)
    refine ⟨k, vs, v, rfl, rfl, kn2.at_, ?_, q v d _ ((Eff.fr kn.mr (by simp) kn.dm (draw_fr (g1.trans g2))).trans (Eff.put kn.mk_ (by simp))) (kn_app kn2 dp hd hz) ?_⟩
    · have := dpAll_len kn2.dp
      exact Nat.lt_of_le_of_lt (by omega : vs.length ≤ 1000) (by decide)
    · rw [offS_upd kn.mk_]
      exact g2.same⟩
theorem ok__law_question (T : Txt K mg) : FnOk P w K mg base CX0 7 T.a__law_question T.d__law_question ["_law_source_here", "_law_name", "_law_known"] (sp__law_question T) := by
  have G__law_take : FnOk P w K mg base CX0 1 T.a__law_take T.d__law_take ["_law_source_here", "_law_many"] (sp__law_take T) := ok__law_take T
  have G__law_names : FnOk P w K mg base CX0 2 T.a__law_names T.d__law_names ["_law_source_here", "_law_many"] (sp__law_names T) := ok__law_names T
  have G__law_perhaps : FnOk P w K mg base CX0 6 T.a__law_perhaps T.d__law_perhaps ["_law_source_here", "_law_known"] (sp__law_perhaps T) := ok__law_perhaps T
  refine T.F__law_question.ok sc__law_question (fun vs H Q E h => ?_) (fun cdv A outer s H vs Q E hr h => ?_)
  · obtain ⟨r, k, S, vs, ds, n, rfl, _⟩ := h
    rfl
  · obtain ⟨r, k, S, vs, ds, n, rfl, kn, hn, hz, q⟩ := h
    refine ⟨(tSeq (tAsg (tCall (sp__law_perhaps T) [] E0 (tCons (tVar 0) (tCons (tVar 2) tNil))) (gName 3))
  (tSeq (tAsg (tCall (sp__law_take T) [] E0 (tCons (tVar 0) (tCons (tC (.int 6)) tNil))) (gName 4))
  (tSeq (tIfS (tTest (tOp (rI0 fun i j => .bl (decide (i < j))) (tVar 4) (tC (.int 3)))) (tSeq (tAsg (tCall (sp__law_names T) [] E0 (tCons (tVar 0) (tCons (tOp (rIxL K) (tLst (tCons (tC (.int 2)) (tCons (tC (.int 2)) (tCons (tC (.int 3)) (tCons (tC (.int 1)) (tCons (tC (.int 6)) (tCons (tC (.int 4)) tNil))))))) (tCall (sp__law_take T) [] E0 (tCons (tVar 0) (tCons (tC (.int 6)) tNil)))) tNil))) (gName 5))
  (tSeq (tDrop (tBM K "list" rAppend (tVar 2) (tCons (tTup (tCons (tVar 1) (tCons (tC (.str "one")) (tCons (tVar 5) tNil)))) tNil)))
  (tRet (tTup (tCons (tC (.str "one")) (tCons (tVar 1) (tCons (tVar 5) (tCons (tVar 3) tNil)))))))) tNext)
  (tSeq (tIfS (tTest (tOp rEq (tVar 4) (tC (.int 3)))) (tSeq (tAsg (tCall (sp__law_names T) [] E0 (tCons (tVar 0) (tCons (tOp (rI0 fun i j => .int (i + j)) (tC (.int 1)) (tCall (sp__law_take T) [] E0 (tCons (tVar 0) (tCons (tC (.int 4)) tNil)))) tNil))) (gName 5))
  (tSeq (tDrop (tBM K "list" rAppend (tVar 2) (tCons (tTup (tCons (tVar 1) (tCons (tC (.str "some")) (tCons (tVar 5) tNil)))) tNil)))
  (tRet (tTup (tCons (tC (.str "some")) (tCons (tVar 1) (tCons (tVar 5) (tCons (tVar 3) tNil)))))))) tNext)
  (tSeq (tAsg (tOp (rIxL K) (tLst (tCons (tC (.int 0)) (tCons (tC (.int 0)) (tCons (tC (.int 1)) (tCons (tUn (rU fun i => .int (-i)) (tC (.int 7))) (tCons (tOp (rI0 fun i j => .int (i - j)) (tC (.int 0)) (tOp (rI CPow fun i j => .int (i ^ j.toNat)) (tC (.int 10)) (tC (.int 9)))) tNil)))))) (tCall (sp__law_take T) [] E0 (tCons (tVar 0) (tCons (tC (.int 5)) tNil)))) (gName 6))
  (tSeq (tAsg (tOp (rI0 fun i j => .int (i + j)) (tVar 6) (tOp (rIxL K) (tLst (tCons (tC (.int 0)) (tCons (tC (.int 1)) (tCons (tC (.int 3)) (tCons (tC (.int 4)) (tCons (tOp (rI CPow fun i j => .int (i ^ j.toNat)) (tC (.int 10)) (tC (.int 11))) tNil)))))) (tCall (sp__law_take T) [] E0 (tCons (tVar 0) (tCons (tC (.int 5)) tNil))))) (gName 7))
  (tSeq (tDrop (tBM K "list" rAppend (tVar 2) (tCons (tTup (tCons (tVar 1) (tCons (tC (.str "number")) (tCons (tTup (tCons (tVar 6) (tCons (tVar 7) tNil))) tNil)))) tNil)))
  (tRet (tTup (tCons (tC (.str "number")) (tCons (tVar 1) (tCons (tVar 6) (tCons (tVar 7) (tCons (tVar 3) tNil)))))))))))))),
(pss_cons (ps_set (i := 3) sc__law_question.nd rfl (.inl rfl) (pe_call (G__law_perhaps.mono (by omega)) hr (by rfl) T.g__law_perhaps T.F__law_perhaps.kp T.b__law_perhaps .nil pass0 (pa_cons (pv 0) (pa_cons (pv 2) pa_nil))))
  (pss_cons (ps_set (i := 4) sc__law_question.nd rfl (.inl rfl) (pe_call (G__law_take.mono (by omega)) hr (by rfl) T.g__law_take T.F__law_take.kp T.b__law_take .nil pass0 (pa_cons (pv 0) (pa_cons pe_int pa_nil))))
  (pss_cons (ps_if (pt_cmpR op_lt (pv 4) pe_int (nomark _)) (pss_cons (ps_set (i := 5) sc__law_question.nd rfl (.inl rfl) (pe_call (G__law_names.mono (by omega)) hr (by rfl) T.g__law_names T.F__law_names.kp T.b__law_names .nil pass0 (pa_cons (pv 0) (pa_cons (pe_ix ix_list (pe_lst (pa_cons pe_int (pa_cons pe_int (pa_cons pe_int (pa_cons pe_int (pa_cons pe_int (pa_cons pe_int pa_nil))))))) (pe_call (G__law_take.mono (by omega)) hr (by rfl) T.g__law_take T.F__law_take.kp T.b__law_take .nil pass0 (pa_cons (pv 0) (pa_cons pe_int pa_nil))) (fun _ _ => rfl)) pa_nil))))
  (pss_cons (ps_expr (pe_bm PySem.F.plainAttrs_list PySem.F.slot_list_append PySem.F.type_list_append mt_append (pv 2) (pa_cons (pe_tup (pa_cons (pv 1) (pa_cons pe_str (pa_cons (pv 5) pa_nil)))) pa_nil)))
  (pss_one (ps_ret (pe_tup (pa_cons pe_str (pa_cons (pv 1) (pa_cons (pv 5) (pa_cons (pv 3) pa_nil))))))))) pss_nil)
  (pss_cons (ps_if (pt_cmpR op_eq (pv 4) pe_int (nomark _)) (pss_cons (ps_set (i := 5) sc__law_question.nd rfl (.inl rfl) (pe_call (G__law_names.mono (by omega)) hr (by rfl) T.g__law_names T.F__law_names.kp T.b__law_names .nil pass0 (pa_cons (pv 0) (pa_cons (pe_op op_add pe_int (pe_call (G__law_take.mono (by omega)) hr (by rfl) T.g__law_take T.F__law_take.kp T.b__law_take .nil pass0 (pa_cons (pv 0) (pa_cons pe_int pa_nil)))) pa_nil))))
  (pss_cons (ps_expr (pe_bm PySem.F.plainAttrs_list PySem.F.slot_list_append PySem.F.type_list_append mt_append (pv 2) (pa_cons (pe_tup (pa_cons (pv 1) (pa_cons pe_str (pa_cons (pv 5) pa_nil)))) pa_nil)))
  (pss_one (ps_ret (pe_tup (pa_cons pe_str (pa_cons (pv 1) (pa_cons (pv 5) (pa_cons (pv 3) pa_nil))))))))) pss_nil)
  (pss_cons (ps_set (i := 6) sc__law_question.nd rfl (.inl rfl) (pe_ix ix_list (pe_lst (pa_cons pe_int (pa_cons pe_int (pa_cons pe_int (pa_cons (pe_un un_neg pe_int) (pa_cons (pe_op op_sub pe_int (pe_op op_pow pe_int pe_int)) pa_nil)))))) (pe_call (G__law_take.mono (by omega)) hr (by rfl) T.g__law_take T.F__law_take.kp T.b__law_take .nil pass0 (pa_cons (pv 0) (pa_cons pe_int pa_nil))) (fun _ _ => rfl)))
  (pss_cons (ps_set (i := 7) sc__law_question.nd rfl (.inl rfl) (pe_op op_add (pv 6) (pe_ix ix_list (pe_lst (pa_cons pe_int (pa_cons pe_int (pa_cons pe_int (pa_cons pe_int (pa_cons (pe_op op_pow pe_int pe_int) pa_nil)))))) (pe_call (G__law_take.mono (by omega)) hr (by rfl) T.g__law_take T.F__law_take.kp T.b__law_take .nil pass0 (pa_cons (pv 0) (pa_cons pe_int pa_nil))) (fun _ _ => rfl))))
  (pss_cons (ps_expr (pe_bm PySem.F.plainAttrs_list PySem.F.slot_list_append PySem.F.type_list_append mt_append (pv 2) (pa_cons (pe_tup (pa_cons (pv 1) (pa_cons pe_str (pa_cons (pe_tup (pa_cons (pv 6) (pa_cons (pv 7) pa_nil))) pa_nil)))) pa_nil)))
  (pss_one (ps_ret (pe_tup (pa_cons pe_str (pa_cons (pv 1) (pa_cons (pv 6) (pa_cons (pv 7) (pa_cons (pv 3) pa_nil))))))))))))))), ?_⟩
    have dr := kn.drw
    refine w_asg (D := Dt K ocP') (fun H3 g3 Q' q' => ⟨.ref r, rfl, .ref k, rfl, r, k, S, vs, ds, rfl, kn.go g3, fun v d H' f hd dp => q' v H' (dr.go g3.inv f) ⟨d, hd, dp⟩⟩) kn.I fun cv H1 g1 hcv => ?_
    obtain ⟨cd, hcd, cdp⟩ := hcv
    obtain ⟨oc, hoc, rfl⟩ := oc_of hcd
    refine w_asg (D := Dt K (isI fun k => 0 ≤ k ∧ k < 6)) (x_draw (N := fun n => n = 6) dr (i := 0) rfl (x_i rfl) (fun n hn => by omega) (fun n k hn h0 h1 => ⟨h0, by omega⟩)) g1.inv fun v H2 g2 hv => ?_
    obtain ⟨way, rfl, hway⟩ := dp_int_of hv
    have g02 := g1.trans g2
    have cdp2 := dp_up g2.same cdp
    refine w_when (B := fun _ => True) (xt_test (x_cmpI (K := K) (p := fun i j => decide (i < j)) (A := fun i => True) (B := fun i => True) (x_vi rfl trivial) (x_i trivial) fun _ _ _ _ => trivial)) g2.inv (fun H3 g3 _ => ?_) (fun H3 g3 _ => ?_)
    · have g03 := g02.trans g3
      refine w_asg (D := Dt K nmP) (x_names T dr (N := fun n => 1 ≤ n ∧ n ≤ 6) (i := 0) rfl (x_menu (n := 6) (ds_cons (x_i (A := fun n => 1 ≤ n ∧ n ≤ 6) (by decide)) (ds_cons (x_i (A := fun n => 1 ≤ n ∧ n ≤ 6) (by decide)) (ds_cons (x_i (A := fun n => 1 ≤ n ∧ n ≤ 6) (by decide)) (ds_cons (x_i (A := fun n => 1 ≤ n ∧ n ≤ 6) (by decide)) (ds_cons (x_i (A := fun n => 1 ≤ n ∧ n ≤ 6) (by decide)) (ds_cons (x_i (A := fun n => 1 ≤ n ∧ n ≤ 6) (by decide)) ds_nil)))))) rfl (fun ds al => al_mem al fun P hP d hd => by simp only [List.mem_cons, List.not_mem_nil, or_false, or_self] at hP; subst hP; exact hd) (x_draw (N := fun n => n = 6) dr (i := 0) rfl (x_i rfl) (fun n hn => by omega) (fun n k hn h0 h1 => ⟨h0, by omega⟩))) (fun n hn => by omega)) g3.inv fun sv H4 g4 hsv => ?_
      obtain ⟨sd, ⟨ss, hs0, hsl, hs, rfl⟩, sdp⟩ := hsv
      have g04 := g03.trans g4
      refine w_known kn g04 (i := 2) rfl (x_tu (ds_cons (x_vs (A := fun s => s = n) rfl rfl) (ds_cons (x_s (A := fun s => s = "one") rfl) (ds_cons (x_d (P := fun d => d = .list (ss.map .str)) (i := 5) rfl sdp rfl) ds_nil))) fun ds' al => by
        obtain ⟨a, b, c, rfl, ⟨_, rfl, rfl⟩, ⟨_, rfl, rfl⟩, rfl⟩ := al3 al
        exact ⟨_, hn, .inl ⟨ss, hs0, hsl, hs, .inl rfl⟩⟩) hz fun x dx H5 ef kn5 sm => ?_
      refine w_ret (R := kn5.rg) (D := Dt K (fun d => d = (Rw.one n ss oc).py)) (x_tu (ds_cons (x_s (A := fun s => s = "one") rfl) (ds_cons (x_vs (A := fun s => s = n) rfl rfl) (ds_cons (x_d (P := fun d => d = .list (ss.map .str)) (i := 5) rfl (dp_up sm sdp) rfl) (ds_cons (x_d (P := fun d => d = ocP oc) (i := 3) rfl (dp_up (Same.trans (g3.trans g4).same sm) cdp2) rfl) ds_nil)))) fun ds' al => by
        obtain ⟨a, b, c, d, rfl, ⟨_, rfl, rfl⟩, ⟨_, rfl, rfl⟩, rfl, rfl⟩ := al4 al
        simp only [Rw.py]) kn5.I fun v H6 g6 ⟨d, hd, dp⟩ => ?_
      subst hd
      refine q v (.one n ss oc) H6 x dx (ef.trans (Eff.fr kn5.mr (by simp) kn5.dm (draw_fr g6))) (kn5.go g6) ⟨⟨s30_ok hn, by omega, fun s hs' => s30_ok (hs s hs'), hoc⟩, by simp [Rw.dep], by simp [Rw.cnt, cb], by simp [Rw.wid] <;> omega⟩ dp
    · have g03 := g02.trans g3
      have cdp3 := dp_up g3.same cdp2
      refine w_when (B := fun _ => True) (xt_test (x_eqI (K := K) (A := fun i => True) (B := fun i => True) (x_vi rfl trivial) (x_i trivial) fun _ _ _ _ => trivial)) g3.inv (fun H4 g4 _ => ?_) (fun H4 g4 _ => ?_)
      · refine w_asg (D := Dt K nmP) (x_names T dr (N := fun n => 1 ≤ n ∧ n ≤ 6) (i := 0) rfl (x_I0 (A := fun n => n = 1) (B := fun n => 0 ≤ n ∧ n < 4) (x_i rfl) (x_draw (N := fun n => n = 4) dr (i := 0) rfl (x_i rfl) (fun n hn => by omega) (fun n k hn h0 h1 => ⟨h0, by omega⟩)) fun a b ha hb => ⟨_, rfl, by omega, by omega⟩) (fun n hn => by omega)) g4.inv fun sv H5 g5 hsv => ?_
        obtain ⟨sd, ⟨ss, hs0, hsl, hs, rfl⟩, sdp⟩ := hsv
        have g05 := (g03.trans g4).trans g5
        refine w_known kn g05 (i := 2) rfl (x_tu (ds_cons (x_vs (A := fun s => s = n) rfl rfl) (ds_cons (x_s (A := fun s => s = "some") rfl) (ds_cons (x_d (P := fun d => d = .list (ss.map .str)) (i := 5) rfl sdp rfl) ds_nil))) fun ds' al => by
          obtain ⟨a, b, c, rfl, ⟨_, rfl, rfl⟩, ⟨_, rfl, rfl⟩, rfl⟩ := al3 al
          exact ⟨_, hn, .inl ⟨ss, hs0, hsl, hs, .inr rfl⟩⟩) hz fun x dx H6 ef kn6 sm => ?_
        refine w_ret (R := kn6.rg) (D := Dt K (fun d => d = (Rw.som n ss oc).py)) (x_tu (ds_cons (x_s (A := fun s => s = "some") rfl) (ds_cons (x_vs (A := fun s => s = n) rfl rfl) (ds_cons (x_d (P := fun d => d = .list (ss.map .str)) (i := 5) rfl (dp_up sm sdp) rfl) (ds_cons (x_d (P := fun d => d = ocP oc) (i := 3) rfl (dp_up (Same.trans (g4.trans g5).same sm) cdp3) rfl) ds_nil)))) fun ds' al => by
          obtain ⟨a, b, c, d, rfl, ⟨_, rfl, rfl⟩, ⟨_, rfl, rfl⟩, rfl, rfl⟩ := al4 al
          simp only [Rw.py]) kn6.I fun v H7 g7 ⟨d, hd, dp⟩ => ?_
        subst hd
        refine q v (.som n ss oc) H7 x dx (ef.trans (Eff.fr kn6.mr (by simp) kn6.dm (draw_fr g7))) (kn6.go g7) ⟨⟨s30_ok hn, by omega, fun s hs' => s30_ok (hs s hs'), hoc⟩, by simp [Rw.dep], by simp [Rw.cnt, cb], by simp [Rw.wid] <;> omega⟩ dp
      · have cdp4 := dp_up g4.same cdp3
        have g04 := g03.trans g4
        refine w_asg (D := Dt K (isI fun n => True)) (x_menu (n := 5) (ds_cons (x_i (A := fun n => True) trivial) (ds_cons (x_i (A := fun n => True) trivial) (ds_cons (x_i (A := fun n => True) trivial) (ds_cons (x_neg (P := isI fun n => True) (x_i (A := fun n => True) trivial) fun i _ => ⟨_, rfl, trivial⟩) (ds_cons (x_I0 (P := isI fun n => True) (A := fun n => True) (B := fun n => True) (x_i trivial) (x_IC (A := fun n => n = 10) (B := fun n => n = 9) (x_i rfl) (x_i rfl) fun a b ha hb => by subst ha hb; exact ⟨by unfold CPow; decide, _, rfl, trivial⟩) fun a b _ _ => ⟨_, rfl, trivial⟩) ds_nil))))) rfl (fun ds al => al_mem al fun P hP d hd => by simp only [List.mem_cons, List.not_mem_nil, or_false, or_self] at hP; subst hP; exact hd) (x_draw (N := fun n => n = 5) dr (i := 0) rfl (x_i rfl) (fun n hn => by omega) (fun n k hn h0 h1 => ⟨h0, by omega⟩))) g4.inv fun lv H5 g5 hlv => ?_
        obtain ⟨lo, rfl, _⟩ := dp_int_of hlv
        refine w_asg (D := Dt K (isI fun n => lo ≤ n ∧ n ≤ lo + 100000000000)) (x_I0 (A := fun n => n = lo) (B := fun n => 0 ≤ n ∧ n ≤ 100000000000) (x_vi rfl rfl) (x_menu (n := 5) (ds_cons (x_i (A := fun n => 0 ≤ n ∧ n ≤ 100000000000) (by decide)) (ds_cons (x_i (A := fun n => 0 ≤ n ∧ n ≤ 100000000000) (by decide)) (ds_cons (x_i (A := fun n => 0 ≤ n ∧ n ≤ 100000000000) (by decide)) (ds_cons (x_i (A := fun n => 0 ≤ n ∧ n ≤ 100000000000) (by decide)) (ds_cons (x_IC (P := isI fun n => 0 ≤ n ∧ n ≤ 100000000000) (A := fun n => n = 10) (B := fun n => n = 11) (x_i rfl) (x_i rfl) fun a b ha hb => by subst ha hb; exact ⟨by unfold CPow; decide, _, rfl, by decide⟩) ds_nil))))) rfl (fun ds al => al_mem al fun P hP d hd => by simp only [List.mem_cons, List.not_mem_nil, or_false, or_self] at hP; subst hP; exact hd) (x_draw (N := fun n => n = 5) dr (i := 0) rfl (x_i rfl) (fun n hn => by omega) (fun n k hn h0 h1 => ⟨h0, by omega⟩))) fun a b ha hb => ⟨_, rfl, by omega, by omega⟩) g5.inv fun hv' H6 g6 hhv => ?_
        obtain ⟨hi, rfl, hhi⟩ := dp_int_of hhv
        have g06 := (g04.trans g5).trans g6
        refine w_known kn g06 (i := 2) rfl (x_tu (ds_cons (x_vs (A := fun s => s = n) rfl rfl) (ds_cons (x_s (A := fun s => s = "number") rfl) (ds_cons (x_tu (P := fun d => d = .tuple [.int lo, .int hi]) (ds_cons (x_vi (A := fun i => i = lo) rfl rfl) (ds_cons (x_vi (A := fun i => i = hi) rfl rfl) ds_nil)) fun ds' al => by
            obtain ⟨a, b, rfl, ⟨_, rfl, rfl⟩, ⟨_, rfl, rfl⟩⟩ := al2 al
            rfl) ds_nil))) fun ds' al => by
          obtain ⟨a, b, c, rfl, ⟨_, rfl, rfl⟩, ⟨_, rfl, rfl⟩, rfl⟩ := al3 al
          exact ⟨_, hn, .inr ⟨lo, hi, hhi.1, by omega, rfl⟩⟩) hz fun x dx H7 ef kn7 sm => ?_
        refine w_ret (R := kn7.rg) (D := Dt K (fun d => d = (Rw.number n lo hi oc).py)) (x_tu (ds_cons (x_s (A := fun s => s = "number") rfl) (ds_cons (x_vs (A := fun s => s = n) rfl rfl) (ds_cons (x_vi (A := fun i => i = lo) rfl rfl) (ds_cons (x_vi (A := fun i => i = hi) rfl rfl) (ds_cons (x_d (P := fun d => d = ocP oc) (i := 3) rfl (dp_up (Same.trans (g5.trans g6).same sm) cdp4) rfl) ds_nil))))) fun ds' al => by
          obtain ⟨a, b, c, d, e, rfl, ⟨_, rfl, rfl⟩, ⟨_, rfl, rfl⟩, ⟨_, rfl, rfl⟩, ⟨_, rfl, rfl⟩, rfl⟩ := al5 al
          simp only [Rw.py]) kn7.I fun v H8 g8 ⟨d, hd, dp⟩ => ?_
        subst hd
        refine q v (.number n lo hi oc) H8 x dx (ef.trans (Eff.fr kn7.mr (by simp) kn7.dm (draw_fr g8))) (kn7.go g8) ⟨⟨s30_ok hn, hoc⟩, by simp [Rw.dep], by simp [Rw.cnt, cb], by simp [Rw.wid] <;> omega⟩ dp
end SF
namespace SF
open PySem PySem.Spec PyProof.Rows L2 GK Evl LamX
variable {P : Program} {w : World} {K : PySem.W.Frag} {mg : Str → Option Value} {base : Heap}
/-- a comprehension over a list of the region that stays -/
theorem x_lcM {R : Rg} {σ : L2.St} {H : Hp} {tt : TT} {te : TE} {P : PyData → Prop} {k : Addr} {vs0 : List V} {ds : List PyData} {f : PyData → Bool} {E : PyData → PyData → Prop} {vs : List Nat} {j jk : Nat} (hj : σ[jk]? = some (some (.ref k))) (hk : ∀ H1, R.I H1 → H1 k = some (.lst vs0)) (hv : DpAll K (R.off H) vs0 ds) (hz : ds.length ≤ 90000)
    (hw : ∀ x, wipe ((wipe σ vs).set j (some x)) vs = wipe σ vs)
    (ht : ∀ (p : Addr) (acc : List V) (H1 : Hp), p ∉ R.S → (R.plus p (.lst acc)).I H1 → ∀ d x, d ∈ ds → Dp K ((R.plus p (.lst acc)).off H1) x d → EvXT (R.plus p (.lst acc)) tt ((wipe σ vs).set j (some x)) H1 (fun b => b = f d))
    (he : ∀ (p : Addr) (acc : List V) (H1 : Hp), p ∉ R.S → (R.plus p (.lst acc)).I H1 → ∀ d x, d ∈ ds → f d = true → Dp K ((R.plus p (.lst acc)).off H1) x d → EvX (R.plus p (.lst acc)) te ((wipe σ vs).set j (some x)) H1 (Dt K (E d)))
    (done : ∀ es, Paired (fun e d => E d e) es (ds.filter f) → P (.list es)) : EvX R (tLc (iList K (tVar jk)) (gName j) tt te vs) σ H (Dt K P) := fun H1 g Q q => by
  refine ⟨.ref k, hj, k, rfl, ⟨vs0, SqL.of (hk H1 g.inv)⟩, fun Dl hD => ?_⟩
  have nS : Dl ∉ R.S := R.fresh g.inv hD
  have hds := dpAll_up g.same hv
  let Pv : Nat → Hp → Prop := fun i H' => ∃ ys es, (R.plus Dl (.lst ys)).I H' ∧ Same (R.off H1) ((R.plus Dl (.lst ys)).off H') ∧ DpAll K ((R.plus Dl (.lst ys)).off H') ys es ∧ Paired (fun e d => E d e) es ((ds.take i).filter f)
  refine lc_it (walk_list (K := K) (a := k) (xs := vs0)) Pv ⟨[], [], plus_new hD g.inv, plus_same hD (same_new hD), .nil, .nil⟩ (fun i H' _ ⟨ys, es, h1, h2, h3, h4⟩ => SqL.of (hk H' h1.1)) (fun i x H' H'' hi p y => ?_) (fun H' p => ?_)
  · obtain ⟨rfl, hx⟩ := y
    obtain ⟨ys, es, h1, h2, h3, h4⟩ := p
    obtain ⟨d, hdi, hdx⟩ := dpAll_getV (dpAll_up h2 hds) hx
    have mem := List.mem_of_getElem? hdi
    have tk : ds.take (i + 1) = ds.take i ++ [d] := by rw [List.take_succ, hdi]; rfl
    refine ⟨hw x, ht Dl ys H'' nS h1 d x mem hdx H'' (Go.refl h1) _ fun b H3 g3 hb => ?_⟩
    subst hb
    cases hf : f d with
    | false =>
      rw [if_neg (by decide)]
      refine ⟨ys, es, g3.inv, h2.trans g3.same, dpAll_up g3.same h3, ?_⟩
      rw [tk, List.filter_append]
      have z : [d].filter f = [] := by rw [List.filter_cons, if_neg (by rw [hf]; decide)]; rfl
      rw [z, List.append_nil]
      exact h4
    | true =>
      rw [if_pos rfl]
      refine he Dl ys H'' nS h1 d x mem hf hdx H3 g3 _ fun y H4 g4 ⟨e, hE, hey⟩ => ⟨ys, g4.inv.2, ?_, ys ++ [y], es ++ [e], plus_set nS g4.inv, ?_, ?_, ?_⟩
      · have e1 := dpAll_len h3
        have e2 := pd_len h4
        have e3 : ((ds.take i).filter f).length ≤ i := Nat.le_trans (List.length_filter_le _ _) (by rw [List.length_take]; exact Nat.min_le_left _ _)
        have e4 := (List.getElem?_eq_some_iff.mp hdi).1
        exact Nat.lt_of_le_of_lt (by omega : ys.length ≤ 90000) (by decide)
      · show Same _ (offS (Dl :: R.S) (upd H4 Dl _))
        rw [offS_upd List.mem_cons_self]
        exact h2.trans (g3.same.trans g4.same)
      · show DpAll K (offS (Dl :: R.S) (upd H4 Dl _)) _ _
        rw [offS_upd List.mem_cons_self]
        exact dpAll_append (dpAll_up (g3.same.trans g4.same) h3) (.cons hey .nil)
      · rw [tk, List.filter_append]
        have z : [d].filter f = [d] := by rw [List.filter_cons, if_pos hf]; rfl
        rw [z]
        exact pd_snoc h4 hE
  · obtain ⟨ys, es, h1, h2, h3, h4⟩ := p
    have hl : vs0.length = ds.length := dpAll_len hds
    rw [hl, List.take_length] at h4
    exact q _ H' ⟨h2.trans plus_sub, h1.1⟩ ⟨_, done es h4, .lst (SqL.of (offS_some.mpr ⟨nS, h1.2⟩)) (dpAll_up plus_sub h3)⟩
/-! ### names that are left -/
structure Rs (K : PySem.W.Frag) (S : List Addr) (H : Hp) (r nm k : Addr) (vs : List V) (ds : List PyData) (ns : List Str) : Prop where
  kn : Kn K S H r k vs ds
  mn : nm ∈ S
  nr : nm ≠ r
  nk : nm ≠ k
  at_n : H nm = some (.lst (ns.map V.str))
  gs : ∀ s ∈ ns, s30 s
  len : ds.length + ns.length ≤ 100
theorem Rs.fr {S : List Addr} {H H' : Hp} {r nm k : Addr} {vs : List V} {ds : List PyData} {ns : List Str} (h : Rs K S H r nm k vs ds ns) (f : Fr r H H') : Rs K S H' r nm k vs ds ns := ⟨h.kn.fr f, h.mn, h.nr, h.nk, (off_some.mp (f.same nm _ (off_some.mpr ⟨h.nr, h.at_n⟩))).2, h.gs, h.len⟩
theorem Rs.go {S : List Addr} {H H' : Hp} {r nm k : Addr} {vs : List V} {ds : List PyData} {ns : List Str} (h : Rs K S H r nm k vs ds ns) (g : Go h.kn.rg H H') : Rs K S H' r nm k vs ds ns := h.fr (draw_fr g)
/-- another object of the region is written to -/
theorem Kn.put {S : List Addr} {H : Hp} {r k f : Addr} {vs : List V} {ds : List PyData} {o : HO} (h : Kn K S H r k vs ds) (hf : f ∈ S) (nr : f ≠ r) (nk : f ≠ k) : Kn K S (upd H f o) r k vs ds := by
  refine ⟨h.mr, h.mk_, h.ne, fun a ha => ?_, ?_, by rw [upd_ne (Ne.symm nk)]; exact h.at_, by rw [offS_upd hf]; exact h.dp, h.kn, h.len⟩
  · by_cases e : a = f
    · exact ⟨_, by rw [e]; exact upd_same⟩
    · obtain ⟨o, ho⟩ := h.dm a ha
      exact ⟨o, by rw [upd_ne e]; exact ho⟩
  · obtain ⟨x, b, c, z⟩ := h.rng
    exact ⟨x, b, c, by rw [upd_ne (Ne.symm nr)]; exact z⟩
theorem Rs.put {S : List Addr} {H : Hp} {r nm k f : Addr} {vs : List V} {ds : List PyData} {ns : List Str} {o : HO} (h : Rs K S H r nm k vs ds ns) (hf : f ∈ S) (nr : f ≠ r) (nk : f ≠ k) (nn : f ≠ nm) : Rs K S (upd H f o) r nm k vs ds ns := ⟨h.kn.put hf nr nk, h.mn, h.nr, h.nk, by rw [upd_ne (Ne.symm nn)]; exact h.at_n, h.gs, h.len⟩
/-- the last name is taken -/
theorem Rs.pop {S : List Addr} {H : Hp} {r nm k : Addr} {vs : List V} {ds : List PyData} {ns : List Str} {n : Str} (h : Rs K S H r nm k vs ds (ns ++ [n])) : Rs K S (upd H nm (.lst (ns.map V.str))) r nm k vs ds ns := ⟨h.kn.put h.mn h.nr h.nk, h.mn, h.nr, h.nk, upd_same, fun s hs => h.gs s (List.mem_append_left _ hs), by have := h.len; rw [List.length_append] at this; simp at this; omega⟩
/-- names == [] -/
theorem xt_nnil {S : List Addr} {H H1 : Hp} {r nm k : Addr} {vs : List V} {ds : List PyData} {ns : List Str} (h : Rs K S H r nm k vs ds ns) {σ : L2.St} {j : Nat} (hj : σ[j]? = some (some (.ref nm))) (g1 : Go h.kn.rg H H1) : EvXT h.kn.rg (tTest (tOp (rEqD K) (tVar j) (tLst tNil))) σ H1 (fun b => b = ns.isEmpty) := fun H2 g2 Q q =>
  ⟨.ref nm, hj, by show 0 ≤ sizeLine; decide, fun p np => by
    have g3 : Go h.kn.rg H2 (upd H2 p (.lst [])) := Go.new g2.inv np
    have at3 := (h.go (g1.trans (g2.trans g3))).at_n
    refine ⟨.list (ns.map .str), .list [], .lst (SqL.of at3) (dp_strs ns), .lst (SqL.of upd_same) .nil, shp (by simp only [PyData.canLay0]; exact (strs_lay fun s hs => (h.gs s hs).2).1) (by have := (strs_lay fun s hs => (h.gs s hs).2).2; simp only [PyData.depth]; omega), shp_nil, _, rfl, q _ _ g3 (by rw [eqv_nil]; cases ns <;> rfl)⟩⟩
theorem cnts_len {D : Nat} : ∀ {rows : List Rw}, (∀ rw ∈ rows, fineR D rw) → cnts rows ≤ rows.length * cb D
  | [], _ => by simp [cnts]
  | r :: rs, h => by
    have h1 := (h r List.mem_cons_self).cnt
    have h2 := cnts_len fun x hx => h x (List.mem_cons_of_mem _ hx)
    rw [cnts, List.length_cons, Nat.succ_mul]
    omega
theorem fine_rows {D : Nat} {rows : List Rw} (h : ∀ rw ∈ rows, fineR D rw) (hl : rows.length ≤ 3) : rowsOk rows ∧ deps rows ≤ D ∧ cnts rows + 1 ≤ cb (D + 1) ∧ wids rows ≤ 100 := by
  refine ⟨rowsOk_iff.mpr fun r hr => (h r hr).ok, deps_le fun r hr => (h r hr).dep, ?_, wids_le.mpr fun r hr => (h r hr).wid⟩
  have h1 := cnts_len h
  have h2 : rows.length * cb D ≤ 3 * cb D := Nat.mul_le_mul_right _ hl
  show _ ≤ 1 + 3 * cb D
  omega
/-! ### _law_rows -/
def sp__law_rows (T : Txt K mg) (D : Nat) : Sp := fun vs' H Q _ => ∃ (r nm k : Addr) (S : List Addr) (vs : List V) (ds : List PyData) (ns : List Str) (many : Nat) (pl : V) (ins : Bool) (deep : Nat), vs' = [.ref r, .ref nm, .ref k, .int (many : Int), pl] ∧ Rs K S H r nm k vs ds ns ∧ many ≤ 100 ∧ Dp K (offS S H) pl (.tuple [.bool ins, .int (deep : Int)]) ∧ D = deep + (if ins then 0 else 1) ∧
  ∀ v rows H' vs2 ds2 ns2, Eff S [r, nm, k] H H' → Rs K S H' r nm k vs2 ds2 ns2 → ns2.length ≤ ns.length → rows.length ≤ many → (∀ rw ∈ rows, fineR D rw) → Dp K (offS S H') v (.list (rowsP rows)) → Q v H'
/-- which numbers may count rounds -/
def isCnt : PyData → Bool
  | .tuple [_, .str s, d] => decide (s = "number") && [PyData.tuple [.int 0, .int 0], .tuple [.int 0, .int 1], .tuple [.int 0, .int 3], .tuple [.int 0, .int 4], .tuple [.int 1, .int 4]].any (fun z => PyData.eqv z d)
  | _ => false
def strsP (d : PyData) : Prop := ∃ ss : List Str, ss.length ≤ 1000 ∧ (∀ s ∈ ss, s30 s) ∧ d = .list (ss.map .str)
theorem strs_of : ∀ {es : List PyData} {ds : List PyData}, Paired (fun e _ => isS s30 e) es ds → ∃ ss : List Str, es = ss.map .str ∧ ∀ s ∈ ss, s30 s
  | _, _, .nil => ⟨[], rfl, by simp⟩
  | _, _, .cons ⟨s, e, hs⟩ t => by
    obtain ⟨ss, e2, h2⟩ := strs_of t
    refine ⟨s :: ss, by rw [e, e2]; rfl, fun x hx => ?_⟩
    rcases List.mem_cons.mp hx with z | z
    · rw [z]; exact hs
    · exact h2 x z
theorem x_pairI {R : Rg} {σ : L2.St} {H : Hp} {a b : Int} : EvX R (tTup (tCons (tC (.int a)) (tCons (tC (.int b)) tNil))) σ H (Dt K (fun d => d = .tuple [.int a, .int b])) := x_tu (ds_cons (x_i (A := fun i => i = a) rfl) (ds_cons (x_i (A := fun i => i = b) rfl) ds_nil)) fun ds' al => by
  obtain ⟨x, y, rfl, ⟨_, rfl, rfl⟩, ⟨_, rfl, rfl⟩⟩ := al2 al
  rfl
theorem x_counts {R : Rg} {σ : L2.St} {H : Hp} {k : Addr} {vs0 : List V} {ds : List PyData} {jk : Nat} (hlen : σ.length = 16) (h15 : σ[15]? = some none) (hj : σ[jk]? = some (some (.ref k))) (hk : ∀ H1, R.I H1 → H1 k = some (.lst vs0)) (hv : DpAll K (R.off H) vs0 ds) (hz : ds.length ≤ 1000) (hkn : ∀ d ∈ ds, knP d) :
    EvX R (tLc (iList K (tVar jk)) (gName 15) (tAnd (tTest (tOp rEq (tOp (rIxT K) (tVar 15) (tC (.int 1))) (tC (.str "number")))) (tTest (tOp (rInD K) (tOp (rIxT K) (tVar 15) (tC (.int 2))) (tLst (tCons (tTup (tCons (tC (.int 0)) (tCons (tC (.int 0)) tNil))) (tCons (tTup (tCons (tC (.int 0)) (tCons (tC (.int 1)) tNil))) (tCons (tTup (tCons (tC (.int 0)) (tCons (tC (.int 3)) tNil))) (tCons (tTup (tCons (tC (.int 0)) (tCons (tC (.int 4)) tNil))) (tCons (tTup (tCons (tC (.int 1)) (tCons (tC (.int 4)) tNil))) tNil))))))))) (tOp (rIxT K) (tVar 15) (tC (.int 0))) [15]) σ H (Dt K strsP) := by
  have at15 : ∀ x, ((wipe σ [15]).set 15 (some x))[15]? = some (some x) := fun x => by
    rw [List.getElem?_set_self]
    rw [wipe_length, hlen]
    decide
  have hw : ∀ x, wipe ((wipe σ [15]).set 15 (some x)) [15] = wipe σ [15] := fun x => by
    show ((σ.set 15 none).set 15 (some x)).set 15 none = σ.set 15 none
    rw [List.set_set, List.set_set]
  have shape : ∀ d ∈ ds, ∃ (n kd : Str) (z : PyData), s30 n ∧ d = .tuple [.str n, .str kd, z] ∧ (kd = "number" → ∃ lo hi : Int, z = .tuple [.int lo, .int hi]) := fun d hd => by
    obtain ⟨n, hn, h⟩ := hkn d hd
    rcases h with ⟨ss, _, _, _, h⟩ | ⟨lo, hi, _, _, h⟩
    · rcases h with h | h
      · exact ⟨n, "one", _, hn, h, fun z => absurd z (by decide)⟩
      · exact ⟨n, "some", _, hn, h, fun z => absurd z (by decide)⟩
    · exact ⟨n, "number", _, hn, h, fun _ => ⟨lo, hi, rfl⟩⟩
  refine x_lcM (f := isCnt) (E := fun _ e => isS s30 e) hj hk hv (by omega) hw (fun p acc H1 np hI d x hd hx => ?_) (fun p acc H1 np hI d x hd hf hx => ?_) (fun es pd => ?_)
  · obtain ⟨n, kd, z, hn, rfl, hnum⟩ := shape d hd
    refine xt_and (A := fun b => b = decide (kd = "number")) (B := fun b => b = [PyData.tuple [.int 0, .int 0], .tuple [.int 0, .int 1], .tuple [.int 0, .int 3], .tuple [.int 0, .int 4], .tuple [.int 1, .int 4]].any (fun y => PyData.eqv y z)) (xt_test (x_eqS (K := K) (A := fun s => s = kd) (B := fun s => s = "number") (x_ixT (A := fun d => d = .tuple [.str n, .str kd, z]) (N := fun i => i = 1) (x_d (at15 x) hx rfl) (x_i rfl) fun d i hd hi => by subst hi; exact ⟨_, _, hd, atI_nat (j := 1) rfl, _, rfl, rfl⟩) (x_s rfl) fun a b ha hb => by rw [ha, hb])) (fun hk' => ?_) (fun h => ?_) (fun b h hb => ?_)
    · obtain ⟨lo, hi, rfl⟩ := hnum (by simpa using hk'.symm)
      refine xt_test (x_inD (K := K) (A := fun d => d = .tuple [.int lo, .int hi]) (B := fun e => e = .list [.tuple [.int 0, .int 0], .tuple [.int 0, .int 1], .tuple [.int 0, .int 3], .tuple [.int 0, .int 4], .tuple [.int 1, .int 4]]) (x_ixT (A := fun d => d = .tuple [.str n, .str kd, .tuple [.int lo, .int hi]]) (N := fun i => i = 2) (x_d (at15 x) hx rfl) (x_i rfl) fun d i hd hi => by subst hi; exact ⟨_, _, hd, atI_nat (j := 2) rfl, rfl⟩) (x_li (ds_cons x_pairI (ds_cons x_pairI (ds_cons x_pairI (ds_cons x_pairI (ds_cons x_pairI ds_nil))))) fun ds' al => by
        obtain ⟨a, b, c, d, e, rfl, rfl, rfl, rfl, rfl, rfl⟩ := al5 al
        rfl) fun d e hd he => by
          subst hd he
          exact ⟨_, rfl, shp (by simp [PyData.canLay0, PyData.canLayAll0]) (by simp [PyData.depth, PyData.depthAll]), by decide +kernel, rfl⟩)
    · show false = (decide (kd = "number") && _)
      rw [← h]
      rfl
    · show b = (decide (kd = "number") && _)
      rw [← h, Bool.true_and]
      exact hb
  · obtain ⟨n, kd, z, hn, rfl, hnum⟩ := shape d hd
    exact x_ixT (A := fun d => d = .tuple [.str n, .str kd, z]) (N := fun i => i = 0) (x_d (at15 x) hx rfl) (x_i rfl) fun d i hd hi => by subst hi; exact ⟨_, _, hd, atI_nat (j := 0) rfl, _, rfl, hn⟩
  · obtain ⟨ss, e, hs⟩ := strs_of pd
    subst e
    have := pd_len pd
    rw [List.length_map] at this
    have := List.length_filter_le isCnt ds
    exact ⟨ss, by omega, hs, rfl⟩
end SF
namespace SF
open PySem PySem.Spec PyProof.Rows L2 GK Evl LamX
variable {P : Program} {w : World} {K : PySem.W.Frag} {mg : Str → Option Value} {base : Heap}
section
variable {S : List Addr} {H H' H0 : Hp} {r nm k f p : Addr} {vs : List V} {ds : List PyData} {ns : List Str} {o : HO}
theorem Kn.nin (h : Kn K S H r k vs ds) (n : H p = none) : p ∉ S := fun z => by
  obtain ⟨o, ho⟩ := h.dm p z
  rw [n] at ho
  cases ho
theorem upd_off {a : Addr} (m : a ∈ S) (n : p ∉ S) : upd H p o a = H a := upd_ne fun z => n (z ▸ m)
theorem Kn.more (h : Kn K S H r k vs ds) (n : H p = none) : Kn K (p :: S) (upd H p o) r k vs ds := by
  have np := h.nin n
  refine ⟨List.mem_cons_of_mem _ h.mr, List.mem_cons_of_mem _ h.mk_, h.ne, fun a ha => ?_, h.rng.up (same_new n), ?_, dpAll_up (offS_cons n (same_new n)) h.dp, h.kn, h.len⟩
  · by_cases e : a = p
    · exact ⟨_, by rw [e]; exact upd_same⟩
    · rcases List.mem_cons.mp ha with z | z
      · exact absurd z e
      · obtain ⟨o, ho⟩ := h.dm a z
        exact ⟨o, by rw [upd_ne e]; exact ho⟩
  · rw [upd_off h.mk_ np]
    exact h.at_
theorem Rs.more (h : Rs K S H r nm k vs ds ns) (n : H p = none) : Rs K (p :: S) (upd H p o) r nm k vs ds ns := ⟨h.kn.more n, List.mem_cons_of_mem _ h.mn, h.nr, h.nk, by rw [upd_off h.mn (h.kn.nin n)]; exact h.at_n, h.gs, h.len⟩
theorem Rs.copy (h : Rs K S H r nm k vs ds ns) (n : H p = none) : Rs K (p :: S) (upd H p (.lst vs)) r nm p vs ds ns := by
  have np := h.kn.nin n
  have m := h.kn.more (o := .lst vs) n
  exact ⟨⟨m.mr, List.mem_cons_self, fun z => np (z ▸ h.kn.mr), m.dm, m.rng, upd_same, m.dp, m.kn, m.len⟩, List.mem_cons_of_mem _ h.mn, h.nr, fun z => np (z ▸ h.mn), by rw [upd_off h.mn np]; exact h.at_n, h.gs, h.len⟩
theorem Rs.less (h : Rs K (f :: S) H r nm k vs ds ns) (mr : r ∈ S) (mn : nm ∈ S) (mk : k ∈ S) : Rs K S H r nm k vs ds ns := ⟨⟨mr, mk, h.kn.ne, fun a ha => h.kn.dm a (List.mem_cons_of_mem _ ha), h.kn.rng, h.kn.at_, dpAll_up (offS_sub fun a ha => List.mem_cons_of_mem _ ha) h.kn.dp, h.kn.kn, h.kn.len⟩, mn, h.nr, h.nk, h.at_n, h.gs, h.len⟩
/-- a copy of what is known was handed to a call -/
theorem Rs.back {H2 : Hp} {vs2 : List V} {ds2 : List PyData} {ns2 : List Str} (h : Rs K S H r nm k vs ds ns) (n : H p = none) (e : Eff (p :: S) [r, nm, p] (upd H p (.lst vs)) H2) (h2 : Rs K (p :: S) H2 r nm p vs2 ds2 ns2) (le : ns2.length ≤ ns.length) : Rs K S H2 r nm k vs ds ns2 ∧ Eff S [r, nm, k] H H2 := by
  have np := h.kn.nin n
  have s1 : Same (offS S H) (offS (p :: S) H2) := (offS_cons n (same_new n)).trans e.same
  have s2 : Same (offS (p :: S) H2) (offS S H2) := offS_sub fun a ha => List.mem_cons_of_mem _ ha
  refine ⟨⟨⟨h.kn.mr, h.kn.mk_, h.kn.ne, fun a ha => h2.kn.dm a (List.mem_cons_of_mem _ ha), h2.kn.rng, ?_, dpAll_up (s1.trans s2) h.kn.dp, h.kn.kn, h.kn.len⟩, h.mn, h.nr, h.nk, h2.at_n, h2.gs, by have := h.len; omega⟩, s1.trans s2, fun a ha hw => ?_⟩
  · rw [e.oth k (List.mem_cons_of_mem _ h.kn.mk_) (by simp [h.kn.ne, Ne.symm h.nk]; exact fun z => np (z ▸ h.kn.mk_)), upd_off h.kn.mk_ np]
    exact h.kn.at_
  · simp only [List.mem_cons, List.not_mem_nil, or_false, not_or] at hw
    rw [e.oth a (List.mem_cons_of_mem _ ha) (by simp [hw.1, hw.2.1]; exact fun z => np (z ▸ ha)), upd_off ha np]
end
/-- the loop's state: rows found so far stand at f -/
structure Lp (K : PySem.W.Frag) (S : List Addr) (H0 : Hp) (r nm k f : Addr) (n0 D i : Nat) (H : Hp) (vs : List V) (ds : List PyData) (ns : List Str) (acc : List V) (rows : List Rw) : Prop where
  rs : Rs K (f :: S) H r nm k vs ds ns
  at_f : H f = some (.lst acc)
  dp : DpAll K (offS (f :: S) H) acc (rowsP rows)
  same : Same (offS S H0) (offS (f :: S) H)
  oth : ∀ a ∈ S, a ∉ [r, nm, k] → H a = H0 a
  le : ns.length ≤ n0
  len : rows.length ≤ i
  fine : ∀ rw ∈ rows, fineR D rw
  nf : f ∉ S
  mr : r ∈ S
  mn : nm ∈ S
  mk_ : k ∈ S
theorem rowsP_len : ∀ l : List Rw, (rowsP l).length = l.length
  | [] => rfl
  | a :: b => by simp [rowsP, rowsP_len b]
theorem rowsP_app : ∀ (a b : List Rw), rowsP (a ++ b) = rowsP a ++ rowsP b
  | [], b => by simp [rowsP]
  | x :: a, b => by simp [rowsP, rowsP_app a b]
section
variable {S : List Addr} {H H' H0 H1 : Hp} {r nm k f : Addr} {n0 D i : Nat} {vs vs2 : List V} {ds ds2 : List PyData} {ns ns2 : List Str} {acc : List V} {rows : List Rw}
theorem Lp.fr_ (h : Lp K S H0 r nm k f n0 D i H vs ds ns acc rows) : f ≠ r ∧ f ≠ nm ∧ f ≠ k := ⟨fun z => h.nf (z ▸ h.mr), fun z => h.nf (z ▸ h.mn), fun z => h.nf (z ▸ h.mk_)⟩
theorem Lp.eff (h : Lp K S H0 r nm k f n0 D i H vs ds ns acc rows) (e : Eff (f :: S) [r, nm, k] H H1) (rs : Rs K (f :: S) H1 r nm k vs2 ds2 ns2) (le : ns2.length ≤ ns.length) : Lp K S H0 r nm k f n0 D i H1 vs2 ds2 ns2 acc rows := by
  obtain ⟨f1, f2, f3⟩ := h.fr_
  exact ⟨rs, by rw [e.oth f List.mem_cons_self (by simp [f1, f2, f3])]; exact h.at_f, dpAll_up e.same h.dp, h.same.trans e.same, fun a ha hw => (e.oth a (List.mem_cons_of_mem _ ha) hw).trans (h.oth a ha hw), Nat.le_trans le h.le, h.len, h.fine, h.nf, h.mr, h.mn, h.mk_⟩
theorem Lp.go (h : Lp K S H0 r nm k f n0 D i H vs ds ns acc rows) (g : Go h.rs.kn.rg H H1) : Lp K S H0 r nm k f n0 D i H1 vs ds ns acc rows := h.eff (Eff.fr h.rs.kn.mr (by simp) h.rs.kn.dm (draw_fr g)) (h.rs.go g) (Nat.le_refl _)
theorem Lp.app (h : Lp K S H0 r nm k f n0 D i H vs ds ns acc rows) {v : V} {rw : Rw} (hd : Dp K (offS (f :: S) H) v rw.py) (hf : fineR D rw) : Lp K S H0 r nm k f n0 D (i + 1) (upd H f (.lst (acc ++ [v]))) vs ds ns (acc ++ [v]) (rows ++ [rw]) := by
  obtain ⟨f1, f2, f3⟩ := h.fr_
  refine ⟨h.rs.put List.mem_cons_self f1 f3 f2, upd_same, ?_, ?_, fun a ha hw => ?_, h.le, ?_, fun x hx => ?_, h.nf, h.mr, h.mn, h.mk_⟩
  · rw [offS_upd List.mem_cons_self, rowsP_app]
    exact dpAll_append h.dp (.cons hd .nil)
  · rw [offS_upd List.mem_cons_self]
    exact h.same
  · rw [upd_off ha h.nf]
    exact h.oth a ha hw
  · rw [List.length_append]
    have := h.len
    simp
    omega
  · rcases List.mem_append.mp hx with z | z
    · exact h.fine x z
    · rw [List.mem_singleton.mp z]; exact hf
/-- found.append(e) -/
theorem Lp.w_app1 {te : TE} {σ : L2.St} {E : Ends} {j : Nat} {Dd : Pd} (h : Lp K S H0 r nm k f n0 D i H vs ds ns acc rows) (hi : i ≤ 100) (hj : σ[j]? = some (some (.ref f))) (he : EvX h.rs.kn.rg te σ H Dd) (hd : ∀ v H1, Dd.p (offS (f :: S) H1) v → ∃ rw : Rw, fineR D rw ∧ Dp K (offS (f :: S) H1) v rw.py)
    (q : ∀ H1 acc rows, Lp K S H0 r nm k f n0 D (i + 1) H1 vs ds ns acc rows → E.nx σ H1) : tDrop (tBM K "list" rAppend (tVar j) (tCons te tNil)) E σ H :=
  ⟨.ref f, hj, .inl ⟨rfl, acc, SqL.of h.at_f⟩, he H (Go.refl h.rs.kn.I) _ fun v H1 g hv => by
    obtain ⟨rw, h1, h2⟩ := hd v H1 hv
    have h' := h.go g
    refine ⟨f, acc, v, rfl, rfl, h'.at_f, ?_, q _ _ _ (h'.app h2 h1)⟩
    have e1 := dpAll_len h'.dp
    have e3 := h'.len
    rw [rowsP_len] at e1
    exact Nat.lt_of_le_of_lt (by omega : acc.length ≤ 100) (by decide)⟩
end
/-- known != [] -/
theorem xt_kne {S : List Addr} {H H1 : Hp} {r k : Addr} {vs : List V} {ds : List PyData} (kn : Kn K S H r k vs ds) {σ : L2.St} {j : Nat} (hj : σ[j]? = some (some (.ref k))) (g1 : Go kn.rg H H1) : EvXT kn.rg (tTest (tOp (rNeD K) (tVar j) (tLst tNil))) σ H1 (fun b => b = !ds.isEmpty) := fun H2 g2 Q q =>
  ⟨.ref k, hj, by show 0 ≤ sizeLine; decide, fun p np => by
    have g3 : Go kn.rg H2 (upd H2 p (.lst [])) := Go.new g2.inv np
    refine ⟨.list ds, .list [], .lst (SqL.of (kn.stay g3.inv)) (dpAll_up (Same.trans (g1.trans (g2.trans g3)).same (offS_same _ _)) kn.dp), .lst (SqL.of upd_same) .nil, kns_shp kn.kn, shp_nil, _, rfl, q _ _ g3 (by rw [eqv_nil])⟩⟩
theorem rows_body (T : Txt K mg) (sp' : Sp) (j D : Nat) (G__law_rows : FnOk P w K mg base CX0 (j + 7) T.a__law_rows T.d__law_rows ["_law_source_here", "_law_names_here", "_law_known", "_law_many", "_law_place"] sp')
    (hc : ∀ D', D = D' + 1 → ∀ vs H Q E, sp__law_rows T D' vs H Q E → sp' vs H Q E) : FnOk P w K mg base CX0 (j + 8) T.a__law_rows T.d__law_rows ["_law_source_here", "_law_names_here", "_law_known", "_law_many", "_law_place"] (sp__law_rows T D) := by
  have G__law_take : FnOk P w K mg base CX0 1 T.a__law_take T.d__law_take ["_law_source_here", "_law_many"] (sp__law_take T) := ok__law_take T
  have G__law_perhaps : FnOk P w K mg base CX0 6 T.a__law_perhaps T.d__law_perhaps ["_law_source_here", "_law_known"] (sp__law_perhaps T) := ok__law_perhaps T
  have G__law_condition : FnOk P w K mg base CX0 5 T.a__law_condition T.d__law_condition ["_law_source_here", "_law_known", "_law_deep"] (sp__law_condition T 2) := ok__law_condition T 2
  have G__law_question : FnOk P w K mg base CX0 7 T.a__law_question T.d__law_question ["_law_source_here", "_law_name", "_law_known"] (sp__law_question T) := ok__law_question T
  refine T.F__law_rows.ok sc__law_rows (fun vs H Q E h => ?_) (fun cdv A outer s H vs Q E hr h => ?_)
  · obtain ⟨r, nm, k, S, vs, ds, ns, many, pl, ins, deep, rfl, _⟩ := h
    rfl
  · obtain ⟨r, nm, k, S, vs, ds, ns, many, pl, ins, deep, rfl, rs, hmany, hpl, hD, q⟩ := h
    refine ⟨(tSeq (tAsg (tVar 4) (gTup K 2 (gCons (gName 5) (gCons (gName 6) gNil))))
  (tSeq (tAsg (tLst tNil) (gName 7))
  (tSeq (tFor (iRng1 (tCons (tVar 3) tNil)) (gName 8)
  (tSeq (tAsg (tCall (sp__law_take T) [] E0 (tCons (tVar 0) (tCons (tC (.int 8)) tNil))) (gName 9))
  (tSeq (tAsg (tLc (iList K (tVar 2)) (gName 15) (tAnd (tTest (tOp rEq (tOp (rIxT K) (tVar 15) (tC (.int 1))) (tC (.str "number")))) (tTest (tOp (rInD K) (tOp (rIxT K) (tVar 15) (tC (.int 2))) (tLst (tCons (tTup (tCons (tC (.int 0)) (tCons (tC (.int 0)) tNil))) (tCons (tTup (tCons (tC (.int 0)) (tCons (tC (.int 1)) tNil))) (tCons (tTup (tCons (tC (.int 0)) (tCons (tC (.int 3)) tNil))) (tCons (tTup (tCons (tC (.int 0)) (tCons (tC (.int 4)) tNil))) (tCons (tTup (tCons (tC (.int 1)) (tCons (tC (.int 4)) tNil))) tNil))))))))) (tOp (rIxT K) (tVar 15) (tC (.int 0))) [15]) (gName 10))
  (tSeq (tIfS (tTest (tOp (rEqD K) (tVar 1) (tLst tNil))) (tRet (tVar 7)) tNext)
  (tIfS (tAnd (tTest (tOp rEq (tVar 9) (tC (.int 7)))) (tAnd (tNot (tB (tVar 5))) (tTest (tOp (rNeD K) (tVar 10) (tLst tNil))))) (tSeq (tAsg (tCall (sp__law_perhaps T) [] E0 (tCons (tVar 0) (tCons (tVar 2) tNil))) (gName 11))
  (tSeq (tAsg (tOp (rIxL K) (tVar 10) (tCall (sp__law_take T) [] E0 (tCons (tVar 0) (tCons (tCB (gLenQ K) (tCons (tVar 10) tNil)) tNil)))) (gName 12))
  (tSeq (tAsg (tCall sp' [] E0 (tCons (tVar 0) (tCons (tVar 1) (tCons (tCB (gListOf K) (tCons (tVar 2) tNil)) (tCons (tOp (rI0 fun i j => .int (i + j)) (tC (.int 1)) (tCall (sp__law_take T) [] E0 (tCons (tVar 0) (tCons (tC (.int 3)) tNil)))) (tCons (tTup (tCons (tC (.bl true)) (tCons (tVar 6) tNil))) tNil)))))) (gName 13))
  (tDrop (tBM K "list" rAppend (tVar 7) (tCons (tTup (tCons (tC (.str "rounds")) (tCons (tVar 12) (tCons (tVar 13) (tCons (tVar 11) tNil))))) tNil)))))) (tIfS (tAnd (tTest (tOp rEq (tVar 9) (tC (.int 6)))) (tTest (tOp (rI0 fun i j => .bl (decide (j < i))) (tVar 6) (tC (.int 0))))) (tSeq (tAsg (tCall (sp__law_perhaps T) [] E0 (tCons (tVar 0) (tCons (tVar 2) tNil))) (gName 11))
  (tSeq (tAsg (tCall sp' [] E0 (tCons (tVar 0) (tCons (tVar 1) (tCons (tVar 2) (tCons (tOp (rI0 fun i j => .int (i + j)) (tC (.int 1)) (tCall (sp__law_take T) [] E0 (tCons (tVar 0) (tCons (tC (.int 2)) tNil)))) (tCons (tTup (tCons (tVar 5) (tCons (tOp (rI0 fun i j => .int (i - j)) (tVar 6) (tC (.int 1))) tNil))) tNil)))))) (gName 13))
  (tDrop (tBM K "list" rAppend (tVar 7) (tCons (tTup (tCons (tC (.str "section")) (tCons (tVar 13) (tCons (tVar 11) tNil)))) tNil))))) (tIfS (tAnd (tTest (tOp rEq (tVar 9) (tC (.int 5)))) (tTest (tOp (rNeD K) (tVar 2) (tLst tNil)))) (tSeq (tAsg (tBM0 K "list" rPop (tVar 1)) (gName 14))
  (tDrop (tBM K "list" rAppend (tVar 7) (tCons (tTup (tCons (tC (.str "check")) (tCons (tVar 14) (tCons (tCall (sp__law_condition T 2) [] E0 (tCons (tVar 0) (tCons (tVar 2) (tCons (tC (.int 2)) tNil)))) (tCons (tCall (sp__law_perhaps T) [] E0 (tCons (tVar 0) (tCons (tVar 2) tNil))) tNil))))) tNil)))) (tDrop (tBM K "list" rAppend (tVar 7) (tCons (tCall (sp__law_question T) [] E0 (tCons (tVar 0) (tCons (tBM0 K "list" rPop (tVar 1)) (tCons (tVar 2) tNil)))) tNil))))))))))
  (tRet (tVar 7))))),
(pss_cons (ps_asg (pv 4) (pg_tup rfl (pgs_cons (pg_name (i := 5) sc__law_rows.nd rfl (.inl rfl)) (pgs_cons (pg_name (i := 6) sc__law_rows.nd rfl (.inl rfl)) pgs_nil))))
  (pss_cons (ps_set (i := 7) sc__law_rows.nd rfl (.inl rfl) (pe_lst pa_nil))
  (pss_cons (ps_for PassesOwn.never rfl (pi_range1 (by rfl) T.z_range (pa_cons (pv 3) pa_nil)) (pg_name (i := 8) sc__law_rows.nd rfl (.inl rfl))
  (pss_cons (ps_set (i := 9) sc__law_rows.nd rfl (.inl rfl) (pe_call (G__law_take.mono (by omega)) hr (by rfl) T.g__law_take T.F__law_take.kp T.b__law_take .nil pass0 (pa_cons (pv 0) (pa_cons pe_int pa_nil))))
  (pss_cons (ps_setLc (i := 10) (own := [("_law_one", 15)]) (g := (gName 15)) (tt := (tAnd (tTest (tOp rEq (tOp (rIxT K) (tVar 15) (tC (.int 1))) (tC (.str "number")))) (tTest (tOp (rInD K) (tOp (rIxT K) (tVar 15) (tC (.int 2))) (tLst (tCons (tTup (tCons (tC (.int 0)) (tCons (tC (.int 0)) tNil))) (tCons (tTup (tCons (tC (.int 0)) (tCons (tC (.int 1)) tNil))) (tCons (tTup (tCons (tC (.int 0)) (tCons (tC (.int 3)) tNil))) (tCons (tTup (tCons (tC (.int 0)) (tCons (tC (.int 4)) tNil))) (tCons (tTup (tCons (tC (.int 1)) (tCons (tC (.int 4)) tNil))) tNil)))))))))) (te := (tOp (rIxT K) (tVar 15) (tC (.int 0)))) rfl sc__law_rows.nd rfl rfl (sw_true rfl rfl rfl (by decide +kernel)) (pi_list (pv 2)) (blkOk_by (N := ["_law_source_here", "_law_names_here", "_law_known", "_law_many", "_law_place", "_law_is_inside", "_law_deep", "_law_found", "_law_k", "_law_way", "_law_counts", "_law_cond", "_law_count", "_law_inner", "_law_name", "_law_one"]) (sc := defScope s__law_rows) (own := [("_law_one", 15)]) (by decide +kernel)) (fun _ _ _ _ _ => (pg_name (i := 15) sc__law_rows.nd rfl (.inl rfl))) (fun _ _ _ _ _ => (pts_one (PW.pt (pw_and (pt_cmpR op_eq (pe_ix ix_tup (pv 15) pe_int (fun _ _ => rfl)) pe_str (nomark _)) (pw_and1 (pt_cmpR (op_inD (hr65 hr)) (pe_ix ix_tup (pv 15) pe_int (fun _ _ => rfl)) (pe_lst (pa_cons (pe_tup (pa_cons pe_int (pa_cons pe_int pa_nil))) (pa_cons (pe_tup (pa_cons pe_int (pa_cons pe_int pa_nil))) (pa_cons (pe_tup (pa_cons pe_int (pa_cons pe_int pa_nil))) (pa_cons (pe_tup (pa_cons pe_int (pa_cons pe_int pa_nil))) (pa_cons (pe_tup (pa_cons pe_int (pa_cons pe_int pa_nil))) pa_nil)))))) (by rfl))))))) (fun _ _ _ _ _ => (pe_ix ix_tup (pv 15) pe_int (fun _ _ => rfl))))
  (pss_cons (ps_if (pt_cmpR (op_eqD hr.units) (pv 1) (pe_lst pa_nil) (nomark _)) (pss_one (ps_ret (pv 7))) pss_nil)
  (pss_one (ps_if (PW.pt (pw_and (pt_cmpR op_eq (pv 9) pe_int (nomark _)) (pw_and (pt_not (pt_val (pv 5))) (pw_and1 (pt_cmpR (op_neD hr.units) (pv 10) (pe_lst pa_nil) (nomark _)))))) (pss_cons (ps_set (i := 11) sc__law_rows.nd rfl (.inl rfl) (pe_call (G__law_perhaps.mono (by omega)) hr (by rfl) T.g__law_perhaps T.F__law_perhaps.kp T.b__law_perhaps .nil pass0 (pa_cons (pv 0) (pa_cons (pv 2) pa_nil))))
  (pss_cons (ps_set (i := 12) sc__law_rows.nd rfl (.inl rfl) (pe_ix ix_list (pv 10) (pe_call (G__law_take.mono (by omega)) hr (by rfl) T.g__law_take T.F__law_take.kp T.b__law_take .nil pass0 (pa_cons (pv 0) (pa_cons (pe_callB call_len_seq (by rfl) T.z_len (by decide +kernel) (pa_cons (pv 10) pa_nil)) pa_nil))) (fun _ _ => rfl)))
  (pss_cons (ps_set (i := 13) sc__law_rows.nd rfl (.inl rfl) (pe_call (G__law_rows.mono (by omega)) hr (by rfl) T.g__law_rows T.F__law_rows.kp T.b__law_rows .nil pass0 (pa_cons (pv 0) (pa_cons (pv 1) (pa_cons (pe_callTy call_list_of (by rfl) T.z_list (by decide +kernel) (pa_cons (pv 2) pa_nil)) (pa_cons (pe_op op_add pe_int (pe_call (G__law_take.mono (by omega)) hr (by rfl) T.g__law_take T.F__law_take.kp T.b__law_take .nil pass0 (pa_cons (pv 0) (pa_cons pe_int pa_nil)))) (pa_cons (pe_tup (pa_cons pe_bl (pa_cons (pv 6) pa_nil))) pa_nil)))))))
  (pss_one (ps_expr (pe_bm PySem.F.plainAttrs_list PySem.F.slot_list_append PySem.F.type_list_append mt_append (pv 7) (pa_cons (pe_tup (pa_cons pe_str (pa_cons (pv 12) (pa_cons (pv 13) (pa_cons (pv 11) pa_nil))))) pa_nil))))))) (pss_one (ps_if (PW.pt (pw_and (pt_cmpR op_eq (pv 9) pe_int (nomark _)) (pw_and1 (pt_cmpR op_gt (pv 6) pe_int (nomark _))))) (pss_cons (ps_set (i := 11) sc__law_rows.nd rfl (.inl rfl) (pe_call (G__law_perhaps.mono (by omega)) hr (by rfl) T.g__law_perhaps T.F__law_perhaps.kp T.b__law_perhaps .nil pass0 (pa_cons (pv 0) (pa_cons (pv 2) pa_nil))))
  (pss_cons (ps_set (i := 13) sc__law_rows.nd rfl (.inl rfl) (pe_call (G__law_rows.mono (by omega)) hr (by rfl) T.g__law_rows T.F__law_rows.kp T.b__law_rows .nil pass0 (pa_cons (pv 0) (pa_cons (pv 1) (pa_cons (pv 2) (pa_cons (pe_op op_add pe_int (pe_call (G__law_take.mono (by omega)) hr (by rfl) T.g__law_take T.F__law_take.kp T.b__law_take .nil pass0 (pa_cons (pv 0) (pa_cons pe_int pa_nil)))) (pa_cons (pe_tup (pa_cons (pv 5) (pa_cons (pe_op op_sub (pv 6) pe_int) pa_nil))) pa_nil)))))))
  (pss_one (ps_expr (pe_bm PySem.F.plainAttrs_list PySem.F.slot_list_append PySem.F.type_list_append mt_append (pv 7) (pa_cons (pe_tup (pa_cons pe_str (pa_cons (pv 13) (pa_cons (pv 11) pa_nil)))) pa_nil)))))) (pss_one (ps_if (PW.pt (pw_and (pt_cmpR op_eq (pv 9) pe_int (nomark _)) (pw_and1 (pt_cmpR (op_neD hr.units) (pv 2) (pe_lst pa_nil) (nomark _))))) (pss_cons (ps_set (i := 14) sc__law_rows.nd rfl (.inl rfl) (pe_bm0 PySem.F.plainAttrs_list PySem.F.slot_list_pop PySem.F.type_list_pop mt_pop (pv 1)))
  (pss_one (ps_expr (pe_bm PySem.F.plainAttrs_list PySem.F.slot_list_append PySem.F.type_list_append mt_append (pv 7) (pa_cons (pe_tup (pa_cons pe_str (pa_cons (pv 14) (pa_cons (pe_call (G__law_condition.mono (by omega)) hr (by rfl) T.g__law_condition T.F__law_condition.kp T.b__law_condition .nil pass0 (pa_cons (pv 0) (pa_cons (pv 2) (pa_cons pe_int pa_nil)))) (pa_cons (pe_call (G__law_perhaps.mono (by omega)) hr (by rfl) T.g__law_perhaps T.F__law_perhaps.kp T.b__law_perhaps .nil pass0 (pa_cons (pv 0) (pa_cons (pv 2) pa_nil))) pa_nil))))) pa_nil))))) (pss_one (ps_expr (pe_bm PySem.F.plainAttrs_list PySem.F.slot_list_append PySem.F.type_list_append mt_append (pv 7) (pa_cons (pe_call (G__law_question.mono (by omega)) hr (by rfl) T.g__law_question T.F__law_question.kp T.b__law_question .nil pass0 (pa_cons (pv 0) (pa_cons (pe_bm0 PySem.F.plainAttrs_list PySem.F.slot_list_pop PySem.F.type_list_pop mt_pop (pv 1)) (pa_cons (pv 2) pa_nil)))) pa_nil))))))))))))))
  (pss_one (ps_ret (pv 7)))))), ?_⟩
    obtain ⟨t, x, y, rfl, ht, hx, hy⟩ := dp_t2 hpl
    cases hx
    cases hy
    refine ⟨.ref t, rfl, g_tup2 (st_mono (offS_same _ _) ht) ?_⟩
    refine w_new fun f nf => ?_
    have nfS := rs.kn.nin nf
    have lp0 : Lp K S H r nm k f ns.length D 0 (upd H f (.lst [])) vs ds ns [] [] := ⟨rs.more nf, upd_same, .nil, offS_cons nf (same_new nf), fun a ha _ => upd_off ha nfS, Nat.le_refl _, Nat.le_refl _, (fun _ h => by cases h), nfS, rs.kn.mr, rs.mn, rs.kn.mk_⟩
    have done : ∀ {H1 vs1 ds1 ns1 acc rows i}, i ≤ many → Lp K S H r nm k f ns.length D i H1 vs1 ds1 ns1 acc rows → Q (.ref f) H1 := fun {H1 vs1 ds1 ns1 acc rows i} hi lp => q _ rows H1 vs1 ds1 ns1 ⟨lp.same.trans (offS_sub fun a ha => List.mem_cons_of_mem _ ha), lp.oth⟩ (lp.rs.less lp.mr lp.mn lp.mk_) lp.le (Nat.le_trans lp.len hi) lp.fine (.lst (SqL.of (offS_some.mpr ⟨lp.nf, lp.at_f⟩)) (dpAll_up (offS_sub fun a ha => List.mem_cons_of_mem _ ha) lp.dp))
    refine w_forR (K := K) (R := lp0.rs.kn.rg) (A := fun n => n = (many : Int)) (x_vi rfl rfl) lp0.rs.kn.I (fun m hm => by omega) (fun _ n i σ' H' => ∃ (vs : List V) (ds : List PyData) (ns1 : List Str) (acc : List V) (rows : List Rw) (y8 y9 y10 y11 y12 y13 y14 : Option V), Lp K S H r nm k f ns.length D i H' vs ds ns1 acc rows ∧ σ' = [some (.ref r), some (.ref nm), some (.ref k), some (.int (many : Int)), some (.ref t), some (.bl ins), some (.int (deep : Int)), some (.ref f), y8, y9, y10, y11, y12, y13, y14, none])
      (fun H1 n hn g1 => ⟨vs, ds, ns, [], [], _, _, _, _, _, _, _, lp0.go g1, rfl⟩) (fun H1 n hn g1 i σ' H' hi p => ?_) (fun H1 n hn g1 σ' H' p => ?_)
    · obtain ⟨vs, ds, ns1, acc, rows, y8, y9, y10, y11, y12, y13, y14, lp, rfl⟩ := p
      have him : i < many := by
        have : n = (many : Int) := hn
        omega
      have hi100 : i ≤ 100 := by omega
      have kn := lp.rs.kn
      have dr : Drw kn.rg r := kn.drw
      have nt : ns.length ≤ ns.length := Nat.le_refl _
      refine w_asg (R := kn.rg) (D := Dt K (isI fun k => 0 ≤ k ∧ k < 8)) (x_draw (N := fun n => n = 8) dr (i := 0) rfl (x_i rfl) (fun n hn => by omega) (fun n k hn h0 h1 => ⟨h0, by omega⟩)) kn.I fun v H2 g2 hv => ?_
      obtain ⟨way, rfl, _⟩ := dp_int_of hv
      have g2 : Go lp.rs.kn.rg H' H2 := g2
      refine w_asg (R := kn.rg) (D := Dt K strsP) (x_counts rfl rfl (jk := 2) rfl (fun H3 h3 => kn.stay h3) (dpAll_up g2.same kn.dp) (by have := kn.len; omega) kn.kn) g2.inv fun cv H3 g3 hcv => ?_
      obtain ⟨cd, ⟨css, hcl, hcs, rfl⟩, cdp⟩ := hcv
      have g3 : Go lp.rs.kn.rg H2 H3 := g3
      have g03 := g2.trans g3
      have stc : wipe [some (V.ref r), some (V.ref nm), some (V.ref k), some (V.int (many : Int)), some (V.ref t), some (V.bl ins), some (V.int (deep : Int)), some (V.ref f), some (V.int (i : Int)), some (V.int way), y10, y11, y12, y13, y14, none] [15] = [some (V.ref r), some (V.ref nm), some (V.ref k), some (V.int (many : Int)), some (V.ref t), some (V.bl ins), some (V.int (deep : Int)), some (V.ref f), some (V.int (i : Int)), some (V.int way), y10, y11, y12, y13, y14, none] := rfl
      refine w_when (R := kn.rg) (xt_nnil lp.rs (j := 1) rfl g03) g3.inv (fun H4 g4 _ => ?_) (fun H4 g4 hb => ?_)
      · exact s_ret (ev_var rfl) fun H5 e5 => done (i := i) (by omega) (lp.go ((g03.trans g4).trans (Go.of g4.inv e5)))
      have hne : ns1 ≠ [] := fun z => by rw [z] at hb; cases hb
      obtain ⟨ns2, nn, rfl⟩ : ∃ l x, ns1 = l ++ [x] := ⟨ns1.dropLast, ns1.getLast hne, (List.dropLast_concat_getLast hne).symm⟩
      have g4 : Go lp.rs.kn.rg H3 H4 := g4
      have lp4 := lp.go (g03.trans g4)
      have kn4 := lp4.rs.kn
      have dr4 : Drw kn4.rg r := kn4.drw
      have cdp4 : Dp K (offS (f :: S) H4) cv (.list (css.map .str)) := dp_up g4.same cdp
      have perhaps : ∀ {σ : L2.St} {H5 H6 : Hp} {vs : List V} {ds : List PyData} {r k : Addr} {S : List Addr} (kn : Kn K S H5 r k vs ds), Go kn.rg H5 H6 → σ[0]? = some (some (.ref r)) → σ[2]? = some (some (.ref k)) → EvX kn.rg (tCall (sp__law_perhaps T) [] E0 (tCons (tVar 0) (tCons (tVar 2) tNil))) σ H6 (Dt K ocP') := fun {σ H5 H6 vs ds r k S} kn g5 h0 h2 H7 g7 Q' q' => ⟨.ref r, h0, .ref k, h2, r, k, S, vs, ds, rfl, kn.go (g5.trans g7), fun v d H' f hd dp => q' v H' (kn.drw.go g7.inv f) ⟨d, hd, dp⟩⟩
      have shc : SeqAt.shaped (.list (css.map .str)) = true := shp (by simp only [PyData.canLay0]; exact (strs_lay fun s hs => (hcs s hs).2).1) (by have := (strs_lay fun s hs => (hcs s hs).2).2; simp only [PyData.depth]; omega)
      refine w_if1 (R := kn4.rg) (B := fun b => b = true → ins = false ∧ css ≠ []) (xt_and (A := fun _ => True) (B := fun b => b = true → ins = false ∧ css ≠ []) (xt_test (x_eqI (K := K) (A := fun _ => True) (B := fun _ => True) (x_vi rfl trivial) (x_i trivial) fun _ _ _ _ => trivial)) (fun _ => xt_and (A := fun b => b = !ins) (B := fun b => b = true → css ≠ []) (xt_not (A := fun b => b = ins) (xt_B (K := K) (x_var (i := 5) rfl ⟨.bool ins, ⟨ins, rfl, rfl⟩, .bl ins⟩)) fun b hb => by rw [hb]) (fun _ => xt_test (x_neD (K := K) (A := fun d => d = .list (css.map .str)) (B := fun d => d = .list []) (x_d (i := 10) rfl cdp4 rfl) (x_li ds_nil fun ds al => by cases al; rfl) fun d e hd he => by
        subst hd he
        refine ⟨shc, shp_nil, fun z => ?_⟩
        rw [eqv_nil] at z
        rintro rfl
        cases z)) (fun h z => by cases z) (fun b h hb z => ⟨(by cases ins; rfl; cases h), hb z⟩)) (fun _ z => by cases z) (fun b _ hb z => hb z)) kn4.I (fun H5 g5 hb => ?_) (fun H5 g5 _ => ?_)
      · -- rounds
        obtain ⟨rfl, hcne⟩ := hb rfl
        have hD' : D = deep + 1 := hD
        have lp5 := lp4.go g5
        have kn5 := lp5.rs.kn
        refine w_asg (R := kn5.rg) (D := Dt K ocP') (perhaps kn5 (Go.refl kn5.I) rfl rfl) kn5.I fun ov H6 g6 hov => ?_
        obtain ⟨od, hod, odp⟩ := hov
        obtain ⟨oc, hoc, rfl⟩ := oc_of hod
        have lp6 := lp5.go g6
        have kn6 := lp6.rs.kn
        have cdp6 : Dp K (offS (f :: S) H6) cv (.list (css.map .str)) := dp_up (Same.trans g5.same g6.same) cdp4
        refine w_asg (R := kn6.rg) (D := Dt K (isS s30)) (x_pick (P := isS s30) kn6.drw (i := 0) rfl (j := 10) rfl cdp6 (by simpa using hcne) (by rw [List.length_map]; omega) (fun x hx => by obtain ⟨s, hs1, rfl⟩ := List.mem_map.mp hx; exact ⟨s, rfl, hcs s hs1⟩)) kn6.I fun nv H7 g7 hnv => ?_
        obtain ⟨cn, rfl, hcn⟩ := dp_str_of hnv
        have lp7 := lp6.go g7
        have odp7 : Dp K (offS (f :: S) H7) ov (ocP oc) := dp_up g7.same odp
        refine ⟨.ref r, rfl, .ref nm, rfl, .ref k, rfl, ?_⟩
        refine ⟨k, vs, rfl, .inl (SqL.of lp7.rs.kn.at_), fun p np => ?_⟩
        have rsc := lp7.rs.copy np
        have dm : DpAll K (offS (p :: f :: S) (upd H7 p (.lst vs))) vs ds := rsc.kn.dp
        have xm : EvX rsc.kn.rg (tOp (rI0 fun i j => V.int (i + j)) (tC (V.int 1)) (tCall (sp__law_take T) [] E0 (tCons (tVar 0) (tCons (tC (V.int 3)) tNil)))) [some (V.ref r), some (V.ref nm), some (V.ref k), some (V.int (many : Int)), some (V.ref t), some (V.bl false), some (V.int (deep : Int)), some (V.ref f), some (V.int (i : Int)), some (V.int way), some cv, some ov, some (.str cn), y13, y14, none] (upd H7 p (.lst vs)) (Dt K (isI fun n => 1 ≤ n ∧ n ≤ 3)) := x_I0 (A := fun n => n = 1) (B := fun n => 0 ≤ n ∧ n < 3) (x_i rfl) (x_draw (N := fun n => n = 3) rsc.kn.drw (i := 0) rfl (x_i rfl) (fun n hn => by omega) (fun n k hn h0 h1 => ⟨h0, by omega⟩)) fun a b ha hb => ⟨_, rfl, by omega, by omega⟩
        refine xm _ (Go.refl rsc.kn.I) _ fun mv H8 g8 hmv => ?_
        obtain ⟨m, rfl, hm1, hm2⟩ := dp_int_of hmv
        obtain ⟨m', rfl⟩ := Int.eq_ofNat_of_zero_le (show 0 ≤ m by omega)
        have xp : EvX rsc.kn.rg (tTup (tCons (tC (.bl true)) (tCons (tVar 6) tNil))) [some (V.ref r), some (V.ref nm), some (V.ref k), some (V.int (many : Int)), some (V.ref t), some (V.bl false), some (V.int (deep : Int)), some (V.ref f), some (V.int (i : Int)), some (V.int way), some cv, some ov, some (.str cn), y13, y14, none] H8 (Dt K (fun d => d = .tuple [.bool true, .int (deep : Int)])) := x_tu (ds_cons (x_is (P := fun d => d = .bool true) (fun _ => .bl true) rfl) (ds_cons (x_vi (A := fun n => n = (deep : Int)) rfl rfl) ds_nil)) fun ds' al => by
          obtain ⟨a, b, rfl, rfl, ⟨_, rfl, rfl⟩⟩ := al2 al
          rfl
        refine xp _ (Go.refl g8.inv) _ fun pv H9 g9 ⟨pd, hpd, pdp⟩ => ?_
        subst hpd
        have g89 := g8.trans g9
        refine hc deep hD' _ _ _ _ ⟨r, nm, p, p :: f :: S, vs, ds, ns2 ++ [nn], m', pv, true, deep, rfl, rsc.go g89, by omega, pdp, by simp, fun iv irows H10 vs2 ds2 ns3 ef rs2 le hrl hfine idp => ?_⟩
        have ef' : Eff (p :: f :: S) [r, nm, p] (upd H7 p (.lst vs)) H10 := (Eff.fr rsc.kn.mr (by simp) rsc.kn.dm (draw_fr g89)).trans ef
        obtain ⟨rs10, ef10⟩ := lp7.rs.back np ef' rs2 le
        have lp10 := lp7.eff ef10 rs10 le
        have idp10 : Dp K (offS (f :: S) H10) iv (.list (rowsP irows)) := dp_up (offS_sub fun a ha => List.mem_cons_of_mem _ ha) idp
        refine lp10.w_app1 (Dd := Dt K (fun d => d = (Rw.rnd cn irows oc).py)) hi100 (j := 7) rfl (x_tu (ds_cons (x_s (A := fun s => s = "rounds") rfl) (ds_cons (x_vs (A := fun s => s = cn) rfl rfl) (ds_cons (x_d (P := fun d => d = .list (rowsP irows)) (i := 13) rfl idp10 rfl) (ds_cons (x_d (P := fun d => d = ocP oc) (i := 11) rfl (dp_up ef10.same odp7) rfl) ds_nil)))) fun ds' al => by
          obtain ⟨a, b, c, d, rfl, ⟨_, rfl, rfl⟩, ⟨_, rfl, rfl⟩, rfl, rfl⟩ := al4 al
          simp only [Rw.py]) (fun v H1 ⟨d, hd, dp⟩ => ⟨.rnd cn irows oc, ?_, by rw [← hd]; exact dp⟩) fun H11 acc rows lp11 => ⟨_, _, _, _, _, _, _, _, _, _, _, _, lp11, rfl⟩
        have fr := fine_rows hfine (by omega)
        exact ⟨⟨s30_ok hcn, fr.1, hoc⟩, by show deps irows + 1 ≤ D; omega, by show cnts irows + 1 ≤ cb D; rw [hD']; exact fr.2.2.1, fr.2.2.2⟩
      have lp5 := lp4.go g5
      have kn5 := lp5.rs.kn
      refine w_if1 (R := kn5.rg) (B := fun b => b = true → 0 < deep) (xt_and (A := fun _ => True) (B := fun b => b = true → 0 < deep) (xt_test (x_eqI (K := K) (A := fun _ => True) (B := fun _ => True) (x_vi rfl trivial) (x_i trivial) fun _ _ _ _ => trivial)) (fun _ => xt_test (x_cmpI (K := K) (p := fun i j => decide (j < i)) (A := fun n => n = (deep : Int)) (B := fun n => n = 0) (x_vi rfl rfl) (x_i rfl) fun a b ha hb z => by have := of_decide_eq_true z; omega)) (fun _ z => by cases z) (fun b _ hb z => hb z)) kn5.I (fun H6 g6 hb => ?_) (fun H6 g6 _ => ?_)
      · -- section
        obtain ⟨deep', rfl⟩ := Nat.exists_eq_succ_of_ne_zero (Nat.pos_iff_ne_zero.mp (hb rfl))
        have hD' : D = (deep' + (if ins then 0 else 1)) + 1 := by rw [hD]; omega
        have lp6 := lp5.go g6
        have kn6 := lp6.rs.kn
        refine w_asg (R := kn6.rg) (D := Dt K ocP') (perhaps kn6 (Go.refl kn6.I) rfl rfl) kn6.I fun ov H7 g7 hov => ?_
        obtain ⟨od, hod, odp⟩ := hov
        obtain ⟨oc, hoc, rfl⟩ := oc_of hod
        have lp7 := lp6.go g7
        have kn7 := lp7.rs.kn
        refine ⟨.ref r, rfl, .ref nm, rfl, .ref k, rfl, ?_⟩
        have xm : EvX kn7.rg (tOp (rI0 fun i j => V.int (i + j)) (tC (V.int 1)) (tCall (sp__law_take T) [] E0 (tCons (tVar 0) (tCons (tC (V.int 2)) tNil)))) [some (V.ref r), some (V.ref nm), some (V.ref k), some (V.int (many : Int)), some (V.ref t), some (V.bl ins), some (V.int ((deep' + 1 : Nat) : Int)), some (V.ref f), some (V.int (i : Int)), some (V.int way), some cv, some ov, y12, y13, y14, none] H7 (Dt K (isI fun n => 1 ≤ n ∧ n ≤ 2)) := x_I0 (A := fun n => n = 1) (B := fun n => 0 ≤ n ∧ n < 2) (x_i rfl) (x_draw (N := fun n => n = 2) kn7.drw (i := 0) rfl (x_i rfl) (fun n hn => by omega) (fun n k hn h0 h1 => ⟨h0, by omega⟩)) fun a b ha hb => ⟨_, rfl, by omega, by omega⟩
        refine xm _ (Go.refl kn7.I) _ fun mv H8 g8 hmv => ?_
        obtain ⟨m, rfl, hm1, hm2⟩ := dp_int_of hmv
        obtain ⟨m', rfl⟩ := Int.eq_ofNat_of_zero_le (show 0 ≤ m by omega)
        have xp : EvX kn7.rg (tTup (tCons (tVar 5) (tCons (tOp (rI0 fun i j => V.int (i - j)) (tVar 6) (tC (V.int 1))) tNil))) [some (V.ref r), some (V.ref nm), some (V.ref k), some (V.int (many : Int)), some (V.ref t), some (V.bl ins), some (V.int ((deep' + 1 : Nat) : Int)), some (V.ref f), some (V.int (i : Int)), some (V.int way), some cv, some ov, y12, y13, y14, none] H8 (Dt K (fun d => d = .tuple [.bool ins, .int (deep' : Int)])) := x_tu (ds_cons (x_var (D := Dt K (fun d => d = .bool ins)) (i := 5) rfl ⟨.bool ins, rfl, .bl ins⟩) (ds_cons (x_I0 (P := isI fun n => n = (deep' : Int)) (A := fun n => n = ((deep' + 1 : Nat) : Int)) (B := fun n => n = 1) (x_vi rfl rfl) (x_i rfl) fun a b ha hb => ⟨_, rfl, by omega⟩) ds_nil)) fun ds' al => by
          obtain ⟨a, b, rfl, rfl, ⟨_, rfl, rfl⟩⟩ := al2 al
          rfl
        refine xp _ (Go.refl g8.inv) _ fun pv H9 g9 ⟨pd, hpd, pdp⟩ => ?_
        subst hpd
        have g89 := g8.trans g9
        refine hc _ hD' _ _ _ _ ⟨r, nm, k, f :: S, vs, ds, ns2 ++ [nn], m', pv, ins, deep', rfl, lp7.rs.go g89, by omega, pdp, rfl, fun iv irows H10 vs2 ds2 ns3 ef rs2 le hrl hfine idp => ?_⟩
        have lp10 := (lp7.go g89).eff ef rs2 le
        have odp10 : Dp K (offS (f :: S) H10) ov (ocP oc) := dp_up (Same.trans g89.same ef.same) odp
        refine lp10.w_app1 (Dd := Dt K (fun d => d = (Rw.sec irows oc).py)) hi100 (j := 7) rfl (x_tu (ds_cons (x_s (A := fun s => s = "section") rfl) (ds_cons (x_d (P := fun d => d = .list (rowsP irows)) (i := 13) rfl idp rfl) (ds_cons (x_d (P := fun d => d = ocP oc) (i := 11) rfl odp10 rfl) ds_nil))) fun ds' al => by
          obtain ⟨a, b, c, rfl, ⟨_, rfl, rfl⟩, rfl, rfl⟩ := al3 al
          simp only [Rw.py]) (fun v H1 ⟨d, hd, dp⟩ => ⟨.sec irows oc, ?_, by rw [← hd]; exact dp⟩) fun H11 acc rows lp11 => ⟨_, _, _, _, _, _, _, _, _, _, _, _, lp11, rfl⟩
        have fr := fine_rows hfine (by omega)
        exact ⟨⟨fr.1, hoc⟩, by show deps irows + 1 ≤ D; omega, by show cnts irows + 1 ≤ cb D; rw [hD']; exact fr.2.2.1, fr.2.2.2⟩
      have lp6 := lp5.go g6
      have kn6 := lp6.rs.kn
      have popped : ∀ {H7 : Hp} {vs ds}, (lp7 : Lp K S H r nm k f ns.length D i H7 vs ds (ns2 ++ [nn]) acc rows) → Lp K S H r nm k f ns.length D i (upd H7 nm (.lst (ns2.map V.str))) vs ds ns2 acc rows := fun {H7 vs ds} lp7 => lp7.eff (Eff.put lp7.rs.mn (by simp)) lp7.rs.pop (by simp)
      have nn30 : s30 nn := lp6.rs.gs nn (by simp)
      have lst : ∀ {H7 : Hp} {vs ds}, (lp7 : Lp K S H r nm k f ns.length D i H7 vs ds (ns2 ++ [nn]) acc rows) → ∀ {σ : L2.St} {Q' : VK}, σ[1]? = some (some (.ref nm)) → Q' (.str nn) (upd H7 nm (.lst (ns2.map V.str))) → tBM0 K "list" rPop (tVar 1) σ H7 Q' := fun {H7 vs ds} lp7 {σ Q'} h1 q' => ⟨.ref nm, h1, .inl ⟨rfl, _, SqL.of lp7.rs.at_n⟩, nm, _, .str nn, rfl, rfl, lp7.rs.at_n, by simp, by
        have e : ((ns2 ++ [nn]).map V.str).dropLast = ns2.map V.str := by simp
        rw [e]
        exact q'⟩
      refine w_if1 (R := kn6.rg) (B := fun b => b = true → ds ≠ []) (xt_and (A := fun _ => True) (B := fun b => b = !ds.isEmpty) (xt_test (x_eqI (K := K) (A := fun _ => True) (B := fun _ => True) (x_vi rfl trivial) (x_i trivial) fun _ _ _ _ => trivial)) (fun _ => xt_kne kn6 (j := 2) rfl (Go.refl kn6.I)) (fun _ z => by cases z) (fun b _ hb z => by rintro rfl; rw [z] at hb; cases hb)) kn6.I (fun H7 g7 hb => ?_) (fun H7 g7 _ => ?_)
      · -- check
        have dne := hb rfl
        have lp7 := lp6.go g7
        refine lst lp7 rfl ?_
        have lp8 := popped lp7
        have kn8 := lp8.rs.kn
        refine lp8.w_app1 (Dd := Dt K (fun d => ∃ rw : Rw, fineR D rw ∧ d = rw.py)) hi100 (j := 7) rfl (x_tu (ds_cons (x_s (A := fun s => s = "check") rfl) (ds_cons (x_vs (A := fun s => s = nn) rfl rfl) (ds_cons (P := cnP 2) (fun H9 g9 Q' q' => ⟨.ref r, rfl, .ref k, rfl, r, k, f :: S, vs, ds, rfl, kn8.go g9, dne, fun v d H' f hd dp => q' v H' (kn8.drw.go g9.inv f) ⟨d, hd, dp⟩⟩) (ds_cons (perhaps kn8 (Go.refl kn8.I) rfl rfl) ds_nil)))) fun ds' al => by
          obtain ⟨a, b, c, d, rfl, ⟨_, rfl, rfl⟩, ⟨_, rfl, rfl⟩, ⟨c', h1, h2, rfl⟩, hod⟩ := al4 al
          obtain ⟨oc, hoc, rfl⟩ := oc_of hod
          exact ⟨.check _ c' oc, ⟨⟨s30_ok nn30, h1, Nat.le_trans h2 (by decide), hoc⟩, by simp [Rw.dep], Nat.le_trans (by simp [Rw.cnt, cb]) (cb_mono (Nat.zero_le D)), by simp [Rw.wid]⟩, by simp only [Rw.py]⟩) (fun v H1 ⟨d, ⟨rw, h1, h2⟩, dp⟩ => ⟨rw, h1, by rw [← h2]; exact dp⟩) fun H11 acc rows lp11 => ⟨_, _, _, _, _, _, _, _, _, _, _, _, lp11, rfl⟩
      · -- a question
        have lp7 := lp6.go g7
        refine ⟨.ref f, rfl, .inl ⟨rfl, acc, SqL.of lp7.at_f⟩, .ref r, rfl, lst lp7 rfl ?_⟩
        have lp8 := popped lp7
        refine ⟨.ref k, rfl, r, k, f :: S, vs, ds, nn, rfl, lp8.rs.kn, nn30, by have := lp8.rs.len; omega, fun v rw H9 x dx ef kn9 hrw vdp => ?_⟩
        have nm9 : H9 nm = some (.lst (ns2.map V.str)) := (ef.oth nm lp8.rs.mn (by simp [lp8.rs.nr, lp8.rs.nk])).trans lp8.rs.at_n
        have rs9 : Rs K (f :: S) H9 r nm k (vs ++ [x]) (ds ++ [dx]) ns2 := ⟨kn9, lp8.rs.mn, lp8.rs.nr, lp8.rs.nk, nm9, lp8.rs.gs, by have := lp7.rs.len; simp at this ⊢; omega⟩
        have lp9 := lp8.eff (ef.wider (by simp)) rs9 (Nat.le_refl _)
        refine ⟨f, acc, v, rfl, rfl, lp9.at_f, ?_, ⟨_, _, _, _, _, _, _, _, _, _, _, _, lp9.app vdp (hrw.mono (Nat.zero_le D)), rfl⟩⟩
        have e1 := dpAll_len lp9.dp
        rw [rowsP_len] at e1
        have := lp9.len
        exact Nat.lt_of_le_of_lt (by omega : acc.length ≤ 100) (by decide)
    · obtain ⟨vs, ds, ns1, acc, rows, y8, y9, y10, y11, y12, y13, y14, lp, rfl⟩ := p
      refine s_ret (ev_var rfl) fun H2 e2 => ?_
      have : n = (many : Int) := hn
      exact done (i := n.toNat) (by omega) (lp.go (Go.of lp.rs.kn.I e2))
theorem ok__law_rows (T : Txt K mg) : ∀ D, FnOk P w K mg base CX0 (D + 8) T.a__law_rows T.d__law_rows ["_law_source_here", "_law_names_here", "_law_known", "_law_many", "_law_place"] (sp__law_rows T D)
  | 0 => rows_body T (fun _ _ _ _ => False) 0 0 (ok_none fun _ _ _ _ h => h) fun m' e => by omega
  | m + 1 => rows_body T (sp__law_rows T m) (m + 1) (m + 1) (ok__law_rows T m) fun m' e vs H Q E h => by
    have : m' = m := by omega
    subst this
    exact h
end SF
/-! Defs from data to data, with draws and without. -/
namespace GK
open PySem PySem.Spec PyProof.Rows L2 LamX Evl
/-- a def of data, without draws -/
def spP (K : PySem.W.Frag) (Pre : List PyData → Prop) (Post : List PyData → PyData → Prop) : Sp := fun vs H Q _ => ∃ (S : List Addr) (ds : List PyData), (∀ a ∈ S, ∃ o, H a = some o) ∧ DpAll K (offS S H) vs ds ∧ Pre ds ∧ ∀ v d H', Same H H' → Post ds d → Dp K (offS S H') v d → Q v H'
/-- a def that draws, of data -/
def spF (K : PySem.W.Frag) (Pre : List PyData → Prop) (Post : List PyData → PyData → Prop) : Sp := fun vs H Q _ => ∃ (r : Addr) (xs : List V) (S : List Addr) (ds : List PyData), vs = .ref r :: xs ∧ r ∈ S ∧ (∀ a ∈ S, ∃ o, H a = some o) ∧ Rng H r ∧ DpAll K (offS S H) xs ds ∧ Pre ds ∧ ∀ v d H', Fr r H H' → Post ds d → Dp K (offS S H') v d → Q v H'
section
variable {K : PySem.W.Frag} {R : Rg} {σ : L2.St} {H H' H0 H1 : Hp} {ta : TA} {E : Ends} {tz : TS} {D : Pd} {P : PyData → Prop} {r p : Addr} {i : Nat} {Pre : List PyData → Prop} {Post : List PyData → PyData → Prop} {Ps : List (PyData → Prop)}
theorem x_drawn (d : Drw R r) (hi : σ[i]? = some (some (.ref r))) (ha : EvDs K R ta σ H Ps) (h : ∀ ds, Al Ps ds → Pre ds) (hq : ∀ ds d, Al Ps ds → Post ds d → P d) : EvX R (tCall (spF K Pre Post) [] E0 (tCons (tVar i) ta)) σ H (Dt K P) := fun H1 g Q q => ⟨.ref r, hi, ha H1 g _ fun vs ds H2 g2 al hd => by
  refine ⟨r, vs ++ [], R.S, ds, rfl, d.mem, fun a ha => R.dom g2.inv a ha, d.rng g2.inv, by rw [List.append_nil]; exact hd, h ds al, fun v e H' f hp dp => q v H' (g2.trans (d.go g2.inv f)) ⟨e, hq ds e al hp, dp⟩⟩⟩
end
section
variable {X : Cx} {CX : CXT} {k n m : Nat} {f C : Addr} {fd : FuncData} {ps ks : List Str} {sp : Sp} {E : XK} {x : Str} {p pos : Pos} {e : Expr} {es : List Expr} {kws : List Keyword} {t tk : TA} {g : List Value → List Value → List Value} {gV : List V → List V → List V}
/-- the number of keywords told -/
theorem pe_makeKm (M : Mk X.K C f) (F : FnOk X.prog X.w X.K X.mg X.base CX k f fd ps sp) (hr : Room (k + 1) X.A) (hg : Gl X x) (hm : X.mg x = some (.ref C)) (hb : KBn X.K fd ps (n + 1) ks g gV) (hx : Passes CX X E) (ha : PA X (e :: es) t) (hkw : PK X kws tk) (hl : ks.length = m := by rfl)
    (hall : (backToKw pos (keywordEach kws X.env)).all (·.1.isSome) = true := by rfl) (hks : (backToKw pos (keywordEach kws X.env)).filterMap (·.1) = ks := by rfl) (hdb : (x == ("__debug__" : Str)) = false := by decide)
    (he : starEach (e :: es) X.env = (false, eval e X.env) :: starEach es X.env := by rfl) (hpl : ((backTo pos (starEach (e :: es) X.env)).any (·.1) || (backToKw pos (keywordEach kws X.env)).any (·.1.isNone)) = false := by rfl) :
    PE X (.Call (.Name x p) (e :: es) kws pos) (tMakeK C n m sp gV E t tk) := by
  subst hl
  exact pe_makeK M F hr hg hm hb hx ha hkw hall hks hdb he hpl
end
end GK
namespace SF
open PySem PySem.Spec PyProof.Rows L2 GK Evl LamX
variable {P : Program} {w : World} {K : PySem.W.Frag} {mg : Str → Option Value} {base : Heap}
/-! ### _law_form -/
def drawnP (d : PyData) : Prop := ∃ rows, d = .list (rowsP rows) ∧ rows.length ≤ 50 ∧ ∀ rw ∈ rows, fineR 3 rw
abbrev sp__law_form (T : Txt K mg) : Sp := spF K (fun ds => ∃ n : Int, ds = [.int n] ∧ 1 ≤ n ∧ n ≤ 50) (fun _ d => drawnP d)
theorem ok__law_form (T : Txt K mg) : FnOk P w K mg base CX0 12 T.a__law_form T.d__law_form ["_law_source_here", "_law_many"] (sp__law_form T) := by
  have G__law_take : FnOk P w K mg base CX0 1 T.a__law_take T.d__law_take ["_law_source_here", "_law_many"] (sp__law_take T) := ok__law_take T
  have G__law_names : FnOk P w K mg base CX0 2 T.a__law_names T.d__law_names ["_law_source_here", "_law_many"] (sp__law_names T) := ok__law_names T
  have G__law_rows : FnOk P w K mg base CX0 11 T.a__law_rows T.d__law_rows ["_law_source_here", "_law_names_here", "_law_known", "_law_many", "_law_place"] (sp__law_rows T 3) := ok__law_rows T 3
  refine T.F__law_form.ok sc__law_form (fun vs H Q E h => ?_) (fun cdv A outer s H vs Q E hr h => ?_)
  · obtain ⟨r, xs, S, ds, rfl, _, _, _, hd, ⟨n, rfl, _⟩, _⟩ := h
    rw [List.length_cons, dpAll_len hd]
    rfl
  · obtain ⟨r, xs, S, ds, rfl, mr, dm, hR, hd, ⟨n, rfl, hn1, hn2⟩, q⟩ := h
    cases hd with
    | cons hd t =>
    cases t
    cases hd
    refine ⟨(tSeq (tAsg (tCall (sp__law_names T) [] E0 (tCons (tVar 0) (tCons (tC (.int 12)) tNil))) (gName 2))
  (tRet (tCall (sp__law_rows T 3) [] E0 (tCons (tVar 0) (tCons (tVar 2) (tCons (tLst tNil) (tCons (tOp (rI0 fun i j => .int (i + j)) (tC (.int 1)) (tCall (sp__law_take T) [] E0 (tCons (tVar 0) (tCons (tVar 1) tNil)))) (tCons (tTup (tCons (tC (.bl false)) (tCons (tC (.int 2)) tNil))) tNil)))))))),
(pss_cons (ps_set (i := 2) sc__law_form.nd rfl (.inl rfl) (pe_call (G__law_names.mono (by omega)) hr (by rfl) T.g__law_names T.F__law_names.kp T.b__law_names .nil pass0 (pa_cons (pv 0) (pa_cons pe_int pa_nil))))
  (pss_one (ps_ret (pe_call (G__law_rows.mono (by omega)) hr (by rfl) T.g__law_rows T.F__law_rows.kp T.b__law_rows .nil pass0 (pa_cons (pv 0) (pa_cons (pv 2) (pa_cons (pe_lst pa_nil) (pa_cons (pe_op op_add pe_int (pe_call (G__law_take.mono (by omega)) hr (by rfl) T.g__law_take T.F__law_take.kp T.b__law_take .nil pass0 (pa_cons (pv 0) (pa_cons (pv 1) pa_nil)))) (pa_cons (pe_tup (pa_cons pe_bl (pa_cons pe_int pa_nil))) pa_nil))))))))), ?_⟩
    refine ⟨.ref r, rfl, r, 12, rfl, hR, by omega, fun a ss H1 f na ha hl hs => ?_⟩
    have hrH : ∃ o, H r = some o := dm r mr
    have nar : a ≠ r := fun z => by obtain ⟨o, ho⟩ := hrH; rw [← z, na] at ho; cases ho
    have naS : a ∉ S := fun z => by obtain ⟨o, ho⟩ := dm a z; rw [na] at ho; cases ho
    have dm1 : ∀ x ∈ S, ∃ o, H1 x = some o := fun x hx => by
      by_cases e : x = r
      · subst e; obtain ⟨u, b, c, z⟩ := f.rng; exact ⟨_, z⟩
      · obtain ⟨o, ho⟩ := dm x hx
        exact ⟨o, (off_some.mp (f.same x o (off_some.mpr ⟨e, ho⟩))).2⟩
    refine ⟨.ref r, rfl, .ref a, rfl, by show 0 ≤ sizeLine; decide, fun p np => ?_⟩
    have npS : p ∉ S := fun z => by obtain ⟨o, ho⟩ := dm1 p z; rw [np] at ho; cases ho
    have npa : p ≠ a := fun z => by rw [z, ha] at np; cases np
    have rs : Rs K (p :: a :: S) (upd H1 p (.lst [])) r a p [] [] ss := by
      refine ⟨⟨by simp [mr], by simp, fun z => npS (z ▸ mr), fun x hx => ?_, f.rng.up (same_new np), upd_same, .nil, (fun _ h => by cases h), by simp⟩, by simp, nar, Ne.symm npa, by rw [upd_ne (Ne.symm npa)]; exact ha, hs, by simp; omega⟩
      by_cases e : x = p
      · exact ⟨_, by rw [e]; exact upd_same⟩
      · rcases List.mem_cons.mp hx with z | z
        · exact absurd z e
        · rw [upd_ne e]
          rcases List.mem_cons.mp z with z | z
          · exact ⟨_, by rw [z]; exact ha⟩
          · exact dm1 x z
    have xm : EvX rs.kn.rg (tOp (rI0 fun i j => V.int (i + j)) (tC (V.int 1)) (tCall (sp__law_take T) [] E0 (tCons (tVar 0) (tCons (tVar 1) tNil)))) [some (V.ref r), some (V.int n), some (V.ref a)] (upd H1 p (.lst [])) (Dt K (isI fun k => 1 ≤ k ∧ k ≤ 50)) := x_I0 (A := fun n => n = 1) (B := fun k => 0 ≤ k ∧ k < n) (x_i rfl) (x_draw (N := fun k => k = n) rs.kn.drw (i := 0) rfl (x_vi rfl rfl) (fun n hn => by omega) (fun n k hn h0 h1 => ⟨h0, by omega⟩)) fun a b ha hb => ⟨_, rfl, by omega, by omega⟩
    refine xm _ (Go.refl rs.kn.I) _ fun mv H8 g8 hmv => ?_
    obtain ⟨m, rfl, hm1, hm2⟩ := dp_int_of hmv
    obtain ⟨m', rfl⟩ := Int.eq_ofNat_of_zero_le (show 0 ≤ m by omega)
    have xp : EvX rs.kn.rg (tTup (tCons (tC (.bl false)) (tCons (tC (.int 2)) tNil))) [some (V.ref r), some (V.int n), some (V.ref a)] H8 (Dt K (fun d => d = .tuple [.bool false, .int ((2 : Nat) : Int)])) := x_tu (ds_cons (x_is (P := fun d => d = .bool false) (fun _ => .bl false) rfl) (ds_cons (x_i (A := fun n => n = ((2 : Nat) : Int)) rfl) ds_nil)) fun ds' al => by
      obtain ⟨a, b, rfl, rfl, ⟨_, rfl, rfl⟩⟩ := al2 al
      rfl
    refine xp _ (Go.refl g8.inv) _ fun pv H9 g9 ⟨pd, hpd, pdp⟩ => ?_
    subst hpd
    have g89 := g8.trans g9
    refine ⟨r, a, p, p :: a :: S, [], [], ss, m', pv, false, 2, rfl, rs.go g89, by omega, pdp, rfl, fun iv irows H10 vs2 ds2 ns3 ef rs2 le hrl hfine idp => ?_⟩
    refine q iv _ H10 ⟨fun b o hb => ?_, rs2.kn.rng⟩ ⟨irows, rfl, by omega, hfine⟩ (dp_up (offS_sub fun x hx => List.mem_cons_of_mem _ (List.mem_cons_of_mem _ hx)) idp)
    obtain ⟨nb, hb⟩ := off_some.mp hb
    have h1 := (off_some.mp (f.same b o (off_some.mpr ⟨nb, hb⟩))).2
    have nba : b ≠ a := fun z => by rw [z, na] at hb; cases hb
    have nbp : b ≠ p := fun z => by rw [z, np] at h1; cases h1
    refine off_some.mpr ⟨nb, ?_⟩
    have h1' : upd H1 p (.lst []) b = some o := by rw [upd_ne nbp]; exact h1
    by_cases m : b ∈ S
    · have h9 := (off_some.mp ((draw_fr g89).same b o (off_some.mpr ⟨nb, h1'⟩))).2
      rw [ef.oth b (by simp [m]) (by simp [nb, nba, nbp])]
      exact h9
    · exact (offS_some.mp ((Same.trans g89.same ef.same) b o ((offS_some (S := p :: a :: S)).mpr ⟨by simp [m, nba, nbp], h1'⟩))).2
end SF
namespace SF
open PySem PySem.Spec PyProof.Rows L2 GK Evl LamX
variable {P : Program} {w : World} {K : PySem.W.Frag} {mg : Str → Option Value} {base : Heap}
/-! ### slices -/
section
variable {α β : Type}
theorem cut_to (xs : List α) (k : Nat) : cutG xs none (some (k : Int)) = xs.take k := by
  unfold cutG
  rw [HT.sIx_nat, HT.sIx_none, List.drop_zero, Nat.sub_zero]
  by_cases h : k ≤ xs.length
  · rw [Nat.min_eq_left h]
  · rw [Nat.min_eq_right (by omega), List.take_of_length_le (Nat.le_refl _), List.take_of_length_le (by omega)]
theorem cut_from (xs : List α) (k : Nat) : cutG xs (some (k : Int)) none = xs.drop k := by
  unfold cutG
  rw [HT.sIx_nat, HT.sIx_none]
  by_cases h : k ≤ xs.length
  · rw [Nat.min_eq_left h, List.take_of_length_le (by rw [List.length_drop]; omega)]
  · rw [Nat.min_eq_right (by omega), List.drop_of_length_le (Nat.le_refl _), List.drop_of_length_le (by omega), List.take_nil]
theorem cut_map (f : α → β) (xs : List α) (lo hi : Option Int) : cutG (xs.map f) lo hi = (cutG xs lo hi).map f := by
  unfold cutG
  rw [List.length_map, List.map_take, List.map_drop]
theorem cut_mem {xs : List α} {lo hi : Option Int} {x : α} (h : x ∈ cutG xs lo hi) : x ∈ xs := List.mem_of_mem_drop (List.mem_of_mem_take h)
end
/-! ### sizes of rows -/
structure Sz (c d l : Nat) (rows : List Rw) : Prop where
  ok : ∀ r ∈ rows, r.ok
  cnt : cnts rows ≤ c
  dep : ∀ r ∈ rows, r.dep ≤ d
  wid : ∀ r ∈ rows, r.wid ≤ l
structure Sz1 (c d l : Nat) (r : Rw) : Prop where
  ok : r.ok
  cnt : r.cnt ≤ c
  dep : r.dep ≤ d
  wid : r.wid ≤ l
theorem Sz.mono {c d l c' d' l' : Nat} {rows : List Rw} (h : Sz c d l rows) (h1 : c ≤ c') (h2 : d ≤ d') (h3 : l ≤ l') : Sz c' d' l' rows := ⟨h.ok, Nat.le_trans h.cnt h1, fun r hr => Nat.le_trans (h.dep r hr) h2, fun r hr => Nat.le_trans (h.wid r hr) h3⟩
theorem Sz1.mono {c d l c' d' l' : Nat} {r : Rw} (h : Sz1 c d l r) (h1 : c ≤ c') (h2 : d ≤ d') (h3 : l ≤ l') : Sz1 c' d' l' r := ⟨h.ok, Nat.le_trans h.cnt h1, Nat.le_trans h.dep h2, Nat.le_trans h.wid h3⟩
theorem Sz.app {c c' d l : Nat} {a b : List Rw} (h : Sz c d l a) (k : Sz c' d l b) : Sz (c + c') d l (a ++ b) := by
  refine ⟨fun r hr => ?_, by rw [cnts_append]; have := h.cnt; have := k.cnt; omega, fun r hr => ?_, fun r hr => ?_⟩ <;> rcases List.mem_append.mp hr with z | z
  · exact h.ok r z
  · exact k.ok r z
  · exact h.dep r z
  · exact k.dep r z
  · exact h.wid r z
  · exact k.wid r z
theorem Sz.one {c d l : Nat} {r : Rw} (h : Sz1 c d l r) : Sz c d l [r] := by
  refine ⟨fun x hx => ?_, by simp only [cnts]; exact h.cnt, fun x hx => ?_, fun x hx => ?_⟩ <;> (rw [List.mem_singleton.mp hx])
  · exact h.ok
  · exact h.dep
  · exact h.wid
theorem cnts_take (rows : List Rw) (k : Nat) : cnts (rows.take k) + cnts (rows.drop k) = cnts rows := by rw [← cnts_append, List.take_append_drop]
theorem Sz.sub {c d l : Nat} {rows rows' : List Rw} (h : Sz c d l rows) (hs : ∀ r ∈ rows', r ∈ rows) (hc : cnts rows' ≤ c) : Sz c d l rows' := ⟨fun r hr => h.ok r (hs r hr), hc, fun r hr => h.dep r (hs r hr), fun r hr => h.wid r (hs r hr)⟩
theorem cnts_cut (rows : List Rw) (lo hi : Option Int) : cnts (cutG rows lo hi) ≤ cnts rows := by
  unfold cutG
  have h1 := cnts_take rows (HT.sIx rows.length 0 lo)
  have h2 := cnts_take (rows.drop (HT.sIx rows.length 0 lo)) (HT.sIx rows.length rows.length hi - HT.sIx rows.length 0 lo)
  omega
theorem Sz.cut {c d l : Nat} {rows : List Rw} (h : Sz c d l rows) (lo hi : Option Int) : Sz c d l (cutG rows lo hi) := h.sub (fun r hr => cut_mem hr) (Nat.le_trans (cnts_cut rows lo hi) h.cnt)
theorem Sz.sec {c d l : Nat} {rows : List Rw} {oc : Option Cnd} (h : Sz c d l rows) (ho : ocOk oc) : Sz1 (c + 1) (d + 1) l (.sec rows oc) := ⟨⟨rowsOk_iff.mpr h.ok, ho⟩, Nat.succ_le_succ h.cnt, Nat.succ_le_succ (deps_le h.dep), wids_le.mpr h.wid⟩
theorem Sz.rnd {c d l : Nat} {rows : List Rw} {oc : Option Cnd} {n : Str} (h : Sz c d l rows) (hn : sOk n) (ho : ocOk oc) : Sz1 (c + 1) (d + 1) l (.rnd n rows oc) := ⟨⟨hn, rowsOk_iff.mpr h.ok, ho⟩, Nat.succ_le_succ h.cnt, Nat.succ_le_succ (deps_le h.dep), wids_le.mpr h.wid⟩
def rowsD (c d l : Nat) (x : PyData) : Prop := ∃ rows, x = .list (rowsP rows) ∧ Sz c d l rows
def rowD (c d l : Nat) (x : PyData) : Prop := ∃ r : Rw, x = r.py ∧ Sz1 c d l r
section
variable {R : Rg} {σ : L2.St} {H : Hp} {v : V} {j : Nat}
/-- rows[lo:hi] -/
theorem x_rcut {c d l : Nat} {rows : List Rw} {tlo thi : TO} {L U : Option Int → Prop} (hj : σ[j]? = some (some v)) (hv : Dp K (R.off H) v (.list (rowsP rows))) (hz : Sz c d l rows) (h1 : EvXO R tlo σ H L) (h2 : EvXO R thi σ H U) : EvX R (tSl (rSlL K) (tVar j) tlo thi) σ H (Dt K (rowsD c d l)) :=
  x_slL (A := fun d => d = .list (rowsP rows)) (x_d hj hv rfl) h1 h2 fun d lo hi hd _ _ => ⟨_, hd, cutG rows lo hi, by rw [rowsP_map, rowsP_map, cut_map], hz.cut lo hi⟩
theorem x_rcat {c c' d l : Nat} {ta tb : TE} (ha : EvX R ta σ H (Dt K (rowsD c d l))) (hb : EvX R tb σ H (Dt K (rowsD c' d l))) (hz : c + c' ≤ 90000) : EvX R (tOp (rCatS K) ta tb) σ H (Dt K (rowsD (c + c') d l)) :=
  x_catL ha hb fun x y ⟨a, ha, sa⟩ ⟨b, hb, sb⟩ => ⟨_, _, ha, hb, by rw [rowsP_len, rowsP_len]; have := len_cnts a; have := len_cnts b; have := sa.cnt; have := sb.cnt; omega, a ++ b, by rw [rowsP_app], sa.app sb⟩
theorem x_r1 {c d l : Nat} {te : TE} (h : EvX R te σ H (Dt K (rowD c d l))) : EvX R (tLst (tCons te tNil)) σ H (Dt K (rowsD c d l)) := x_li (ds_cons h ds_nil) fun ds al => by
  cases al with
  | cons h1 t =>
    cases t
    obtain ⟨r, rfl, hr⟩ := h1
    exact ⟨[r], by rw [rowsP, rowsP], Sz.one hr⟩
/-- row[:1] + (x,) + row[2:] -/
theorem x_swap1 {a b : PyData} {rest : List PyData} {te : TE} {A : PyData → Prop} (hj : σ[j]? = some (some v)) (hv : Dp K (R.off H) v (.tuple (a :: b :: rest))) (hz : rest.length ≤ 10) (he : EvX R te σ H (Dt K A)) : EvX R (tOp (rCatA K) (tOp (rCatA K) (tSl (rSlA K) (tVar j) tNoPart (tPart (tC (.int 1)))) (tTup (tCons te tNil))) (tSl (rSlA K) (tVar j) (tPart (tC (.int 2))) tNoPart)) σ H (Dt K fun d => ∃ x, A x ∧ d = .tuple (a :: x :: rest)) := by
  refine x_catT (A := fun d => ∃ x, A x ∧ d = .tuple [a, x]) (B := fun d => d = .tuple rest) (x_catT (A := fun d => d = .tuple [a]) (B := fun d => ∃ x, A x ∧ d = .tuple [x]) (x_slT (A := fun d => d = .tuple (a :: b :: rest)) (x_d hj hv rfl) xo_none (xo_some (K := K) (A := fun i => i = 1) (x_i rfl)) fun d lo hi hd hlo hhi => ?_) (x_tu (ds_cons he ds_nil) fun ds al => ?_) fun d e hd ⟨x, hx, he⟩ => ?_) (x_slT (A := fun d => d = .tuple (a :: b :: rest)) (x_d hj hv rfl) (xo_some (K := K) (A := fun i => i = 2) (x_i rfl)) xo_none fun d lo hi hd hlo hhi => ?_) fun d e ⟨x, hx, hd⟩ he => ?_
  · obtain ⟨_, rfl, rfl⟩ := hhi
    subst hlo
    exact ⟨_, hd, by rw [show (1 : Int) = ((1 : Nat) : Int) from rfl, cut_to]; rfl⟩
  · cases al with
    | cons h1 t => cases t; exact ⟨_, h1, rfl⟩
  · exact ⟨_, _, hd, he, by simp, x, hx, rfl⟩
  · obtain ⟨_, rfl, rfl⟩ := hlo
    subst hhi
    exact ⟨_, hd, by rw [show (2 : Int) = ((2 : Nat) : Int) from rfl, cut_from]; rfl⟩
  · exact ⟨_, _, hd, he, by simp; omega, x, hx, rfl⟩
/-- row[:2] + (..) -/
theorem x_tail2 {a b : PyData} {rest : List PyData} {ta : TA} {Ps : List (PyData → Prop)} {P : PyData → Prop} (hj : σ[j]? = some (some v)) (hv : Dp K (R.off H) v (.tuple (a :: b :: rest))) (he : EvDs K R ta σ H Ps) (hz : Ps.length ≤ 1000) (h : ∀ ds, Al Ps ds → P (.tuple (a :: b :: ds))) : EvX R (tOp (rCatA K) (tSl (rSlA K) (tVar j) tNoPart (tPart (tC (.int 2)))) (tTup ta)) σ H (Dt K P) := by
  refine x_catT (A := fun d => d = .tuple [a, b]) (B := fun d => ∃ ds, Al Ps ds ∧ d = .tuple ds) (x_slT (A := fun d => d = .tuple (a :: b :: rest)) (x_d hj hv rfl) xo_none (xo_some (K := K) (A := fun i => i = 2) (x_i rfl)) fun d lo hi hd hlo hhi => ?_) (x_tu he (fun ds al => ⟨ds, al, rfl⟩) hz) fun d e hd ⟨ds, al, he⟩ => ?_
  · obtain ⟨_, rfl, rfl⟩ := hhi
    subst hlo
    exact ⟨_, hd, by rw [show (2 : Int) = ((2 : Nat) : Int) from rfl, cut_to]; rfl⟩
  · exact ⟨_, _, hd, he, by have := al_len al; simp; omega, h ds al⟩
/-- row[i] -/
theorem x_at {ds : List PyData} {n : Nat} {P : PyData → Prop} (hj : σ[j]? = some (some v)) (hv : Dp K (R.off H) v (.tuple ds)) {e : PyData} (he : ds[n]? = some e) (hP : P e) : EvX R (tOp (rIxT K) (tVar j) (tC (.int (n : Int)))) σ H (Dt K P) := x_ixT (A := fun d => d = .tuple ds) (N := fun i => i = (n : Int)) (x_d hj hv rfl) (x_i rfl) fun d i hd hi => by subst hi; exact ⟨_, _, hd, atI_nat he, hP⟩
end
/-! ### _law_any_condition -/
def evP (d : PyData) : Prop := ∃ ss : List Str, ss ≠ [] ∧ ss.length ≤ 5000 ∧ (∀ s ∈ ss, sOk s) ∧ d = .list (ss.map .str)
theorem mem_strs {ss : List Str} {A : Str → Prop} (h : ∀ s ∈ ss, A s) : ∀ x ∈ ss.map PyData.str, isS A x := fun x hx => by obtain ⟨s, hs, rfl⟩ := List.mem_map.mp hx; exact ⟨s, rfl, h s hs⟩
abbrev sp__law_any_condition (T : Txt K mg) : Sp := spF K (fun ds => ∃ e, ds = [e] ∧ evP e) (fun _ d => cnP 1 d)
theorem ok__law_any_condition (T : Txt K mg) : FnOk P w K mg base CX0 2 T.a__law_any_condition T.d__law_any_condition ["_law_source_here", "_law_every"] (sp__law_any_condition T) := by
  have G__law_take : FnOk P w K mg base CX0 1 T.a__law_take T.d__law_take ["_law_source_here", "_law_many"] (sp__law_take T) := ok__law_take T
  refine T.F__law_any_condition.ok sc__law_any_condition (fun vs H Q E h => ?_) (fun cdv A outer s H vs Q E hr h => ?_)
  · obtain ⟨r, xs, S, ds, rfl, _, _, _, hd, ⟨n, rfl, _⟩, _⟩ := h
    rw [List.length_cons, dpAll_len hd]
    rfl
  · obtain ⟨r, xs, S, ds, rfl, mr, dm, hR, hd, ⟨n, rfl, ⟨ss, hne, hlen, hss, rfl⟩⟩, q⟩ := h
    cases hd with
    | cons hd t =>
    cases t
    refine ⟨(tSeq (tAsg (tOp (rIxL K) (tOp (rCatS K) (tVar 1) (tLst (tCons (tC (.str "nobody")) tNil))) (tCall (sp__law_take T) [] E0 (tCons (tVar 0) (tCons (tOp (rI0 fun i j => .int (i + j)) (tCB (gLenQ K) (tCons (tVar 1) tNil)) (tC (.int 1))) tNil)))) (gName 2))
  (tSeq (tAsg (tOp (rIxL K) (tLst (tCons (tTup (tCons (tC (.str "is")) (tCons (tVar 2) (tCons (tC (.str "a")) tNil)))) (tCons (tTup (tCons (tC (.str "has")) (tCons (tVar 2) (tCons (tC (.str "a")) tNil)))) (tCons (tTup (tCons (tC (.str "above")) (tCons (tVar 2) (tCons (tC (.int 0)) tNil)))) (tCons (tTup (tCons (tC (.str "below")) (tCons (tVar 2) (tCons (tC (.int 3)) tNil)))) tNil))))) (tCall (sp__law_take T) [] E0 (tCons (tVar 0) (tCons (tC (.int 4)) tNil)))) (gName 3))
  (tSeq (tAsg (tTup (tCons (tC (.str "above")) (tCons (tOp (rIxL K) (tVar 1) (tCall (sp__law_take T) [] E0 (tCons (tVar 0) (tCons (tCB (gLenQ K) (tCons (tVar 1) tNil)) tNil)))) (tCons (tC (.int 1)) tNil)))) (gName 4))
  (tRet (tOp (rIxL K) (tLst (tCons (tVar 3) (tCons (tTup (tCons (tC (.str "not")) (tCons (tVar 3) tNil))) (tCons (tTup (tCons (tC (.str "both")) (tCons (tVar 4) (tCons (tVar 3) tNil)))) (tCons (tTup (tCons (tC (.str "either")) (tCons (tVar 3) (tCons (tVar 4) tNil)))) tNil))))) (tCall (sp__law_take T) [] E0 (tCons (tVar 0) (tCons (tC (.int 4)) tNil)))))))),
(pss_cons (ps_set (i := 2) sc__law_any_condition.nd rfl (.inl rfl) (pe_ix ix_list (pe_op op_catS (pv 1) (pe_lst (pa_cons pe_str pa_nil))) (pe_call (G__law_take.mono (by omega)) hr (by rfl) T.g__law_take T.F__law_take.kp T.b__law_take .nil pass0 (pa_cons (pv 0) (pa_cons (pe_op op_add (pe_callB call_len_seq (by rfl) T.z_len (by decide +kernel) (pa_cons (pv 1) pa_nil)) pe_int) pa_nil))) (fun _ _ => rfl)))
  (pss_cons (ps_set (i := 3) sc__law_any_condition.nd rfl (.inl rfl) (pe_ix ix_list (pe_lst (pa_cons (pe_tup (pa_cons pe_str (pa_cons (pv 2) (pa_cons pe_str pa_nil)))) (pa_cons (pe_tup (pa_cons pe_str (pa_cons (pv 2) (pa_cons pe_str pa_nil)))) (pa_cons (pe_tup (pa_cons pe_str (pa_cons (pv 2) (pa_cons pe_int pa_nil)))) (pa_cons (pe_tup (pa_cons pe_str (pa_cons (pv 2) (pa_cons pe_int pa_nil)))) pa_nil))))) (pe_call (G__law_take.mono (by omega)) hr (by rfl) T.g__law_take T.F__law_take.kp T.b__law_take .nil pass0 (pa_cons (pv 0) (pa_cons pe_int pa_nil))) (fun _ _ => rfl)))
  (pss_cons (ps_set (i := 4) sc__law_any_condition.nd rfl (.inl rfl) (pe_tup (pa_cons pe_str (pa_cons (pe_ix ix_list (pv 1) (pe_call (G__law_take.mono (by omega)) hr (by rfl) T.g__law_take T.F__law_take.kp T.b__law_take .nil pass0 (pa_cons (pv 0) (pa_cons (pe_callB call_len_seq (by rfl) T.z_len (by decide +kernel) (pa_cons (pv 1) pa_nil)) pa_nil))) (fun _ _ => rfl)) (pa_cons pe_int pa_nil)))))
  (pss_one (ps_ret (pe_ix ix_list (pe_lst (pa_cons (pv 3) (pa_cons (pe_tup (pa_cons pe_str (pa_cons (pv 3) pa_nil))) (pa_cons (pe_tup (pa_cons pe_str (pa_cons (pv 4) (pa_cons (pv 3) pa_nil)))) (pa_cons (pe_tup (pa_cons pe_str (pa_cons (pv 3) (pa_cons (pv 4) pa_nil)))) pa_nil))))) (pe_call (G__law_take.mono (by omega)) hr (by rfl) T.g__law_take T.F__law_take.kp T.b__law_take .nil pass0 (pa_cons (pv 0) (pa_cons pe_int pa_nil))) (fun _ _ => rfl))))))), ?_⟩
    let R : Rg := draw S r H dm mr
    have dr : Drw R r := drw_draw
    have I0 : R.I H := draw_refl hR
    have oA : sOk "a" := ⟨by decide, by decide +kernel⟩
    refine w_asg (R := R) (D := Dt K (isS sOk)) (x_ixL (A := fun d => d = .list ((ss ++ [("nobody" : Str)]).map .str)) (N := fun k => 0 ≤ k ∧ k < ((ss ++ [("nobody" : Str)]).length : Int)) (x_catL (A := fun d => d = .list (ss.map .str)) (B := fun d => d = .list [.str "nobody"]) (x_d (i := 1) rfl hd rfl) (x_li (ds_cons (x_s (A := fun s => s = "nobody") rfl) ds_nil) fun ds al => by
        cases al with
        | cons h1 t => cases t; obtain ⟨_, rfl, rfl⟩ := h1; rfl) fun d e hd he => ⟨_, _, hd, he, by simp; omega, by simp⟩) (x_draw (N := fun n => n = (ss.length : Int) + 1) dr (i := 0) rfl (x_I0 (A := fun n => n = (ss.length : Int)) (B := fun n => n = 1) (x_len (A := fun d => d = .list (ss.map .str)) (x_d (i := 1) rfl hd rfl) fun d hd => ⟨_, .inl hd, ⟨_, rfl, by simp⟩⟩) (x_i rfl) fun a b ha hb => ⟨_, rfl, by omega⟩) (fun n hn => by omega) (fun n k hn h0 h1 => ⟨h0, by simp; omega⟩)) fun d i hd hi => ?_) I0 fun nv H1 g1 hnv => ?_
    · obtain ⟨x, h1, h2⟩ := atI_lt (xs := (ss ++ [("nobody" : Str)]).map PyData.str) hi.1 (by rw [List.length_map]; exact hi.2)
      refine ⟨_, x, hd, h1, mem_strs (fun s hs => ?_) x h2⟩
      rcases List.mem_append.mp hs with z | z
      · exact hss s z
      · rw [List.mem_singleton.mp z]; exact ⟨by decide, by decide +kernel⟩
    obtain ⟨nn, rfl, hnn⟩ := dp_str_of hnv
    refine w_asg (R := R) (D := Dt K (cnP 0)) (x_menu (n := 4) (Ps := [cnP 0, cnP 0, cnP 0, cnP 0]) (ds_cons (x_tu (ds_cons (x_s (A := fun s => s = "is") rfl) (ds_cons (x_vs (A := fun s => s = nn) rfl rfl) (ds_cons (x_s (A := fun s => s = "a") rfl) ds_nil))) fun ds al => by
        obtain ⟨a, b, c, rfl, ⟨_, rfl, rfl⟩, ⟨_, rfl, rfl⟩, ⟨_, rfl, rfl⟩⟩ := al3 al
        exact ⟨.is _ _, ⟨hnn, oA⟩, Nat.le_refl _, rfl⟩) (ds_cons (x_tu (ds_cons (x_s (A := fun s => s = "has") rfl) (ds_cons (x_vs (A := fun s => s = nn) rfl rfl) (ds_cons (x_s (A := fun s => s = "a") rfl) ds_nil))) fun ds al => by
        obtain ⟨a, b, c, rfl, ⟨_, rfl, rfl⟩, ⟨_, rfl, rfl⟩, ⟨_, rfl, rfl⟩⟩ := al3 al
        exact ⟨.has _ _, ⟨hnn, oA⟩, Nat.le_refl _, rfl⟩) (ds_cons (x_tu (ds_cons (x_s (A := fun s => s = "above") rfl) (ds_cons (x_vs (A := fun s => s = nn) rfl rfl) (ds_cons (x_i (A := fun s => s = 0) rfl) ds_nil))) fun ds al => by
        obtain ⟨a, b, c, rfl, ⟨_, rfl, rfl⟩, ⟨_, rfl, rfl⟩, ⟨_, rfl, rfl⟩⟩ := al3 al
        exact ⟨.abv _ _, hnn, Nat.le_refl _, rfl⟩) (ds_cons (x_tu (ds_cons (x_s (A := fun s => s = "below") rfl) (ds_cons (x_vs (A := fun s => s = nn) rfl rfl) (ds_cons (x_i (A := fun s => s = 3) rfl) ds_nil))) fun ds al => by
        obtain ⟨a, b, c, rfl, ⟨_, rfl, rfl⟩, ⟨_, rfl, rfl⟩, ⟨_, rfl, rfl⟩⟩ := al3 al
        exact ⟨.blw _ _, hnn, Nat.le_refl _, rfl⟩) ds_nil)))) rfl (fun ds al => al_mem al fun P hP d hd => by simp only [List.mem_cons, List.not_mem_nil, or_false, or_self] at hP; subst hP; exact hd) (x_draw (N := fun n => n = 4) dr (i := 0) rfl (x_i rfl) (fun n hn => by omega) (fun n k hn h0 h1 => ⟨h0, by omega⟩))) g1.inv fun ov H2 g2 hov => ?_
    obtain ⟨od, hod, odp⟩ := hov
    refine w_asg (R := R) (D := Dt K (cnP 0)) (x_tu (ds_cons (x_s (A := fun s => s = "above") rfl) (ds_cons (x_pick (P := isS sOk) dr (i := 0) rfl (j := 1) rfl (dp_up (g1.trans g2).same hd) (by simpa using hne) (by rw [List.length_map]; omega) (mem_strs hss)) (ds_cons (x_i (A := fun s => s = 1) rfl) ds_nil))) fun ds al => by
        obtain ⟨a, b, c, rfl, ⟨_, rfl, rfl⟩, ⟨_, rfl, hb⟩, ⟨_, rfl, rfl⟩⟩ := al3 al
        exact ⟨.abv _ _, hb, Nat.le_refl _, rfl⟩) g2.inv fun uv H3 g3 huv => ?_
    obtain ⟨ud, hud, udp⟩ := huv
    have odp3 := dp_up g3.same odp
    obtain ⟨c1, h11, h12, rfl⟩ := hod
    obtain ⟨c2, h21, h22, rfl⟩ := hud
    have z1 : c1.dep = 0 := by omega
    have z2 : c2.dep = 0 := by omega
    refine w_ret (R := R) (D := Dt K (cnP 1)) (x_menu (n := 4) (Ps := [cnP 1, cnP 1, cnP 1, cnP 1]) (ds_cons (x_d (i := 3) rfl odp3 ⟨c1, h11, by omega, rfl⟩) (ds_cons (x_tu (ds_cons (x_s (A := fun s => s = "not") rfl) (ds_cons (x_d (P := fun d => d = c1.py) (i := 3) rfl odp3 rfl) ds_nil)) fun ds al => by
        obtain ⟨a, b, rfl, ⟨_, rfl, rfl⟩, rfl⟩ := al2 al
        exact ⟨.not c1, h11, by show c1.dep + 1 ≤ 1; omega, rfl⟩) (ds_cons (x_tu (ds_cons (x_s (A := fun s => s = "both") rfl) (ds_cons (x_d (P := fun d => d = c2.py) (i := 4) rfl udp rfl) (ds_cons (x_d (P := fun d => d = c1.py) (i := 3) rfl odp3 rfl) ds_nil))) fun ds al => by
        obtain ⟨a, b, c, rfl, ⟨_, rfl, rfl⟩, rfl, rfl⟩ := al3 al
        exact ⟨.both c2 c1, ⟨h21, h11⟩, by show max c2.dep c1.dep + 1 ≤ 1; omega, rfl⟩) (ds_cons (x_tu (ds_cons (x_s (A := fun s => s = "either") rfl) (ds_cons (x_d (P := fun d => d = c1.py) (i := 3) rfl odp3 rfl) (ds_cons (x_d (P := fun d => d = c2.py) (i := 4) rfl udp rfl) ds_nil))) fun ds al => by
        obtain ⟨a, b, c, rfl, ⟨_, rfl, rfl⟩, rfl, rfl⟩ := al3 al
        exact ⟨.either c1 c2, ⟨h11, h21⟩, by show max c1.dep c2.dep + 1 ≤ 1; omega, rfl⟩) ds_nil)))) rfl (fun ds al => al_mem al fun P hP d hd => by simp only [List.mem_cons, List.not_mem_nil, or_false, or_self] at hP; subst hP; exact hd) (x_draw (N := fun n => n = 4) dr (i := 0) rfl (x_i rfl) (fun n hn => by omega) (fun n k hn h0 h1 => ⟨h0, by omega⟩))) g3.inv fun v H4 g4 ⟨d, hd4, dp4⟩ => ?_
    exact q v d H4 (draw_fr (((g1.trans g2).trans g3).trans g4)) hd4 dp4
/-! ### _law_big -/
theorem big_str : ∀ i < 50, gd 20 ("n" ++ (toString ((i : Nat) : Int) : Str)) := by
  have h : ∀ i < 50, (decide (("n" ++ (toString ((i : Nat) : Int) : Str)).length ≤ 20) && PyData.strOk ("n" ++ (toString ((i : Nat) : Int) : Str))) = true := by decide +kernel
  intro i hi
  have := h i hi
  rw [Bool.and_eq_true] at this
  exact ⟨of_decide_eq_true this.1, this.2⟩
theorem rows_of {c : Nat} : ∀ {es : List PyData} {is : List Nat}, Paired (fun e _ => rowD 1 0 0 e) es is → ∃ rows, es = rowsP rows ∧ Sz is.length 0 0 rows
  | _, _, .nil => ⟨[], rfl, ⟨by simp, by simp [cnts], by simp, by simp⟩⟩
  | _, _, .cons ⟨r, e, hr⟩ t => by
    obtain ⟨rows, e2, h2⟩ := rows_of (c := c) t
    refine ⟨r :: rows, by rw [e, e2]; rfl, ?_⟩
    have := (Sz.one hr).app h2
    rw [Nat.add_comm] at this
    exact this
abbrev sp__law_big (T : Txt K mg) : Sp := spF K (fun ds => ds = []) (fun _ d => rowsD 200 1 0 d)
theorem ok__law_big (T : Txt K mg) : FnOk P w K mg base CX0 2 T.a__law_big T.d__law_big ["_law_source_here"] (sp__law_big T) := by
  have G__law_take : FnOk P w K mg base CX0 1 T.a__law_take T.d__law_take ["_law_source_here", "_law_many"] (sp__law_take T) := ok__law_take T
  refine T.F__law_big.ok sc__law_big (fun vs H Q E h => ?_) (fun cdv A outer s H vs Q E hr h => ?_)
  · obtain ⟨r, xs, S, ds, rfl, _, _, _, hd, rfl, _⟩ := h
    rw [List.length_cons, dpAll_len hd]
    rfl
  · obtain ⟨r, xs, S, ds, rfl, mr, dm, hR, hd, rfl, q⟩ := h
    cases hd
    refine ⟨(tSeq (tAsg (tOp (rI0 fun i j => .int (i + j)) (tC (.int 39)) (tCall (sp__law_take T) [] E0 (tCons (tVar 0) (tCons (tC (.int 3)) tNil)))) (gName 1))
  (tSeq (tAsg (tLc (iRng1 (tCons (tVar 1) tNil)) (gName 4) tYes (tTup (tCons (tC (.str "number")) (tCons (tOp rAddT (tC (.str "n")) (tCB gStrI (tCons (tVar 4) tNil))) (tCons (tC (.int 0)) (tCons (tC (.int 3)) (tCons (tC .non) tNil)))))) [4]) (gName 2))
  (tSeq (tAsg (tCall (sp__law_take T) [] E0 (tCons (tVar 0) (tCons (tC (.int 30)) tNil))) (gName 3))
  (tSeq (tIfS (tTest (tOp rEq (tCall (sp__law_take T) [] E0 (tCons (tVar 0) (tCons (tC (.int 2)) tNil))) (tC (.int 0)))) (tRet (tVar 2)) tNext)
  (tRet (tOp (rCatS K) (tOp (rCatS K) (tSl (rSlL K) (tVar 2) tNoPart (tPart (tVar 3))) (tLst (tCons (tTup (tCons (tC (.str "section")) (tCons (tSl (rSlL K) (tVar 2) (tPart (tVar 3)) (tPart (tOp (rI0 fun i j => .int (i + j)) (tVar 3) (tC (.int 5))))) (tCons (tC .non) tNil)))) tNil))) (tSl (rSlL K) (tVar 2) (tPart (tOp (rI0 fun i j => .int (i + j)) (tVar 3) (tC (.int 5)))) tNoPart))))))),
(pss_cons (ps_set (i := 1) sc__law_big.nd rfl (.inl rfl) (pe_op op_add pe_int (pe_call (G__law_take.mono (by omega)) hr (by rfl) T.g__law_take T.F__law_take.kp T.b__law_take .nil pass0 (pa_cons (pv 0) (pa_cons pe_int pa_nil)))))
  (pss_cons (ps_setLc (i := 2) (own := [("_law_k", 4)]) (g := (gName 4)) (tt := tYes) (te := (tTup (tCons (tC (.str "number")) (tCons (tOp rAddT (tC (.str "n")) (tCB gStrI (tCons (tVar 4) tNil))) (tCons (tC (.int 0)) (tCons (tC (.int 3)) (tCons (tC .non) tNil))))))) rfl sc__law_big.nd rfl rfl (sw_true rfl rfl rfl (by decide +kernel)) (pi_range1 (by rfl) T.z_range (pa_cons (pv 1) pa_nil)) (blkOk_by (N := ["_law_source_here", "_law_many", "_law_rows_here", "_law_at", "_law_k"]) (sc := defScope s__law_big) (own := [("_law_k", 4)]) (by decide +kernel)) (fun _ _ _ _ _ => (pg_name (i := 4) sc__law_big.nd rfl (.inl rfl))) (fun _ _ _ _ _ => pts_nil) (fun _ _ _ _ _ => (pe_tup (pa_cons pe_str (pa_cons (pe_op op_addT pe_str (pe_callTy call_strI (by rfl) T.z_str (by decide +kernel) (pa_cons (pv 4) pa_nil))) (pa_cons pe_int (pa_cons pe_int (pa_cons pe_non pa_nil))))))))
  (pss_cons (ps_set (i := 3) sc__law_big.nd rfl (.inl rfl) (pe_call (G__law_take.mono (by omega)) hr (by rfl) T.g__law_take T.F__law_take.kp T.b__law_take .nil pass0 (pa_cons (pv 0) (pa_cons pe_int pa_nil))))
  (pss_cons (ps_if (pt_cmpR op_eq (pe_call (G__law_take.mono (by omega)) hr (by rfl) T.g__law_take T.F__law_take.kp T.b__law_take .nil pass0 (pa_cons (pv 0) (pa_cons pe_int pa_nil))) pe_int (nomark _)) (pss_one (ps_ret (pv 2))) pss_nil)
  (pss_one (ps_ret (pe_op op_catS (pe_op op_catS (pe_slice sl_list (pv 2) po_none (po_some (pv 3))) (pe_lst (pa_cons (pe_tup (pa_cons pe_str (pa_cons (pe_slice sl_list (pv 2) (po_some (pv 3)) (po_some (pe_op op_add (pv 3) pe_int))) (pa_cons pe_non pa_nil)))) pa_nil))) (pe_slice sl_list (pv 2) (po_some (pe_op op_add (pv 3) pe_int)) po_none)))))))), ?_⟩
    let R : Rg := draw S r H dm mr
    have dr : Drw R r := drw_draw
    have I0 : R.I H := draw_refl hR
    refine w_asg (R := R) (D := Dt K (isI fun n => 39 ≤ n ∧ n < 42)) (x_I0 (A := fun n => n = 39) (B := fun n => 0 ≤ n ∧ n < 3) (x_i rfl) (x_draw (N := fun n => n = 3) dr (i := 0) rfl (x_i rfl) (fun n hn => by omega) (fun n k hn h0 h1 => ⟨h0, by omega⟩)) fun a b ha hb => ⟨_, rfl, by omega, by omega⟩) I0 fun nv H1 g1 hnv => ?_
    obtain ⟨n, rfl, hn⟩ := dp_int_of hnv
    refine w_asg (R := R) (D := Dt K (rowsD 42 0 0)) (x_lcR (A := fun k => k = n) (E := fun _ => rowD 1 0 0) (x_vi (i := 1) rfl rfl) (fun k hk => by omega) (fun x => rfl) (fun p acc H2 np hI sm m i hm him => x_tu (ds_cons (x_s (A := fun s => s = "number") rfl) (ds_cons (x_addS (P := isS sOk) (A := fun s => s = "n") (B := fun s => s = (toString (i : Int) : Str)) (x_s rfl) (x_strI (A := fun k => k = (i : Int)) (x_vi (i := 4) rfl rfl) fun k hk => by
        subst hk
        refine ⟨?_, _, rfl, rfl⟩
        rw [Int.natAbs_natCast]
        exact Nat.lt_of_le_of_lt (Nat.log2_le_self i) (by omega)) fun a b ha hb => by
          subst ha hb
          have gg := big_str i (by omega)
          refine ⟨?_, _, rfl, ⟨by have := gg.1; omega, gg.2⟩⟩
          have := gg.1
          rw [PySem.Str.length_append] at this
          omega) (ds_cons (x_i (A := fun k => k = 0) rfl) (ds_cons (x_i (A := fun k => k = 3) rfl) (ds_cons x_n ds_nil))))) fun ds al => by
        obtain ⟨a, b, c, d, e, rfl, ⟨_, rfl, rfl⟩, ⟨_, rfl, hb⟩, ⟨_, rfl, rfl⟩, ⟨_, rfl, rfl⟩, rfl⟩ := al5 al
        exact ⟨.number _ 0 3 none, rfl, ⟨hb, trivial⟩, by simp [Rw.cnt], by simp [Rw.dep], by simp [Rw.wid]⟩) (fun k es hk pd => by
          obtain ⟨rows, rfl, hr⟩ := rows_of (c := 0) pd
          refine ⟨rows, rfl, hr.mono ?_ (Nat.le_refl _) (Nat.le_refl _)⟩
          rw [List.length_range]
          omega)) g1.inv fun rv H2 g2 hrv => ?_
    obtain ⟨rd, ⟨rows, rfl, hrows⟩, rdp⟩ := hrv
    refine w_asg (R := R) (D := Dt K (isI fun n => 0 ≤ n ∧ n < 30)) (x_draw (N := fun n => n = 30) dr (i := 0) rfl (x_i rfl) (fun n hn => by omega) (fun n k hn h0 h1 => ⟨h0, by omega⟩)) g2.inv fun av H3 g3 hav => ?_
    obtain ⟨at', rfl, hat⟩ := dp_int_of hav
    have rdp3 := dp_up g3.same rdp
    have g03 := (g1.trans g2).trans g3
    refine w_when (R := R) (B := fun _ => True) (xt_test (x_eqI (K := K) (A := fun i => True) (B := fun i => True) (x_draw (N := fun n => n = 2) dr (i := 0) rfl (x_i rfl) (fun n hn => by omega) (fun n k hn h0 h1 => trivial)) (x_i trivial) fun _ _ _ _ => trivial)) g3.inv (fun H4 g4 _ => ?_) (fun H4 g4 _ => ?_)
    · exact s_ret (ev_var rfl) fun H5 e5 => q _ _ H5 (draw_fr ((g03.trans g4).trans (Go.of g4.inv e5))) ⟨rows, rfl, hrows.mono (by decide) (by decide) (by decide)⟩ (dp_up (g4.trans (Go.of g4.inv e5)).same rdp3)
    · have rdp4 := dp_up g4.same rdp3
      have z1 := hrows.mono (d' := 1) (Nat.le_refl 42) (by decide) (Nat.le_refl 0)
      have at5 : EvX R (tOp (rI0 fun i j => V.int (i + j)) (tVar 3) (tC (V.int 5))) [some (V.ref r), some (V.int n), some rv, some (V.int at'), none] H4 (Dt K (isI fun _ => True)) := x_I0 (A := fun _ => True) (B := fun _ => True) (x_vi rfl trivial) (x_i trivial) fun a b _ _ => ⟨_, rfl, trivial⟩
      refine w_ret (R := R) (D := Dt K (rowsD (42 + 43 + 42) 1 0)) (x_rcat (x_rcat (x_rcut rfl rdp4 z1 xo_none (xo_some (K := K) (A := fun _ => True) (x_vi rfl trivial))) (x_r1 (x_tu (ds_cons (x_s (A := fun s => s = "section") rfl) (ds_cons (x_rcut (j := 2) rfl rdp4 hrows (xo_some (K := K) (A := fun _ => True) (x_vi rfl trivial)) (xo_some (K := K) (A := fun _ => True) at5)) (ds_cons x_n ds_nil))) fun ds al => by
        obtain ⟨a, b, c, rfl, ⟨_, rfl, rfl⟩, ⟨rows, rfl, hr⟩, rfl⟩ := al3 al
        exact ⟨.sec rows none, by simp only [Rw.py]; rfl, hr.sec trivial⟩)) (by decide)) (x_rcut rfl rdp4 z1 (xo_some (K := K) (A := fun _ => True) at5) xo_none) (by decide)) g4.inv fun v H5 g5 ⟨d, ⟨rows', hd, hz⟩, dp⟩ => ?_
      exact q v d H5 (draw_fr ((g03.trans g4).trans g5)) ⟨rows', hd, hz.mono (by decide) (by decide) (by decide)⟩ dp
end SF
namespace SF
open PySem PySem.Spec PyProof.Rows L2 GK Evl LamX
variable {P : Program} {w : World} {K : PySem.W.Frag} {mg : Str → Option Value} {base : Heap}
/-! ### rows can be laid -/
theorem cnd_lay : ∀ {c : Cnd}, c.ok → c.py.canLay0 = true ∧ c.py.depth ≤ c.dep + 1 := fun {c} => by
  have o1 : PyData.strOk "is" = true := by decide +kernel
  have o2 : PyData.strOk "has" = true := by decide +kernel
  have o3 : PyData.strOk "above" = true := by decide +kernel
  have o4 : PyData.strOk "below" = true := by decide +kernel
  have o5 : PyData.strOk "not" = true := by decide +kernel
  have o6 : PyData.strOk "both" = true := by decide +kernel
  have o7 : PyData.strOk "either" = true := by decide +kernel
  induction c with
  | is n o => intro h; simp [Cnd.py, Cnd.dep, PyData.canLay0, PyData.canLayAll0, PyData.depth, PyData.depthAll, h.1.2, h.2.2, o1]
  | has n o => intro h; simp [Cnd.py, Cnd.dep, PyData.canLay0, PyData.canLayAll0, PyData.depth, PyData.depthAll, h.1.2, h.2.2, o2]
  | abv n o => intro h; have h' : sOk n := h; simp [Cnd.py, Cnd.dep, PyData.canLay0, PyData.canLayAll0, PyData.depth, PyData.depthAll, h'.2, o3]
  | blw n o => intro h; have h' : sOk n := h; simp [Cnd.py, Cnd.dep, PyData.canLay0, PyData.canLayAll0, PyData.depth, PyData.depthAll, h'.2, o4]
  | not c ih => intro h; have i1 := ih h; simp [Cnd.py, Cnd.dep, PyData.canLay0, PyData.canLayAll0, PyData.depth, PyData.depthAll, i1.1, o5]; omega
  | both a b ia ib => intro h; have i1 := ia h.1; have i2 := ib h.2; simp [Cnd.py, Cnd.dep, PyData.canLay0, PyData.canLayAll0, PyData.depth, PyData.depthAll, i1.1, i2.1, o6]; omega
  | either a b ia ib => intro h; have i1 := ia h.1; have i2 := ib h.2; simp [Cnd.py, Cnd.dep, PyData.canLay0, PyData.canLayAll0, PyData.depth, PyData.depthAll, i1.1, i2.1, o7]; omega
theorem oc_lay {c : Option Cnd} (h : ocOk c) : (ocP c).canLay0 = true ∧ (ocP c).depth ≤ 5 := by
  cases c with
  | none => simp [ocP, PyData.canLay0, PyData.depth]
  | some c =>
    have h1 := cnd_lay h.1
    have h2 : c.dep ≤ 4 := h.2
    exact ⟨h1.1, by show c.py.depth ≤ 5; omega⟩
mutual
theorem rw_lay : ∀ (r : Rw), r.ok → r.py.canLay0 = true ∧ r.py.depth ≤ 2 * r.dep + 7
  | .one n os c, h => by
    have h1 := oc_lay h.2.2.2
    have h2 := strs_lay fun s hs => (h.2.2.1 s hs).2
    have h3 : PyData.strOk "one" = true := by decide +kernel
    simp [Rw.py, Rw.dep, PyData.canLay0, PyData.canLayAll0, PyData.depth, PyData.depthAll, h1.1, h2, h3, h.1.2]; omega
  | .som n os c, h => by
    have h1 := oc_lay h.2.2.2
    have h2 := strs_lay fun s hs => (h.2.2.1 s hs).2
    have h3 : PyData.strOk "some" = true := by decide +kernel
    simp [Rw.py, Rw.dep, PyData.canLay0, PyData.canLayAll0, PyData.depth, PyData.depthAll, h1.1, h2, h3, h.1.2]; omega
  | .number n lo hi c, h => by
    have h1 := oc_lay h.2
    have h3 : PyData.strOk "number" = true := by decide +kernel
    simp [Rw.py, Rw.dep, PyData.canLay0, PyData.canLayAll0, PyData.depth, PyData.depthAll, h1.1, h3, h.1.2]; omega
  | .check n m c, h => by
    have h1 := oc_lay h.2.2.2
    have h2 := cnd_lay h.2.1
    have h4 : m.dep ≤ 4 := h.2.2.1
    have h3 : PyData.strOk "check" = true := by decide +kernel
    simp [Rw.py, Rw.dep, PyData.canLay0, PyData.canLayAll0, PyData.depth, PyData.depthAll, h1.1, h2.1, h3, h.1.2]; omega
  | .sec rows c, h => by
    have h1 := oc_lay h.2
    have h2 := rows_lay rows h.1
    have h3 : PyData.strOk "section" = true := by decide +kernel
    simp [Rw.py, Rw.dep, PyData.canLay0, PyData.canLayAll0, PyData.depth, PyData.depthAll, h1.1, h2.1, h3]; omega
  | .rnd n rows c, h => by
    have h1 := oc_lay h.2.2
    have h2 := rows_lay rows h.2.1
    have h3 : PyData.strOk "rounds" = true := by decide +kernel
    simp [Rw.py, Rw.dep, PyData.canLay0, PyData.canLayAll0, PyData.depth, PyData.depthAll, h1.1, h2.1, h3, h.1.2]; omega
theorem rows_lay : ∀ (rows : List Rw), rowsOk rows → PyData.canLayAll0 (rowsP rows) = true ∧ PyData.depthAll (rowsP rows) ≤ 2 * deps rows + 7
  | [], _ => by simp [rowsP, PyData.canLayAll0, PyData.depthAll]
  | r :: rs, h => by
    have h1 := rw_lay r h.1
    have h2 := rows_lay rs h.2
    simp [rowsP, deps, PyData.canLayAll0, PyData.depthAll, h1.1, h2.1]; omega
end
theorem rows_shp {rows : List Rw} (h : rowsOk rows) (hd : deps rows ≤ 20) : SeqAt.shaped (.list (rowsP rows)) = true := by
  have h1 := rows_lay rows h
  exact shp (by simp only [PyData.canLay0]; exact h1.1) (by simp only [PyData.depth]; omega)
theorem Sz.shp {c d l : Nat} {rows : List Rw} (h : Sz c d l rows) (hd : d ≤ 20) : SeqAt.shaped (.list (rowsP rows)) = true := rows_shp (rowsOk_iff.mpr h.ok) (Nat.le_trans (deps_le h.dep) hd)
/-! ### helpers -/
section
variable {R : Rg} {σ : L2.St} {H : Hp} {v : V} {j i : Nat} {r : Addr}
/-- a call by a spec that follows -/
theorem x_drawnI {sp : Sp} {P : PyData → Prop} {ta : TA} {Pre : List PyData → Prop} {Post : List PyData → PyData → Prop} {Ps : List (PyData → Prop)} (hsp : ∀ vs H Q E, spF K Pre Post vs H Q E → sp vs H Q E) (d : Drw R r) (hi : σ[i]? = some (some (.ref r))) (ha : EvDs K R ta σ H Ps) (h : ∀ ds, Al Ps ds → Pre ds) (hq : ∀ ds d, Al Ps ds → Post ds d → P d) : EvX R (tCall sp [] E0 (tCons (tVar i) ta)) σ H (Dt K P) := fun H1 g Q q => ⟨.ref r, hi, ha H1 g _ fun vs ds H2 g2 al hd => by
  refine hsp _ _ _ _ ⟨r, vs ++ [], R.S, ds, rfl, d.mem, fun a ha => R.dom g2.inv a ha, d.rng g2.inv, by rw [List.append_nil]; exact hd, h ds al, fun v e H' f hp dp => q v H' (g2.trans (d.go g2.inv f)) ⟨e, hq ds e al hp, dp⟩⟩⟩
theorem x_pureI {sp : Sp} {P : PyData → Prop} {ta : TA} {Pre : List PyData → Prop} {Post : List PyData → PyData → Prop} {Ps : List (PyData → Prop)} (hsp : ∀ vs H Q E, spP K Pre Post vs H Q E → sp vs H Q E) (ha : EvDs K R ta σ H Ps) (h : ∀ ds, Al Ps ds → Pre ds) (hq : ∀ ds d, Al Ps ds → Post ds d → P d) : EvX R (tCall sp [] E0 ta) σ H (Dt K P) := x_call ha fun H1 vs ds Q go al hd q => hsp _ _ _ _ ⟨R.S, ds, fun a ha => R.dom go.inv a ha, by rw [List.append_nil]; exact hd, h ds al, fun v d H' e hp dp => q v H' (Go.of go.inv e) ⟨d, hq ds d al hp, dp⟩⟩
/-- xs[draw(n)], xs of that length -/
theorem x_odd {T : Txt K mg} {n : Nat} {ds : List PyData} {A : PyData → Prop} (d : Drw R r) (hi : σ[i]? = some (some (.ref r))) (hj : σ[j]? = some (some v)) (hv : Dp K (R.off H) v (.list ds)) (hn : ds.length = n) (h0 : 0 < n ∧ n ≤ 1000) (hA : ∀ x ∈ ds, A x) : EvX R (tOp (rIxL K) (tVar j) (tCall (sp__law_take T) [] E0 (tCons (tVar i) (tCons (tC (.int (n : Int))) tNil)))) σ H (Dt K A) :=
  x_ixL (A := fun d => d = .list ds) (N := fun k => 0 ≤ k ∧ k < (ds.length : Int)) (x_d hj hv rfl) (x_draw (N := fun k => k = (n : Int)) d hi (x_i rfl) (fun n hn => by omega) (fun n k hn h0 h1 => ⟨h0, by omega⟩)) fun d i hd hi => by
    obtain ⟨x, h1, h2⟩ := atI_lt (xs := ds) hi.1 hi.2
    exact ⟨ds, x, hd, h1, hA x h2⟩
theorem x_lstA {ta : TA} {Ps : List (PyData → Prop)} {A : PyData → Prop} {n : Nat} (ha : EvDs K R ta σ H Ps) (hn : Ps.length = n) (hz : n ≤ 1000) (hA : ∀ P ∈ Ps, ∀ d, P d → A d) : EvX R (tLst ta) σ H (Dt K fun d => ∃ ds, d = .list ds ∧ ds.length = n ∧ ∀ x ∈ ds, A x) := x_li ha (fun ds al => ⟨ds, rfl, by rw [al_len al, hn], al_mem al hA⟩) (by omega)
theorem atI_last' {α : Type} {xs : List α} (h : xs ≠ []) : ∃ x, atI xs (-1) = some x ∧ x ∈ xs := by
  refine ⟨xs.getLast h, ?_, List.getLast_mem h⟩
  have := atI_last xs.dropLast (xs.getLast h)
  rw [List.dropLast_concat_getLast h] at this
  exact this
/-- every[0], every[-1] -/
theorem x_ev0 {ss : List Str} (hj : σ[j]? = some (some v)) (hv : Dp K (R.off H) v (.list (ss.map .str))) (hne : ss ≠ []) (hs : ∀ s ∈ ss, sOk s) : EvX R (tOp (rIxL K) (tVar j) (tC (.int 0))) σ H (Dt K (isS sOk)) := x_ixL (A := fun d => d = .list (ss.map .str)) (N := fun k => k = 0) (x_d hj hv rfl) (x_i rfl) fun d i hd hi => by
  subst hi
  obtain ⟨x, h1, h2⟩ := atI_lt (xs := ss.map PyData.str) (k := 0) (Int.le_refl _) (by rw [List.length_map]; have := List.length_pos_iff.mpr hne; omega)
  exact ⟨_, x, hd, h1, mem_strs hs x h2⟩
theorem x_ev1 {ss : List Str} (hj : σ[j]? = some (some v)) (hv : Dp K (R.off H) v (.list (ss.map .str))) (hne : ss ≠ []) (hs : ∀ s ∈ ss, sOk s) : EvX R (tOp (rIxL K) (tVar j) (tUn (rU fun i => .int (-i)) (tC (.int 1)))) σ H (Dt K (isS sOk)) := x_ixL (A := fun d => d = .list (ss.map .str)) (N := fun k => k = -1) (x_d hj hv rfl) (x_neg (A := fun i => i = 1) (x_i rfl) fun i hi => ⟨_, rfl, by rw [hi]⟩) fun d i hd hi => by
  subst hi
  obtain ⟨x, h1, h2⟩ := atI_last' (xs := ss.map PyData.str) (by simpa using hne)
  exact ⟨_, x, hd, h1, mem_strs hs x h2⟩
end
def leafR : Rw → Bool
  | .sec .. => false
  | .rnd .. => false
  | _ => true
def osP (L : Nat) (d : PyData) : Prop := ∃ os : List Str, os.length ≤ L ∧ (∀ s ∈ os, sOk s) ∧ d = .list (os.map .str)
section
variable {R : Rg} {σ : L2.St} {H : Hp} {v : V} {j i : Nat} {r : Addr} {L L' : Nat} {ta tb : TE}
theorem x_oscat (ha : EvX R ta σ H (Dt K (osP L))) (hb : EvX R tb σ H (Dt K (osP L'))) (hz : L + L' ≤ 2000) : EvX R (tOp (rCatS K) ta tb) σ H (Dt K (osP (L + L'))) := x_catL ha hb fun d e ⟨a, a1, a2, a3⟩ ⟨b, b1, b2, b3⟩ => ⟨_, _, a3, b3, by simp; omega, a ++ b, by rw [List.length_append]; omega, fun s hs => (List.mem_append.mp hs).elim (a2 s) (b2 s), by simp⟩
theorem osP.mono (le : L ≤ L') {d : PyData} (h : osP L d) : osP L' d := by obtain ⟨a, a1, a2, a3⟩ := h; exact ⟨a, by omega, a2, a3⟩
theorem os_cut1 {os : List Str} : (cutG (os.map PyData.str) none (some 1)) = (os.take 1).map PyData.str := by rw [show (1 : Int) = ((1 : Nat) : Int) from rfl, cut_to, List.map_take]
theorem x_oscut {os : List Str} (hj : σ[j]? = some (some v)) (hv : Dp K (R.off H) v (.list (os.map .str))) (hs : ∀ s ∈ os, sOk s) : EvX R (tSl (rSlL K) (tVar j) tNoPart (tPart (tC (.int 1)))) σ H (Dt K (osP 1)) := x_slL (A := fun d => d = .list (os.map .str)) (x_d hj hv rfl) xo_none (xo_some (K := K) (A := fun i => i = 1) (x_i rfl)) fun d lo hi hd hlo hhi => by
  obtain ⟨_, rfl, rfl⟩ := hhi
  subst hlo
  exact ⟨_, hd, os.take 1, by rw [List.length_take]; omega, fun s h => hs s (List.mem_of_mem_take h), by rw [os_cut1]⟩
theorem x_osrep {os : List Str} (hj : σ[j]? = some (some v)) (hv : Dp K (R.off H) v (.list (os.map .str))) (hl : os.length ≤ 1000) (hs : ∀ s ∈ os, sOk s) : EvX R (tOp rRep (tSl (rSlL K) (tVar j) tNoPart (tPart (tC (.int 1)))) (tC (.int 2))) σ H (Dt K (osP 2)) := x_repSl (A := fun d => d = .list (os.map .str)) (x_d hj hv rfl) xo_none (xo_some (K := K) (A := fun i => i = 1) (x_i rfl)) (by decide) fun d lo hi hd hlo hhi => by
  obtain ⟨_, rfl, rfl⟩ := hhi
  subst hlo
  refine ⟨_, hd, by simpa using hl, os.take 1 ++ os.take 1, by simp; omega, fun s h => ?_, by rw [os_cut1]; simp [List.replicate]⟩
  rcases List.mem_append.mp h with z | z <;> exact hs s (List.mem_of_mem_take z)
theorem x_os1 {s : Str} (h : sOk s) : EvX R (tLst (tCons (tC (.str s)) tNil)) σ H (Dt K (osP 1)) := x_li (ds_cons (x_s (A := fun t => t = s) rfl) ds_nil) fun ds al => by
  cases al with
  | cons h1 t => cases t; obtain ⟨_, rfl, rfl⟩ := h1; exact ⟨[_], Nat.le_refl _, by simpa using h, rfl⟩
end
theorem al6 {P1 P2 P3 P4 P5 P6 : PyData → Prop} {ds : List PyData} (h : Al [P1, P2, P3, P4, P5, P6] ds) : ∃ a b c d e f, ds = [a, b, c, d, e, f] ∧ P1 a ∧ P2 b ∧ P3 c ∧ P4 d ∧ P5 e ∧ P6 f := by
  cases h with
  | cons h1 t =>
    obtain ⟨b, c, d, e, f, rfl, h⟩ := al5 t
    exact ⟨_, b, c, d, e, f, rfl, h1, h⟩
/-! ### _law_spoilt_fields -/
abbrev sp__law_spoilt_fields (T : Txt K mg) (L : Nat) : Sp := spF K (fun ds => ∃ (rw : Rw) (ev : PyData), ds = [rw.py, ev] ∧ evP ev ∧ leafR rw = true ∧ rw.ok ∧ rw.wid ≤ L ∧ L ≤ 900) (fun _ d => rowD 1 0 (L + 6) d)
theorem ok__law_spoilt_fields (T : Txt K mg) (L : Nat) : FnOk P w K mg base CX0 3 T.a__law_spoilt_fields T.d__law_spoilt_fields ["_law_source_here", "_law_row", "_law_every"] (sp__law_spoilt_fields T L) := by
  have G__law_take : FnOk P w K mg base CX0 1 T.a__law_take T.d__law_take ["_law_source_here", "_law_many"] (sp__law_take T) := ok__law_take T
  have G__law_any_condition : FnOk P w K mg base CX0 2 T.a__law_any_condition T.d__law_any_condition ["_law_source_here", "_law_every"] (sp__law_any_condition T) := ok__law_any_condition T
  refine T.F__law_spoilt_fields.ok sc__law_spoilt_fields (fun vs H Q E h => ?_) (fun cdv A outer s H vs Q E hr h => ?_)
  · obtain ⟨r, xs, S, ds, rfl, _, _, _, hd, ⟨n, _, rfl, _⟩, _⟩ := h
    rw [List.length_cons, dpAll_len hd]
    rfl
  · obtain ⟨r, xs, S, ds, rfl, mr, dm, hR, hd, ⟨rw, ev, rfl, ⟨ss, hne, hlen, hss, rfl⟩, hleaf, hok, hwid, hL⟩, q⟩ := h
    cases hd with
    | cons hd1 t =>
    cases t with
    | cons hd2 t =>
    cases t
    rename_i v1 v2
    refine ⟨(tSeq (tAsg (tCall (sp__law_take T) [] E0 (tCons (tVar 0) (tCons (tC (.int 4)) tNil))) (gName 3))
  (tSeq (tIfS (tTest (tOp rEq (tVar 3) (tC (.int 0)))) (tSeq (tAsg (tLst (tCons (tC (.str "")) (tCons (tC (.str "Ab")) (tCons (tC (.str "a b")) (tCons (tC (.str "1a")) (tCons (tC (.str "abcdefghi")) (tCons (tC (.str "a-b")) (tCons (tOp (rIxL K) (tVar 2) (tC (.int 0))) (tCons (tOp (rIxL K) (tVar 2) (tUn (rU fun i => .int (-i)) (tC (.int 1)))) tNil))))))))) (gName 4))
  (tRet (tOp (rCatA K) (tOp (rCatA K) (tSl (rSlA K) (tVar 1) tNoPart (tPart (tC (.int 1)))) (tTup (tCons (tOp (rIxL K) (tVar 4) (tCall (sp__law_take T) [] E0 (tCons (tVar 0) (tCons (tC (.int 8)) tNil)))) tNil))) (tSl (rSlA K) (tVar 1) (tPart (tC (.int 2))) tNoPart)))) tNext)
  (tSeq (tIfS (tTest (tOp rEq (tOp (rIxT K) (tVar 1) (tC (.int 0))) (tC (.str "number")))) (tSeq (tAsg (tOp (rIxL K) (tLst (tCons (tOp (rI0 fun i j => .int (i + j)) (tOp (rIxT K) (tVar 1) (tC (.int 3))) (tC (.int 1))) (tCons (tUn (rU fun i => .int (-i)) (tC (.int 1))) (tCons (tC (.int 0)) (tCons (tOp (rIxT K) (tVar 1) (tC (.int 2))) tNil))))) (tCall (sp__law_take T) [] E0 (tCons (tVar 0) (tCons (tC (.int 4)) tNil)))) (gName 5))
  (tRet (tOp (rCatA K) (tSl (rSlA K) (tVar 1) tNoPart (tPart (tC (.int 2)))) (tTup (tCons (tVar 5) (tCons (tOp (rIxL K) (tLst (tCons (tOp (rIxT K) (tVar 1) (tC (.int 3))) (tCons (tC (.int 5)) (tCons (tOp (rI0 fun i j => .int (i - j)) (tVar 5) (tC (.int 1))) tNil)))) (tCall (sp__law_take T) [] E0 (tCons (tVar 0) (tCons (tC (.int 3)) tNil)))) (tCons (tOp (rIxT K) (tVar 1) (tC (.int 4))) tNil))))))) tNext)
  (tSeq (tIfS (tTest (tOp rEq (tOp (rIxT K) (tVar 1) (tC (.int 0))) (tC (.str "check")))) (tRet (tOp (rCatA K) (tSl (rSlA K) (tVar 1) tNoPart (tPart (tC (.int 2)))) (tTup (tCons (tCall (sp__law_any_condition T) [] E0 (tCons (tVar 0) (tCons (tVar 2) tNil))) (tCons (tOp (rIxT K) (tVar 1) (tC (.int 3))) tNil))))) tNext)
  (tSeq (tAsg (tOp (rIxT K) (tVar 1) (tC (.int 2))) (gName 6))
  (tSeq (tAsg (tLst (tCons (tLst tNil) (tCons (tOp (rCatS K) (tVar 6) (tLst (tCons (tC (.str "x1")) (tCons (tC (.str "x2")) (tCons (tC (.str "x3")) (tCons (tC (.str "x4")) (tCons (tC (.str "x5")) (tCons (tC (.str "x6")) tNil)))))))) (tCons (tOp (rCatS K) (tVar 6) (tSl (rSlL K) (tVar 6) tNoPart (tPart (tC (.int 1))))) (tCons (tOp (rCatS K) (tVar 6) (tLst (tCons (tC (.str "A")) tNil))) (tCons (tOp (rCatS K) (tLst (tCons (tC (.str "a b")) tNil)) (tVar 6)) (tCons (tOp rRep (tSl (rSlL K) (tVar 6) tNoPart (tPart (tC (.int 1)))) (tC (.int 2))) tNil))))))) (gName 4))
  (tRet (tOp (rCatA K) (tSl (rSlA K) (tVar 1) tNoPart (tPart (tC (.int 2)))) (tTup (tCons (tOp (rIxL K) (tVar 4) (tCall (sp__law_take T) [] E0 (tCons (tVar 0) (tCons (tC (.int 6)) tNil)))) (tCons (tOp (rIxT K) (tVar 1) (tC (.int 3))) tNil))))))))))),
(pss_cons (ps_set (i := 3) sc__law_spoilt_fields.nd rfl (.inl rfl) (pe_call (G__law_take.mono (by omega)) hr (by rfl) T.g__law_take T.F__law_take.kp T.b__law_take .nil pass0 (pa_cons (pv 0) (pa_cons pe_int pa_nil))))
  (pss_cons (ps_if (pt_cmpR op_eq (pv 3) pe_int (nomark _)) (pss_cons (ps_set (i := 4) sc__law_spoilt_fields.nd rfl (.inl rfl) (pe_lst (pa_cons pe_str (pa_cons pe_str (pa_cons pe_str (pa_cons pe_str (pa_cons pe_str (pa_cons pe_str (pa_cons (pe_ix ix_list (pv 2) pe_int (fun _ _ => rfl)) (pa_cons (pe_ix ix_list (pv 2) (pe_un un_neg pe_int) (fun _ _ => rfl)) pa_nil))))))))))
  (pss_one (ps_ret (pe_op op_catA (pe_op op_catA (pe_slice sl_tupA (pv 1) po_none (po_some pe_int)) (pe_tup (pa_cons (pe_ix ix_list (pv 4) (pe_call (G__law_take.mono (by omega)) hr (by rfl) T.g__law_take T.F__law_take.kp T.b__law_take .nil pass0 (pa_cons (pv 0) (pa_cons pe_int pa_nil))) (fun _ _ => rfl)) pa_nil))) (pe_slice sl_tupA (pv 1) (po_some pe_int) po_none))))) pss_nil)
  (pss_cons (ps_if (pt_cmpR op_eq (pe_ix ix_tup (pv 1) pe_int (fun _ _ => rfl)) pe_str (nomark _)) (pss_cons (ps_set (i := 5) sc__law_spoilt_fields.nd rfl (.inl rfl) (pe_ix ix_list (pe_lst (pa_cons (pe_op op_add (pe_ix ix_tup (pv 1) pe_int (fun _ _ => rfl)) pe_int) (pa_cons (pe_un un_neg pe_int) (pa_cons pe_int (pa_cons (pe_ix ix_tup (pv 1) pe_int (fun _ _ => rfl)) pa_nil))))) (pe_call (G__law_take.mono (by omega)) hr (by rfl) T.g__law_take T.F__law_take.kp T.b__law_take .nil pass0 (pa_cons (pv 0) (pa_cons pe_int pa_nil))) (fun _ _ => rfl)))
  (pss_one (ps_ret (pe_op op_catA (pe_slice sl_tupA (pv 1) po_none (po_some pe_int)) (pe_tup (pa_cons (pv 5) (pa_cons (pe_ix ix_list (pe_lst (pa_cons (pe_ix ix_tup (pv 1) pe_int (fun _ _ => rfl)) (pa_cons pe_int (pa_cons (pe_op op_sub (pv 5) pe_int) pa_nil)))) (pe_call (G__law_take.mono (by omega)) hr (by rfl) T.g__law_take T.F__law_take.kp T.b__law_take .nil pass0 (pa_cons (pv 0) (pa_cons pe_int pa_nil))) (fun _ _ => rfl)) (pa_cons (pe_ix ix_tup (pv 1) pe_int (fun _ _ => rfl)) pa_nil)))))))) pss_nil)
  (pss_cons (ps_if (pt_cmpR op_eq (pe_ix ix_tup (pv 1) pe_int (fun _ _ => rfl)) pe_str (nomark _)) (pss_one (ps_ret (pe_op op_catA (pe_slice sl_tupA (pv 1) po_none (po_some pe_int)) (pe_tup (pa_cons (pe_call (G__law_any_condition.mono (by omega)) hr (by rfl) T.g__law_any_condition T.F__law_any_condition.kp T.b__law_any_condition .nil pass0 (pa_cons (pv 0) (pa_cons (pv 2) pa_nil))) (pa_cons (pe_ix ix_tup (pv 1) pe_int (fun _ _ => rfl)) pa_nil)))))) pss_nil)
  (pss_cons (ps_set (i := 6) sc__law_spoilt_fields.nd rfl (.inl rfl) (pe_ix ix_tup (pv 1) pe_int (fun _ _ => rfl)))
  (pss_cons (ps_set (i := 4) sc__law_spoilt_fields.nd rfl (.inl rfl) (pe_lst (pa_cons (pe_lst pa_nil) (pa_cons (pe_op op_catS (pv 6) (pe_lst (pa_cons pe_str (pa_cons pe_str (pa_cons pe_str (pa_cons pe_str (pa_cons pe_str (pa_cons pe_str pa_nil)))))))) (pa_cons (pe_op op_catS (pv 6) (pe_slice sl_list (pv 6) po_none (po_some pe_int))) (pa_cons (pe_op op_catS (pv 6) (pe_lst (pa_cons pe_str pa_nil))) (pa_cons (pe_op op_catS (pe_lst (pa_cons pe_str pa_nil)) (pv 6)) (pa_cons (pe_op op_rep (pe_slice sl_list (pv 6) po_none (po_some pe_int)) pe_int) pa_nil))))))))
  (pss_one (ps_ret (pe_op op_catA (pe_slice sl_tupA (pv 1) po_none (po_some pe_int)) (pe_tup (pa_cons (pe_ix ix_list (pv 4) (pe_call (G__law_take.mono (by omega)) hr (by rfl) T.g__law_take T.F__law_take.kp T.b__law_take .nil pass0 (pa_cons (pv 0) (pa_cons pe_int pa_nil))) (fun _ _ => rfl)) (pa_cons (pe_ix ix_tup (pv 1) pe_int (fun _ _ => rfl)) pa_nil)))))))))))), ?_⟩
    let R : Rg := draw S r H dm mr
    have dr : Drw R r := drw_draw
    have I0 : R.I H := draw_refl hR
    have fin : ∀ {v H1}, Go R H H1 → (Dt K (rowD 1 0 (L + 6))).p (R.off H1) v → Q v H1 := fun {v H1} g ⟨d, hd, dp⟩ => q v d H1 (draw_fr g) hd dp
    refine w_asg (R := R) (D := Dt K (isI fun _ => True)) (x_draw (N := fun n => n = 4) dr (i := 0) rfl (x_i rfl) (fun n hn => by omega) (fun n k hn h0 h1 => trivial)) I0 fun wv H1 g1 hwv => ?_
    obtain ⟨way, rfl, _⟩ := dp_int_of hwv
    refine w_when (R := R) (B := fun _ => True) (xt_test (x_eqI (K := K) (A := fun i => True) (B := fun i => True) (x_vi (i := 3) rfl trivial) (x_i trivial) fun _ _ _ _ => trivial)) g1.inv (fun H2 g2 _ => ?_) (fun H2 g2 _ => ?_)
    · have g02 := g1.trans g2
      have e1 := dp_up g02.same hd1
      have e2 := dp_up g02.same hd2
      refine w_asg (R := R) (D := Dt K (fun d => ∃ ds, d = .list ds ∧ ds.length = 8 ∧ ∀ x ∈ ds, isS sOk x)) (x_lstA (n := 8) (A := isS sOk) (ds_cons (x_s (A := sOk) ⟨by decide, by decide +kernel⟩) (ds_cons (x_s (A := sOk) ⟨by decide, by decide +kernel⟩) (ds_cons (x_s (A := sOk) ⟨by decide, by decide +kernel⟩) (ds_cons (x_s (A := sOk) ⟨by decide, by decide +kernel⟩) (ds_cons (x_s (A := sOk) ⟨by decide, by decide +kernel⟩) (ds_cons (x_s (A := sOk) ⟨by decide, by decide +kernel⟩) (ds_cons (x_ev0 (j := 2) rfl e2 hne hss) (ds_cons (x_ev1 (j := 2) rfl e2 hne hss) ds_nil)))))))) rfl (by decide) (fun P hP d hd => by simp only [List.mem_cons, List.not_mem_nil, or_false, or_self] at hP; subst hP; exact hd)) g2.inv fun ov H3 g3 ⟨od, ⟨ods, hod, hol, hos⟩, odp⟩ => ?_
      subst hod
      have e1 := dp_up g3.same e1
      have shape : ∃ a b rest, rw.py = .tuple (a :: b :: rest) ∧ rest.length ≤ 10 ∧ ∀ x, isS sOk x → rowD 1 0 (L + 6) (.tuple (a :: x :: rest)) := by
        cases rw with
        | one n os c => exact ⟨_, _, _, by simp only [Rw.py]; rfl, by simp, fun x ⟨s, hs, h⟩ => ⟨.one s os c, by simp only [Rw.py]; rw [hs], ⟨h, hok.2⟩, by simp [Rw.cnt], by simp [Rw.dep], by have : os.length ≤ L := hwid; show os.length ≤ L + 6; omega⟩⟩
        | som n os c => exact ⟨_, _, _, by simp only [Rw.py]; rfl, by simp, fun x ⟨s, hs, h⟩ => ⟨.som s os c, by simp only [Rw.py]; rw [hs], ⟨h, hok.2⟩, by simp [Rw.cnt], by simp [Rw.dep], by have : os.length ≤ L := hwid; show os.length ≤ L + 6; omega⟩⟩
        | number n lo hi c => exact ⟨_, _, _, by simp only [Rw.py]; rfl, by simp, fun x ⟨s, hs, h⟩ => ⟨.number s lo hi c, by simp only [Rw.py]; rw [hs], ⟨h, hok.2⟩, by simp [Rw.cnt], by simp [Rw.dep], by simp [Rw.wid]⟩⟩
        | check n m c => exact ⟨_, _, _, by simp only [Rw.py]; rfl, by simp, fun x ⟨s, hs, h⟩ => ⟨.check s m c, by simp only [Rw.py]; rw [hs], ⟨h, hok.2⟩, by simp [Rw.cnt], by simp [Rw.dep], by simp [Rw.wid]⟩⟩
        | sec => cases hleaf
        | rnd => cases hleaf
      obtain ⟨a, b, rest, hpy, hrl, hrow⟩ := shape
      rw [hpy] at e1
      exact w_ret (R := R) (x_swap1 (j := 1) (A := isS sOk) rfl e1 hrl (x_odd (T := T) (n := 8) dr (i := 0) rfl (j := 4) rfl odp hol (by decide) hos)) g3.inv fun v H4 g4 ⟨d, ⟨x, hx, hd⟩, dp⟩ => fin ((g02.trans g3).trans g4) ⟨d, by rw [hd]; exact hrow x hx, dp⟩
    · have g02 := g1.trans g2
      have e1 := dp_up g02.same hd1
      have e2 := dp_up g02.same hd2
      have key : (∃ (n kd : Str) (os : List Str) (c : Option Cnd), rw.py = .tuple [.str kd, .str n, .list (os.map .str), ocP c] ∧ kd ≠ "number" ∧ kd ≠ "check" ∧ os.length ≤ L ∧ (∀ s ∈ os, sOk s) ∧ ∀ os' : List Str, os'.length ≤ L + 6 → (∀ s ∈ os', sOk s) → rowD 1 0 (L + 6) (.tuple [.str kd, .str n, .list (os'.map .str), ocP c])) ∨ (∃ n lo hi c, rw = .number n lo hi c) ∨ (∃ n m c, rw = .check n m c) := by
        cases rw with
        | one n os c => exact .inl ⟨n, "one", os, c, by simp only [Rw.py], by decide, by decide, hwid, hok.2.2.1, fun os' h1 h2 => ⟨.one n os' c, by simp only [Rw.py], ⟨hok.1, by omega, h2, hok.2.2.2⟩, by simp [Rw.cnt], by simp [Rw.dep], h1⟩⟩
        | som n os c => exact .inl ⟨n, "some", os, c, by simp only [Rw.py], by decide, by decide, hwid, hok.2.2.1, fun os' h1 h2 => ⟨.som n os' c, by simp only [Rw.py], ⟨hok.1, by omega, h2, hok.2.2.2⟩, by simp [Rw.cnt], by simp [Rw.dep], h1⟩⟩
        | number n lo hi c => exact .inr (.inl ⟨_, _, _, _, rfl⟩)
        | check n m c => exact .inr (.inr ⟨_, _, _, rfl⟩)
        | sec => cases hleaf
        | rnd => cases hleaf
      rcases key with ⟨n, kd, os, c, hpy, n1, n2, hl, hs, hrow⟩ | ⟨n, lo, hi, c, rfl⟩ | ⟨n, m, c, rfl⟩
      · rw [hpy] at e1
        refine w_when (R := R) (B := fun b => b = false) (xt_test (x_eqS (K := K) (A := fun s => s = kd) (B := fun s => s = "number") (x_at (j := 1) (n := 0) rfl e1 rfl ⟨_, rfl, rfl⟩) (x_s rfl) fun a b ha hb => by rw [ha, hb]; exact decide_eq_false n1)) g2.inv (fun _ _ z => by cases z) (fun H3 g3 _ => ?_)
        have e1 := dp_up g3.same e1
        refine w_when (R := R) (B := fun b => b = false) (xt_test (x_eqS (K := K) (A := fun s => s = kd) (B := fun s => s = "check") (x_at (j := 1) (n := 0) rfl e1 rfl ⟨_, rfl, rfl⟩) (x_s rfl) fun a b ha hb => by rw [ha, hb]; exact decide_eq_false n2)) g3.inv (fun _ _ z => by cases z) (fun H4 g4 _ => ?_)
        have e1 := dp_up g4.same e1
        refine w_asg (R := R) (D := Dt K (fun d => d = .list (os.map .str))) (x_at (j := 1) (n := 2) rfl e1 rfl rfl) g4.inv fun sv H5 g5 ⟨sd, hsd, sdp⟩ => ?_
        subst hsd
        have e1 := dp_up g5.same e1
        have osv : EvX R (tVar 6) [some (.ref r), some v1, some v2, some (.int way), none, none, some sv] H5 (Dt K (osP L)) := x_d (i := 6) rfl sdp ⟨os, hl, hs, rfl⟩
        refine w_asg (R := R) (D := Dt K (fun d => ∃ ds, d = .list ds ∧ ds.length = 6 ∧ ∀ x ∈ ds, osP (L + 6) x)) (x_lstA (n := 6) (A := osP (L + 6)) (Ps := [osP 0, osP (L + 6), osP (L + 1), osP (L + 1), osP (1 + L), osP 2]) (ds_cons (x_li ds_nil fun ds al => by cases al; exact ⟨[], by simp, by simp, rfl⟩) (ds_cons (x_oscat osv (x_li (ds_cons (x_s (A := sOk) ⟨by decide, by decide +kernel⟩) (ds_cons (x_s (A := sOk) ⟨by decide, by decide +kernel⟩) (ds_cons (x_s (A := sOk) ⟨by decide, by decide +kernel⟩) (ds_cons (x_s (A := sOk) ⟨by decide, by decide +kernel⟩) (ds_cons (x_s (A := sOk) ⟨by decide, by decide +kernel⟩) (ds_cons (x_s (A := sOk) ⟨by decide, by decide +kernel⟩) ds_nil)))))) fun ds al => by
            obtain ⟨a, b, c, d, e, f, rfl, ⟨a, rfl, h1⟩, ⟨b, rfl, h2⟩, ⟨c, rfl, h3⟩, ⟨d, rfl, h4⟩, ⟨e, rfl, h5⟩, ⟨f, rfl, h6⟩⟩ := al6 al
            exact ⟨[a, b, c, d, e, f], by simp, by simp [h1, h2, h3, h4, h5, h6], rfl⟩) (by omega)) (ds_cons (x_oscat osv (x_oscut (j := 6) rfl sdp hs) (by omega)) (ds_cons (x_oscat osv (x_os1 ⟨by decide, by decide +kernel⟩) (by omega)) (ds_cons (x_oscat (x_os1 ⟨by decide, by decide +kernel⟩) osv (by omega)) (ds_cons (x_osrep (j := 6) rfl sdp (by omega) hs) ds_nil)))))) rfl (by decide) (fun P hP d hd => by
              simp only [List.mem_cons, List.not_mem_nil, or_false] at hP
              rcases hP with rfl | rfl | rfl | rfl | rfl | rfl <;> exact osP.mono (by omega) hd)) g5.inv fun ov H6 g6 ⟨od, ⟨ods, hod, hol, hos⟩, odp⟩ => ?_
        subst hod
        have e1 := dp_up g6.same e1
        refine w_ret (R := R) (D := Dt K (rowD 1 0 (L + 6))) (x_tail2 (j := 1) rfl e1 (Ps := [osP (L + 6), fun d => d = ocP c]) (ds_cons (x_odd (T := T) (n := 6) dr (i := 0) rfl (j := 4) rfl odp hol (by decide) hos) (ds_cons (x_at (j := 1) (n := 3) rfl e1 rfl rfl) ds_nil)) (by simp) fun ds al => ?_) g6.inv fun v H7 g7 hv => fin (((((g02.trans g3).trans g4).trans g5).trans g6).trans g7) hv
        obtain ⟨a, b, rfl, ⟨os', h1, h2, rfl⟩, rfl⟩ := al2 al
        exact hrow os' h1 h2
      · rw [Rw.py] at e1
        refine w_when (R := R) (B := fun b => b = true) (xt_test (x_eqS (K := K) (A := fun s => s = "number") (B := fun s => s = "number") (x_at (j := 1) (n := 0) rfl e1 rfl ⟨_, rfl, rfl⟩) (x_s rfl) fun a b ha hb => by rw [ha, hb]; decide)) g2.inv (fun H3 g3 _ => ?_) (fun _ _ z => by cases z)
        have e1 := dp_up g3.same e1
        have anyI : ∀ d, isI (fun _ => True) d → isI (fun _ => True) d := fun d h => h
        refine w_asg (R := R) (D := Dt K (isI fun _ => True)) (x_menu (n := 4) (Ps := [isI fun _ => True, isI fun _ => True, isI fun _ => True, isI fun _ => True]) (ds_cons (x_I0 (A := fun _ => True) (B := fun _ => True) (x_at (j := 1) (n := 3) rfl e1 rfl ⟨_, rfl, trivial⟩) (x_i trivial) fun a b _ _ => ⟨_, rfl, trivial⟩) (ds_cons (x_neg (A := fun _ => True) (x_i trivial) fun i _ => ⟨_, rfl, trivial⟩) (ds_cons (x_i trivial) (ds_cons (x_at (j := 1) (n := 2) rfl e1 rfl ⟨_, rfl, trivial⟩) ds_nil)))) rfl (fun ds al => al_mem al fun P hP d hd => by simp only [List.mem_cons, List.not_mem_nil, or_false, or_self] at hP; subst hP; exact hd) (x_draw (N := fun n => n = 4) dr (i := 0) rfl (x_i rfl) (fun n hn => by omega) (fun n k hn h0 h1 => ⟨h0, by omega⟩))) g3.inv fun lv H4 g4 hlv => ?_
        obtain ⟨lo', rfl, _⟩ := dp_int_of hlv
        have e1 := dp_up g4.same e1
        refine w_ret (R := R) (D := Dt K (rowD 1 0 (L + 6))) (x_tail2 (j := 1) rfl e1 (Ps := [isI fun i => i = lo', isI fun _ => True, fun d => d = ocP c]) (ds_cons (x_vi (i := 5) rfl rfl) (ds_cons (x_menu (n := 3) (Ps := [isI fun _ => True, isI fun _ => True, isI fun _ => True]) (ds_cons (x_at (j := 1) (n := 3) rfl e1 rfl ⟨_, rfl, trivial⟩) (ds_cons (x_i trivial) (ds_cons (x_I0 (A := fun _ => True) (B := fun _ => True) (x_vi (i := 5) rfl trivial) (x_i trivial) fun a b _ _ => ⟨_, rfl, trivial⟩) ds_nil))) rfl (fun ds al => al_mem al fun P hP d hd => by simp only [List.mem_cons, List.not_mem_nil, or_false, or_self] at hP; subst hP; exact hd) (x_draw (N := fun n => n = 3) dr (i := 0) rfl (x_i rfl) (fun n hn => by omega) (fun n k hn h0 h1 => ⟨h0, by omega⟩))) (ds_cons (x_at (j := 1) (n := 4) rfl e1 rfl rfl) ds_nil))) (by simp) fun ds al => ?_) g4.inv fun v H5 g5 hv => fin (((g02.trans g3).trans g4).trans g5) hv
        obtain ⟨a, b, c', rfl, ⟨lx, rfl, hlx⟩, ⟨hi', rfl, _⟩, rfl⟩ := al3 al
        exact ⟨.number n lx hi' c, by simp only [Rw.py], hok, by simp [Rw.cnt], by simp [Rw.dep], by simp [Rw.wid]⟩
      · rw [Rw.py] at e1
        refine w_when (R := R) (B := fun b => b = false) (xt_test (x_eqS (K := K) (A := fun s => s = "check") (B := fun s => s = "number") (x_at (j := 1) (n := 0) rfl e1 rfl ⟨_, rfl, rfl⟩) (x_s rfl) fun a b ha hb => by rw [ha, hb]; decide)) g2.inv (fun _ _ z => by cases z) (fun H3 g3 _ => ?_)
        have e1 := dp_up g3.same e1
        have e2 := dp_up g3.same e2
        refine w_when (R := R) (B := fun b => b = true) (xt_test (x_eqS (K := K) (A := fun s => s = "check") (B := fun s => s = "check") (x_at (j := 1) (n := 0) rfl e1 rfl ⟨_, rfl, rfl⟩) (x_s rfl) fun a b ha hb => by rw [ha, hb]; decide)) g3.inv (fun H4 g4 _ => ?_) (fun _ _ z => by cases z)
        have e1 := dp_up g4.same e1
        have e2 := dp_up g4.same e2
        refine w_ret (R := R) (D := Dt K (rowD 1 0 (L + 6))) (x_tail2 (j := 1) rfl e1 (Ps := [cnP 1, fun d => d = ocP c]) (ds_cons (x_drawn dr (i := 0) rfl (Ps := [fun d => d = .list (ss.map .str)]) (ds_cons (x_d (i := 2) rfl e2 rfl) ds_nil) (fun ds al => by
          cases al with
          | cons h1 t => cases t; exact ⟨_, rfl, ss, hne, hlen, hss, h1⟩) (fun _ d _ h => h)) (ds_cons (x_at (j := 1) (n := 3) rfl e1 rfl rfl) ds_nil)) (by simp) fun ds al => ?_) g4.inv fun v H5 g5 hv => fin (((g02.trans g3).trans g4).trans g5) hv
        obtain ⟨a, b, rfl, ⟨c', h1, h2, rfl⟩, rfl⟩ := al2 al
        exact ⟨.check n c' c, by simp only [Rw.py], ⟨hok.1, h1, Nat.le_trans h2 (by decide), hok.2.2.2⟩, by simp [Rw.cnt], by simp [Rw.dep], by simp [Rw.wid]⟩
end SF
namespace SF
open PySem PySem.Spec PyProof.Rows L2 GK Evl LamX
variable {P : Program} {w : World} {K : PySem.W.Frag} {mg : Str → Option Value} {base : Heap}
/-! ### a row as a tuple -/
def Rw.kd : Rw → Str
  | .one .. => "one"
  | .som .. => "some"
  | .number .. => "number"
  | .check .. => "check"
  | .sec .. => "section"
  | .rnd .. => "rounds"
def Rw.tl : Rw → List PyData
  | .one n os c => [.str n, .list (os.map .str), ocP c]
  | .som n os c => [.str n, .list (os.map .str), ocP c]
  | .number n lo hi c => [.str n, .int lo, .int hi, ocP c]
  | .check n m c => [.str n, m.py, ocP c]
  | .sec rows c => [.list (rowsP rows), ocP c]
  | .rnd n rows c => [.str n, .list (rowsP rows), ocP c]
def Rw.mid : Rw → List PyData
  | .one n os c => [.str n, .list (os.map .str)]
  | .som n os c => [.str n, .list (os.map .str)]
  | .number n lo hi c => [.str n, .int lo, .int hi]
  | .check n m c => [.str n, m.py]
  | .sec rows c => [.list (rowsP rows)]
  | .rnd n rows c => [.str n, .list (rowsP rows)]
theorem Rw.py_tl (r : Rw) : r.py = .tuple (.str r.kd :: r.tl) := by cases r <;> simp only [Rw.py, Rw.kd, Rw.tl]
theorem Rw.py_mid (r : Rw) : r.py = .tuple ((.str r.kd :: r.mid) ++ [ocP r.wh]) := by cases r <;> simp only [Rw.py, Rw.kd, Rw.mid, Rw.wh] <;> rfl
theorem Rw.wh_ok {r : Rw} (h : r.ok) : ocOk r.wh := by
  cases r with
  | one n os c => exact h.2.2.2
  | som n os c => exact h.2.2.2
  | number n lo hi c => exact h.2
  | check n m c => exact h.2.2.2
  | sec rows c => exact h.2
  | rnd n rows c => exact h.2.2
def Rw.withC (r : Rw) (c : Option Cnd) : Rw := match r with
  | .one n os _ => .one n os c
  | .som n os _ => .som n os c
  | .number n lo hi _ => .number n lo hi c
  | .check n m _ => .check n m c
  | .sec rows _ => .sec rows c
  | .rnd n rows _ => .rnd n rows c
theorem Rw.withC_py (r : Rw) (c : Option Cnd) : (r.withC c).py = .tuple ((.str r.kd :: r.mid) ++ [ocP c]) := by cases r <;> simp only [Rw.withC, Rw.py, Rw.kd, Rw.mid] <;> rfl
theorem Sz1.withC {a d l : Nat} {r : Rw} {c : Option Cnd} (h : Sz1 a d l r) (hc : ocOk c) : Sz1 a d l (r.withC c) := by
  obtain ⟨h1, h2, h3, h4⟩ := h
  cases r with
  | one n os _ => exact ⟨⟨h1.1, h1.2.1, h1.2.2.1, hc⟩, h2, h3, h4⟩
  | som n os _ => exact ⟨⟨h1.1, h1.2.1, h1.2.2.1, hc⟩, h2, h3, h4⟩
  | number n lo hi _ => exact ⟨⟨h1.1, hc⟩, h2, h3, h4⟩
  | check n m _ => exact ⟨⟨h1.1, h1.2.1, h1.2.2.1, hc⟩, h2, h3, h4⟩
  | sec rows _ => exact ⟨⟨h1.1, hc⟩, h2, h3, h4⟩
  | rnd n rows _ => exact ⟨⟨h1.1, h1.2.1, hc⟩, h2, h3, h4⟩
theorem Rw.kd_sec {r : Rw} (h : r.kd = "section") : ∃ rows c, r = .sec rows c := by
  cases r with
  | sec rows c => exact ⟨_, _, rfl⟩
  | one => exact absurd (show ("one" : Str) = "section" from h) (by decide)
  | som => exact absurd (show ("some" : Str) = "section" from h) (by decide)
  | number => exact absurd (show ("number" : Str) = "section" from h) (by decide)
  | check => exact absurd (show ("check" : Str) = "section" from h) (by decide)
  | rnd => exact absurd (show ("rounds" : Str) = "section" from h) (by decide)
theorem Rw.kd_rnd {r : Rw} (h : r.kd = "rounds") : ∃ n rows c, r = .rnd n rows c := by
  cases r with
  | rnd n rows c => exact ⟨_, _, _, rfl⟩
  | one => exact absurd (show ("one" : Str) = "rounds" from h) (by decide)
  | som => exact absurd (show ("some" : Str) = "rounds" from h) (by decide)
  | number => exact absurd (show ("number" : Str) = "rounds" from h) (by decide)
  | check => exact absurd (show ("check" : Str) = "rounds" from h) (by decide)
  | sec => exact absurd (show ("section" : Str) = "rounds" from h) (by decide)
/-- section, rounds: the rows within -/
def Rw.inn : Rw → Option (List Rw)
  | .sec rows _ => some rows
  | .rnd _ rows _ => some rows
  | _ => none
theorem cut_neg1 {α : Type} (xs : List α) (x : α) : cutG (xs ++ [x]) none (some (-1)) = xs := by
  unfold cutG
  rw [HT.sIx_none, List.drop_zero, Nat.sub_zero]
  have : HT.sIx (xs ++ [x]).length (xs ++ [x]).length (some (-1)) = xs.length := by
    show (if (-1 : Int) < 0 then ((-1 : Int) + ((xs ++ [x]).length : Int)).toNat else min (-1 : Int).toNat (xs ++ [x]).length) = _
    rw [if_pos (by decide), List.length_append]
    simp
    omega
  rw [this, List.take_left' rfl]
theorem cut_neg2 {α : Type} (xs : List α) (x y : α) : cutG (xs ++ [x, y]) none (some (-2)) = xs := by
  unfold cutG
  rw [HT.sIx_none, List.drop_zero, Nat.sub_zero]
  have : HT.sIx (xs ++ [x, y]).length (xs ++ [x, y]).length (some (-2)) = xs.length := by
    show (if (-2 : Int) < 0 then ((-2 : Int) + ((xs ++ [x, y]).length : Int)).toNat else min (-2 : Int).toNat (xs ++ [x, y]).length) = _
    rw [if_pos (by decide), List.length_append]
    simp
    omega
  rw [this, List.take_left' rfl]
theorem at_neg2 {α : Type} (xs : List α) (x y : α) : atI (xs ++ [x, y]) (-2) = some x := by
  unfold atI ixN
  rw [if_neg (by decide), if_pos (by simp; omega)]
  have : (-2 + ((xs ++ [x, y]).length : Int)).toNat = xs.length := by rw [List.length_append]; simp; omega
  simp only [Option.bind_some, this]
  rw [List.getElem?_append_right (Nat.le_refl _), Nat.sub_self]
  rfl
/-- a row with rows within: section or rounds -/
structure Inn (r : Rw) (pre : List PyData) (inn : List Rw) : Prop where
  py : r.py = .tuple (pre ++ [.list (rowsP inn), ocP r.wh])
  len : pre.length ≤ 2
  isI : r.inn = some inn
theorem Rw.inn_of {r : Rw} {inn : List Rw} (h : r.inn = some inn) : ∃ pre, Inn r pre inn ∧ ∀ rows', ∃ r' : Rw, r'.py = .tuple (pre ++ [.list (rowsP rows'), ocP r.wh]) ∧ ∀ {c d l}, r.ok → Sz c d l rows' → Sz1 (c + 1) (d + 1) l r' := by
  cases r with
  | one => cases h
  | som => cases h
  | number => cases h
  | check => cases h
  | sec rows c =>
    cases h
    exact ⟨[.str "section"], ⟨by simp only [Rw.py, Rw.wh]; rfl, by simp, rfl⟩, fun rows' => ⟨.sec rows' c, by simp only [Rw.py, Rw.wh]; rfl, fun ho hz => hz.sec ho.2⟩⟩
  | rnd n rows c =>
    cases h
    exact ⟨[.str "rounds", .str n], ⟨by simp only [Rw.py, Rw.wh]; rfl, by simp, rfl⟩, fun rows' => ⟨.rnd n rows' c, by simp only [Rw.py, Rw.wh]; rfl, fun ho hz => hz.rnd ho.1 ho.2.2⟩⟩
theorem Sz1.inn {c d l : Nat} {r : Rw} {inn : List Rw} (h : Sz1 c d l r) (hi : r.inn = some inn) : 1 ≤ d ∧ cnts inn + 1 = r.cnt ∧ Sz (cnts inn) (d - 1) l inn := by
  obtain ⟨h1, h2, h3, h4⟩ := h
  cases r with
  | one => cases hi
  | som => cases hi
  | number => cases hi
  | check => cases hi
  | sec rows _ =>
    cases hi
    have h3 : deps inn + 1 ≤ d := h3
    exact ⟨by omega, rfl, rowsOk_iff.mp h1.1, Nat.le_refl _, fun x hx => by have := deps_mem hx; omega, wids_le.mp h4⟩
  | rnd n rows _ =>
    cases hi
    have h3 : deps inn + 1 ≤ d := h3
    exact ⟨by omega, rfl, rowsOk_iff.mp h1.2.1, Nat.le_refl _, fun x hx => by have := deps_mem hx; omega, wids_le.mp h4⟩
section
variable {R : Rg} {σ : L2.St} {H : Hp} {v : V} {j i : Nat} {r : Addr}
/-- row[0] in ['section', 'rounds'] -/
theorem xt_isInn {rw : Rw} (hj : σ[j]? = some (some v)) (hv : Dp K (R.off H) v rw.py) : EvXT R (tTest (tOp (rIn K false) (tOp (rIxT K) (tVar j) (tC (.int 0))) (tLst (tCons (tC (.str "section")) (tCons (tC (.str "rounds")) tNil))))) σ H (fun b => b = rw.inn.isSome) := by
  rw [Rw.py_tl] at hv
  refine xt_test (x_in (A := fun d => d = .str rw.kd) (B := fun d => d = .list [.str "section", .str "rounds"]) (x_at (n := 0) hj hv rfl rfl) (x_li (ds_cons (x_s (A := fun s => s = "section") rfl) (ds_cons (x_s (A := fun s => s = "rounds") rfl) ds_nil)) fun ds al => by
    obtain ⟨a, b, rfl, ⟨_, rfl, rfl⟩, ⟨_, rfl, rfl⟩⟩ := al2 al
    rfl) fun d e hd he => ?_)
  subst hd he
  refine ⟨_, .inl rfl, rfl, rfl, ?_⟩
  cases rw <;> simp only [Rw.kd, Rw.inn, Option.isSome_some, Option.isSome_none] <;> decide
/-- row[-1] -/
theorem x_m1 {rw : Rw} {P : PyData → Prop} (hj : σ[j]? = some (some v)) (hv : Dp K (R.off H) v rw.py) (hP : P (ocP rw.wh)) : EvX R (tOp (rIxT K) (tVar j) (tUn (rU fun i => .int (-i)) (tC (.int 1)))) σ H (Dt K P) := by
  rw [Rw.py_mid] at hv
  exact x_ixT (A := fun d => d = .tuple ((.str rw.kd :: rw.mid) ++ [ocP rw.wh])) (N := fun i => i = -1) (x_d hj hv rfl) (x_neg (A := fun i => i = 1) (x_i rfl) fun i hi => ⟨_, rfl, by rw [hi]⟩) fun d i hd hi => by
    subst hi
    exact ⟨_, _, hd, atI_last _ _, hP⟩
/-- row[-2] -/
theorem x_m2 {rw : Rw} {pre : List PyData} {inn : List Rw} {P : PyData → Prop} (hj : σ[j]? = some (some v)) (hv : Dp K (R.off H) v rw.py) (hi : Inn rw pre inn) (hP : P (.list (rowsP inn))) : EvX R (tOp (rIxT K) (tVar j) (tUn (rU fun i => .int (-i)) (tC (.int 2)))) σ H (Dt K P) := by
  rw [hi.py] at hv
  exact x_ixT (A := fun d => d = .tuple (pre ++ [.list (rowsP inn), ocP rw.wh])) (N := fun i => i = -2) (x_d hj hv rfl) (x_neg (A := fun i => i = 1 + 1) (x_i rfl) fun i hi => ⟨_, rfl, by rw [hi]; rfl⟩) fun d i hd hi => by
    subst hi
    exact ⟨_, _, hd, at_neg2 _ _ _, hP⟩
/-- rows[:at] -/
theorem x_rto {c d l at' : Nat} {rows : List Rw} {tb : TE} (hj : σ[j]? = some (some v)) (hv : Dp K (R.off H) v (.list (rowsP rows))) (hz : Sz c d l rows) (hb : EvX R tb σ H (Dt K (isI fun k => k = (at' : Int)))) : EvX R (tSl (rSlL K) (tVar j) tNoPart (tPart tb)) σ H (Dt K (rowsD (cnts (rows.take at')) d l)) :=
  x_slL (A := fun d => d = .list (rowsP rows)) (x_d hj hv rfl) xo_none (xo_some (K := K) hb) fun d lo hi hd hlo hhi => by
    obtain ⟨_, rfl, rfl⟩ := hhi
    subst hlo
    exact ⟨_, hd, rows.take at', by rw [rowsP_map, rowsP_map, cut_to, List.map_take], (hz.sub (rows' := rows.take at') (fun r hr => List.mem_of_mem_take hr) (by have := cnts_take rows at'; have := hz.cnt; omega)).ok, Nat.le_refl _, fun r hr => hz.dep r (List.mem_of_mem_take hr), fun r hr => hz.wid r (List.mem_of_mem_take hr)⟩
theorem x_rfrom {c d l at' : Nat} {rows : List Rw} {tb : TE} (hj : σ[j]? = some (some v)) (hv : Dp K (R.off H) v (.list (rowsP rows))) (hz : Sz c d l rows) (hb : EvX R tb σ H (Dt K (isI fun k => k = (at' : Int)))) : EvX R (tSl (rSlL K) (tVar j) (tPart tb) tNoPart) σ H (Dt K (rowsD (cnts (rows.drop at')) d l)) :=
  x_slL (A := fun d => d = .list (rowsP rows)) (x_d hj hv rfl) (xo_some (K := K) hb) xo_none fun d lo hi hd hlo hhi => by
    obtain ⟨_, rfl, rfl⟩ := hlo
    subst hhi
    exact ⟨_, hd, rows.drop at', by rw [rowsP_map, rowsP_map, cut_from, List.map_drop], fun r hr => hz.ok r (List.mem_of_mem_drop hr), Nat.le_refl _, fun r hr => hz.dep r (List.mem_of_mem_drop hr), fun r hr => hz.wid r (List.mem_of_mem_drop hr)⟩
end
/-! ### _law_spoilt -/
def spoiltPre (m c l : Nat) (ds : List PyData) : Prop := ∃ (rows : List Rw) (ev : PyData), ds = [.list (rowsP rows), ev] ∧ rows ≠ [] ∧ evP ev ∧ Sz c m l rows ∧ c ≤ 10000 ∧ l ≤ 900 ∧ m ≤ 15
def sp__law_spoilt (T : Txt K mg) (m : Nat) : Sp := fun vs H Q E => ∃ c l, spF K (spoiltPre m c l) (fun _ d => rowsD (2 * c + 1) (m + 1) (l + 6) d) vs H Q E
theorem spoilt_body (T : Txt K mg) (sp' : Sp) (jj m : Nat) (G__law_spoilt : FnOk P w K mg base CX0 (jj + 4) T.a__law_spoilt T.d__law_spoilt ["_law_source_here", "_law_rows_here", "_law_every"] sp')
    (hc : ∀ m', m = m' + 1 → ∀ vs H Q E, sp__law_spoilt T m' vs H Q E → sp' vs H Q E) : FnOk P w K mg base CX0 (jj + 5) T.a__law_spoilt T.d__law_spoilt ["_law_source_here", "_law_rows_here", "_law_every"] (sp__law_spoilt T m) := by
  have G__law_take : FnOk P w K mg base CX0 1 T.a__law_take T.d__law_take ["_law_source_here", "_law_many"] (sp__law_take T) := ok__law_take T
  have G__law_any_condition : FnOk P w K mg base CX0 2 T.a__law_any_condition T.d__law_any_condition ["_law_source_here", "_law_every"] (sp__law_any_condition T) := ok__law_any_condition T
  have G__law_spoilt_fields' : ∀ L, FnOk P w K mg base CX0 3 T.a__law_spoilt_fields T.d__law_spoilt_fields ["_law_source_here", "_law_row", "_law_every"] (sp__law_spoilt_fields T L) := fun L => ok__law_spoilt_fields T L
  refine T.F__law_spoilt.ok sc__law_spoilt (fun vs H Q E h => ?_) (fun cdv A outer s H vs Q E hr h => ?_)
  · obtain ⟨c, l, r, xs, S, ds, rfl, _, _, _, hd, ⟨n, _, rfl, _⟩, _⟩ := h
    rw [List.length_cons, dpAll_len hd]
    rfl
  · obtain ⟨c, l, r, xs, S, ds, rfl, mr, dm, hR, hd, ⟨rows, ev, rfl, hrne, ⟨ss, hne, hlen, hss, rfl⟩, hz, hc1, hl1, hm1⟩, q⟩ := h
    cases hd with
    | cons hd1 t =>
    cases t with
    | cons hd2 t =>
    cases t
    rename_i v1 v2
    have G__law_spoilt_fields := G__law_spoilt_fields' l
    refine ⟨(tSeq (tAsg (tCall (sp__law_take T) [] E0 (tCons (tVar 0) (tCons (tCB (gLenQ K) (tCons (tVar 1) tNil)) tNil))) (gName 3))
  (tSeq (tAsg (tOp (rIxL K) (tVar 1) (tVar 3)) (gName 4))
  (tSeq (tAsg (tCall (sp__law_take T) [] E0 (tCons (tVar 0) (tCons (tC (.int 6)) tNil))) (gName 5))
  (tSeq (tIfS (tAnd (tTest (tOp (rIn K false) (tOp (rIxT K) (tVar 4) (tC (.int 0))) (tLst (tCons (tC (.str "section")) (tCons (tC (.str "rounds")) tNil))))) (tAnd (tTest (tOp (rNeD K) (tOp (rIxT K) (tVar 4) (tUn (rU fun i => .int (-i)) (tC (.int 2)))) (tLst tNil))) (tTest (tOp (rI0 fun i j => .bl (decide (i < j))) (tVar 5) (tC (.int 3)))))) (tAsg (tOp (rCatA K) (tSl (rSlA K) (tVar 4) tNoPart (tPart (tUn (rU fun i => .int (-i)) (tC (.int 2))))) (tTup (tCons (tCall sp' [] E0 (tCons (tVar 0) (tCons (tOp (rIxT K) (tVar 4) (tUn (rU fun i => .int (-i)) (tC (.int 2)))) (tCons (tVar 2) tNil)))) (tCons (tOp (rIxT K) (tVar 4) (tUn (rU fun i => .int (-i)) (tC (.int 1)))) tNil)))) (gName 4)) (tIfS (tTest (tOp rEq (tVar 5) (tC (.int 3)))) (tAsg (tOp (rCatA K) (tSl (rSlA K) (tVar 4) tNoPart (tPart (tUn (rU fun i => .int (-i)) (tC (.int 1))))) (tTup (tCons (tCall (sp__law_any_condition T) [] E0 (tCons (tVar 0) (tCons (tVar 2) tNil))) tNil))) (gName 4)) (tIfS (tTest (tOp rEq (tVar 5) (tC (.int 4)))) (tAsg (tOp (rIxL K) (tLst (tCons (tTup (tCons (tC (.str "rounds")) (tCons (tOp (rIxL K) (tVar 2) (tCall (sp__law_take T) [] E0 (tCons (tVar 0) (tCons (tCB (gLenQ K) (tCons (tVar 2) tNil)) tNil)))) (tCons (tLst (tCons (tVar 4) tNil)) (tCons (tC .non) tNil))))) (tCons (tTup (tCons (tC (.str "section")) (tCons (tLst (tCons (tVar 4) tNil)) (tCons (tC .non) tNil)))) tNil))) (tOp (rI (fun _ j => 0 < j) fun i j => .int (i % j)) (tVar 3) (tC (.int 2)))) (gName 4)) (tIfS (tTest (tOp rEq (tVar 5) (tC (.int 5)))) (tRet (tOp (rCatS K) (tOp (rCatS K) (tSl (rSlL K) (tVar 1) tNoPart (tPart (tVar 3))) (tLst (tCons (tVar 4) tNil))) (tSl (rSlL K) (tVar 1) (tPart (tVar 3)) tNoPart))) (tIfS (tTest (tOp rEq (tOp (rIxT K) (tVar 4) (tC (.int 0))) (tC (.str "section")))) (tAsg (tTup (tCons (tC (.str "section")) (tCons (tLst tNil) (tCons (tOp (rIxT K) (tVar 4) (tC (.int 2))) tNil)))) (gName 4)) (tIfS (tTest (tOp rEq (tOp (rIxT K) (tVar 4) (tC (.int 0))) (tC (.str "rounds")))) (tAsg (tTup (tCons (tC (.str "rounds")) (tCons (tOp (rIxL K) (tVar 2) (tCall (sp__law_take T) [] E0 (tCons (tVar 0) (tCons (tCB (gLenQ K) (tCons (tVar 2) tNil)) tNil)))) (tCons (tSl (rSlL K) (tOp (rIxT K) (tVar 4) (tC (.int 2))) tNoPart (tPart (tCall (sp__law_take T) [] E0 (tCons (tVar 0) (tCons (tC (.int 2)) tNil))))) (tCons (tOp (rIxT K) (tVar 4) (tC (.int 3))) tNil))))) (gName 4)) (tAsg (tCall (sp__law_spoilt_fields T l) [] E0 (tCons (tVar 0) (tCons (tVar 4) (tCons (tVar 2) tNil)))) (gName 4))))))))
  (tRet (tOp (rCatS K) (tOp (rCatS K) (tSl (rSlL K) (tVar 1) tNoPart (tPart (tVar 3))) (tLst (tCons (tVar 4) tNil))) (tSl (rSlL K) (tVar 1) (tPart (tOp (rI0 fun i j => .int (i + j)) (tVar 3) (tC (.int 1)))) tNoPart))))))),
(pss_cons (ps_set (i := 3) sc__law_spoilt.nd rfl (.inl rfl) (pe_call (G__law_take.mono (by omega)) hr (by rfl) T.g__law_take T.F__law_take.kp T.b__law_take .nil pass0 (pa_cons (pv 0) (pa_cons (pe_callB call_len_seq (by rfl) T.z_len (by decide +kernel) (pa_cons (pv 1) pa_nil)) pa_nil))))
  (pss_cons (ps_set (i := 4) sc__law_spoilt.nd rfl (.inl rfl) (pe_ix ix_list (pv 1) (pv 3) (fun _ _ => rfl)))
  (pss_cons (ps_set (i := 5) sc__law_spoilt.nd rfl (.inl rfl) (pe_call (G__law_take.mono (by omega)) hr (by rfl) T.g__law_take T.F__law_take.kp T.b__law_take .nil pass0 (pa_cons (pv 0) (pa_cons pe_int pa_nil))))
  (pss_cons (ps_if (PW.pt (pw_and (pt_cmpR op_in_seq (pe_ix ix_tup (pv 4) pe_int (fun _ _ => rfl)) (pe_lst (pa_cons pe_str (pa_cons pe_str pa_nil))) (by rfl)) (pw_and (pt_cmpR (op_neD hr.units) (pe_ix ix_tup (pv 4) (pe_un un_neg pe_int) (fun _ _ => rfl)) (pe_lst pa_nil) (nomark _)) (pw_and1 (pt_cmpR op_lt (pv 5) pe_int (nomark _)))))) (pss_one (ps_set (i := 4) sc__law_spoilt.nd rfl (.inl rfl) (pe_op op_catA (pe_slice sl_tupA (pv 4) po_none (po_some (pe_un un_neg pe_int))) (pe_tup (pa_cons (pe_call (G__law_spoilt.mono (by omega)) hr (by rfl) T.g__law_spoilt T.F__law_spoilt.kp T.b__law_spoilt .nil pass0 (pa_cons (pv 0) (pa_cons (pe_ix ix_tup (pv 4) (pe_un un_neg pe_int) (fun _ _ => rfl)) (pa_cons (pv 2) pa_nil)))) (pa_cons (pe_ix ix_tup (pv 4) (pe_un un_neg pe_int) (fun _ _ => rfl)) pa_nil)))))) (pss_one (ps_if (pt_cmpR op_eq (pv 5) pe_int (nomark _)) (pss_one (ps_set (i := 4) sc__law_spoilt.nd rfl (.inl rfl) (pe_op op_catA (pe_slice sl_tupA (pv 4) po_none (po_some (pe_un un_neg pe_int))) (pe_tup (pa_cons (pe_call (G__law_any_condition.mono (by omega)) hr (by rfl) T.g__law_any_condition T.F__law_any_condition.kp T.b__law_any_condition .nil pass0 (pa_cons (pv 0) (pa_cons (pv 2) pa_nil))) pa_nil))))) (pss_one (ps_if (pt_cmpR op_eq (pv 5) pe_int (nomark _)) (pss_one (ps_set (i := 4) sc__law_spoilt.nd rfl (.inl rfl) (pe_ix ix_list (pe_lst (pa_cons (pe_tup (pa_cons pe_str (pa_cons (pe_ix ix_list (pv 2) (pe_call (G__law_take.mono (by omega)) hr (by rfl) T.g__law_take T.F__law_take.kp T.b__law_take .nil pass0 (pa_cons (pv 0) (pa_cons (pe_callB call_len_seq (by rfl) T.z_len (by decide +kernel) (pa_cons (pv 2) pa_nil)) pa_nil))) (fun _ _ => rfl)) (pa_cons (pe_lst (pa_cons (pv 4) pa_nil)) (pa_cons pe_non pa_nil))))) (pa_cons (pe_tup (pa_cons pe_str (pa_cons (pe_lst (pa_cons (pv 4) pa_nil)) (pa_cons pe_non pa_nil)))) pa_nil))) (pe_op op_mod (pv 3) pe_int) (fun _ _ => rfl)))) (pss_one (ps_if (pt_cmpR op_eq (pv 5) pe_int (nomark _)) (pss_one (ps_ret (pe_op op_catS (pe_op op_catS (pe_slice sl_list (pv 1) po_none (po_some (pv 3))) (pe_lst (pa_cons (pv 4) pa_nil))) (pe_slice sl_list (pv 1) (po_some (pv 3)) po_none)))) (pss_one (ps_if (pt_cmpR op_eq (pe_ix ix_tup (pv 4) pe_int (fun _ _ => rfl)) pe_str (nomark _)) (pss_one (ps_set (i := 4) sc__law_spoilt.nd rfl (.inl rfl) (pe_tup (pa_cons pe_str (pa_cons (pe_lst pa_nil) (pa_cons (pe_ix ix_tup (pv 4) pe_int (fun _ _ => rfl)) pa_nil)))))) (pss_one (ps_if (pt_cmpR op_eq (pe_ix ix_tup (pv 4) pe_int (fun _ _ => rfl)) pe_str (nomark _)) (pss_one (ps_set (i := 4) sc__law_spoilt.nd rfl (.inl rfl) (pe_tup (pa_cons pe_str (pa_cons (pe_ix ix_list (pv 2) (pe_call (G__law_take.mono (by omega)) hr (by rfl) T.g__law_take T.F__law_take.kp T.b__law_take .nil pass0 (pa_cons (pv 0) (pa_cons (pe_callB call_len_seq (by rfl) T.z_len (by decide +kernel) (pa_cons (pv 2) pa_nil)) pa_nil))) (fun _ _ => rfl)) (pa_cons (pe_slice sl_list (pe_ix ix_tup (pv 4) pe_int (fun _ _ => rfl)) po_none (po_some (pe_call (G__law_take.mono (by omega)) hr (by rfl) T.g__law_take T.F__law_take.kp T.b__law_take .nil pass0 (pa_cons (pv 0) (pa_cons pe_int pa_nil))))) (pa_cons (pe_ix ix_tup (pv 4) pe_int (fun _ _ => rfl)) pa_nil))))))) (pss_one (ps_set (i := 4) sc__law_spoilt.nd rfl (.inl rfl) (pe_call (G__law_spoilt_fields.mono (by omega)) hr (by rfl) T.g__law_spoilt_fields T.F__law_spoilt_fields.kp T.b__law_spoilt_fields .nil pass0 (pa_cons (pv 0) (pa_cons (pv 4) (pa_cons (pv 2) pa_nil)))))))))))))))))
  (pss_one (ps_ret (pe_op op_catS (pe_op op_catS (pe_slice sl_list (pv 1) po_none (po_some (pv 3))) (pe_lst (pa_cons (pv 4) pa_nil))) (pe_slice sl_list (pv 1) (po_some (pe_op op_add (pv 3) pe_int)) po_none)))))))), ?_⟩
    let R : Rg := draw S r H dm mr
    have dr : Drw R r := drw_draw
    have I0 : R.I H := draw_refl hR
    have rlen : 0 < rows.length := List.length_pos_iff.mpr hrne
    have rle : rows.length ≤ 10000 := by have := len_cnts rows; have := hz.cnt; omega
    refine w_asg (R := R) (D := Dt K (isI fun k => 0 ≤ k ∧ k < (rows.length : Int))) (x_draw (N := fun n => n = (rows.length : Int)) dr (i := 0) rfl (x_len (A := fun d => d = .list (rowsP rows)) (x_d (i := 1) rfl hd1 rfl) fun d hd => ⟨_, .inl hd, ⟨_, rfl, by rw [rowsP_len]⟩⟩) (fun n hn => by omega) (fun n k hn h0 h1 => ⟨h0, by omega⟩)) I0 fun av H1 g1 hav => ?_
    obtain ⟨ai, rfl, ha0, ha1⟩ := dp_int_of hav
    obtain ⟨at', rfl⟩ := Int.eq_ofNat_of_zero_le ha0
    have hat : at' < rows.length := by omega
    obtain ⟨rw, hrw⟩ : ∃ rw, rows[at']? = some rw := ⟨_, List.getElem?_eq_getElem hat⟩
    have hmem := List.mem_of_getElem? hrw
    have z1 : Sz1 rw.cnt m l rw := ⟨hz.ok _ hmem, Nat.le_refl _, hz.dep _ hmem, hz.wid _ hmem⟩
    have split : cnts (rows.take at') + rw.cnt + cnts (rows.drop (at' + 1)) = cnts rows := by
      have h1 := cnts_take rows at'
      have h2 : rows.drop at' = rw :: rows.drop (at' + 1) := by
        rw [List.drop_eq_getElem_cons hat]
        have : rows[at'] = rw := by rw [List.getElem?_eq_getElem hat] at hrw; exact Option.some.inj hrw
        rw [this]
      rw [h2, cnts] at h1
      omega
    have hcr := hz.cnt
    refine w_asg (R := R) (D := Dt K (fun d => d = rw.py)) (x_ixL (A := fun d => d = .list (rowsP rows)) (N := fun k => k = (at' : Int)) (x_d (i := 1) rfl (dp_up g1.same hd1) rfl) (x_vi (i := 3) rfl rfl) fun d i hd hi => by
      subst hi
      exact ⟨_, rw.py, hd, atI_nat (by rw [rowsP_map, List.getElem?_map, hrw]; rfl), rfl⟩) g1.inv fun rv H2 g2 ⟨rd, hrd, rdp⟩ => ?_
    subst hrd
    refine w_asg (R := R) (D := Dt K (isI fun _ => True)) (x_draw (N := fun n => n = 6) dr (i := 0) rfl (x_i rfl) (fun n hn => by omega) (fun n k hn h0 h1 => trivial)) g2.inv fun wv H3 g3 hwv => ?_
    obtain ⟨way, rfl, _⟩ := dp_int_of hwv
    have g03 := (g1.trans g2).trans g3
    have rdp3 := dp_up g3.same rdp
    have d13 := dp_up g03.same hd1
    have d23 := dp_up g03.same hd2
    have give : ∀ {v H1 c'}, Go R H H1 → c' ≤ 2 * c + 1 → (Dt K (rowsD c' (m + 1) (l + 6))).p (R.off H1) v → Q v H1 := fun {v H1 c'} g le ⟨d, ⟨rs, h1, h2⟩, dp⟩ => q v d H1 (draw_fr g) ⟨rs, h1, h2.mono le (Nat.le_refl _) (Nat.le_refl _)⟩ dp
    have zs : Sz c (m + 1) (l + 6) rows := hz.mono (Nat.le_refl _) (by omega) (by omega)
    -- the end
    have fin : ∀ {v H4} {cr : Nat}, Go R H3 H4 → cr ≤ 2 * rw.cnt + 1 → (Dt K (rowD cr (m + 1) (l + 6))).p (R.off H4) v → tRet (tOp (rCatS K) (tOp (rCatS K) (tSl (rSlL K) (tVar 1) tNoPart (tPart (tVar 3))) (tLst (tCons (tVar 4) tNil))) (tSl (rSlL K) (tVar 1) (tPart (tOp (rI0 fun i j => V.int (i + j)) (tVar 3) (tC (V.int 1)))) tNoPart)) { nx := fun _ H' => Q V.non H', rt := Q } [some (.ref r), some v1, some v2, some (.int (at' : Int)), some v, some (.int way)] H4 := fun {v H4 cr} g4 le hv => by
      have d14 := dp_up g4.same d13
      refine w_ret (R := R) (x_rcat (x_rcat (x_rto (at' := at') (j := 1) rfl d14 zs (x_vi (i := 3) rfl rfl)) (x_r1 (c := cr) (x_var (i := 4) rfl hv)) (by omega)) (x_rfrom (at' := at' + 1) (j := 1) rfl d14 zs (x_I0 (P := isI fun k => k = ((at' + 1 : Nat) : Int)) (A := fun k => k = (at' : Int)) (B := fun k => k = 1) (x_vi (i := 3) rfl rfl) (x_i rfl) fun a b ha hb => ⟨_, rfl, by omega⟩)) (by omega)) g4.inv fun v H5 g5 hv => give ((g03.trans g4).trans g5) (by omega) hv
    have t6 : ∀ {d}, rowD rw.cnt m l d → rowD (2 * rw.cnt + 1) (m + 1) (l + 6) d := fun {d} ⟨r, h1, h2⟩ => ⟨r, h1, h2.mono (by omega) (by omega) (by omega)⟩
    refine w_if (R := R) (B := fun b => b = true → ∃ inn, rw.inn = some inn ∧ inn ≠ []) (xt_and (A := fun b => b = rw.inn.isSome) (B := fun b => b = true → ∃ inn, rw.inn = some inn ∧ inn ≠ []) (xt_isInn (j := 4) rfl rdp3) (fun hI => ?_) (fun _ z => by cases z) (fun b _ hb => hb)) g3.inv (fun H4 g4 hb => ?_) (fun H4 g4 _ => ?_)
    · obtain ⟨inn, hinn⟩ := Option.isSome_iff_exists.mp hI.symm
      obtain ⟨pre, hI', _⟩ := Rw.inn_of hinn
      obtain ⟨k1, k2, k3⟩ := z1.inn hinn
      refine xt_and (A := fun b => b = !inn.isEmpty) (B := fun _ => True) (xt_test (x_neD (K := K) (A := fun d => d = .list (rowsP inn)) (B := fun d => d = .list []) (x_m2 (j := 4) rfl rdp3 hI' rfl) (x_li ds_nil fun ds al => by cases al; rfl) fun d e hd he => by
        subst hd he
        exact ⟨k3.shp (by omega), shp_nil, by rw [eqv_nil]; cases inn <;> rfl⟩)) (fun _ => xt_test (x_cmpI (K := K) (p := fun i j => decide (i < j)) (A := fun _ => True) (B := fun _ => True) (x_vi (i := 5) rfl trivial) (x_i trivial) fun _ _ _ _ => trivial)) (fun _ z => by cases z) (fun b h _ _ => ⟨inn, hinn, fun z => by rw [z] at h; cases h⟩)
    · -- within
      obtain ⟨inn, hinn, hin⟩ := hb rfl
      obtain ⟨pre, hI', hmk⟩ := Rw.inn_of hinn
      obtain ⟨k1, k2, k3⟩ := z1.inn hinn
      obtain ⟨m', rfl⟩ := Nat.exists_eq_succ_of_ne_zero (show m ≠ 0 by omega)
      have k3 : Sz (cnts inn) m' l inn := k3
      have rdp4 := dp_up g4.same rdp3
      have d24 := dp_up g4.same d23
      have py4 := rdp4
      rw [hI'.py] at py4
      refine w_asg1 (R := R) (D := Dt K (rowD (2 * cnts inn + 1 + 1) (m' + 1 + 1) (l + 6))) (x_catT (A := fun d => d = .tuple pre) (B := fun d => ∃ rows', Sz (2 * cnts inn + 1) (m' + 1) (l + 6) rows' ∧ d = .tuple [.list (rowsP rows'), ocP rw.wh]) (x_slT (A := fun d => d = .tuple (pre ++ [.list (rowsP inn), ocP rw.wh])) (x_d (i := 4) rfl py4 rfl) xo_none (xo_some (K := K) (A := fun i => i = -2) (x_neg (A := fun i => i = 2) (x_i rfl) fun i hi => ⟨_, rfl, by rw [hi]⟩)) fun d lo hi hd hlo hhi => ?_) (x_tu (ds_cons (x_drawnI (P := rowsD (2 * cnts inn + 1) (m' + 1) (l + 6)) (Pre := spoiltPre m' (cnts inn) l) (Post := fun _ d => rowsD (2 * cnts inn + 1) (m' + 1) (l + 6) d) (Ps := [fun d => d = .list (rowsP inn), fun d => d = .list (ss.map .str)]) (fun vs H Q E h => hc m' rfl _ _ _ _ ⟨_, _, h⟩) dr (i := 0) rfl (ds_cons (x_m2 (j := 4) rfl rdp4 hI' rfl) (ds_cons (x_d (i := 2) rfl d24 rfl) ds_nil)) (fun ds al => ?_) (fun _ d _ h => h)) (ds_cons (x_m1 (P := fun d => d = ocP rw.wh) (j := 4) rfl rdp4 rfl) ds_nil)) fun ds al => ?_) fun d e hd ⟨rows', hz', he⟩ => ?_) g4.inv fun v H5 g5 hv => ?_
      · obtain ⟨_, rfl, rfl⟩ := hhi
        subst hlo
        exact ⟨_, hd, by rw [cut_neg2]⟩
      · obtain ⟨a, b, rfl, rfl, rfl⟩ := al2 al
        exact ⟨inn, _, rfl, hin, ⟨ss, hne, hlen, hss, rfl⟩, k3, by omega, hl1, by omega⟩
      · obtain ⟨a, b, rfl, ⟨rows', rfl, hz'⟩, rfl⟩ := al2 al
        exact ⟨rows', hz', rfl⟩
      · obtain ⟨r', h1, h2⟩ := hmk rows'
        exact ⟨_, _, hd, he, by have := hI'.len; simp; omega, r', h1.symm, h2 z1.ok hz'⟩
      · exact fin (g4.trans g5) (by omega) hv
    have g4' := g4
    refine w_if1 (R := R) (B := fun _ => True) (xt_test (x_eqI (K := K) (A := fun i => True) (B := fun i => True) (x_vi (i := 5) rfl trivial) (x_i trivial) fun _ _ _ _ => trivial)) g4.inv (fun H5 g5 _ => ?_) (fun H5 g5 _ => ?_)
    · -- another condition
      have g35 := g4.trans g5
      have py5 := dp_up g35.same rdp3
      have d25 := dp_up g35.same d23
      rw [Rw.py_mid] at py5
      refine w_asg1 (R := R) (D := Dt K (rowD rw.cnt m l)) (x_catT (A := fun d => d = .tuple (.str rw.kd :: rw.mid)) (B := fun d => ∃ c, ocOk c ∧ d = .tuple [ocP c]) (x_slT (A := fun d => d = .tuple ((.str rw.kd :: rw.mid) ++ [ocP rw.wh])) (x_d (i := 4) rfl py5 rfl) xo_none (xo_some (K := K) (A := fun i => i = -1) (x_neg (A := fun i => i = 1) (x_i rfl) fun i hi => ⟨_, rfl, by rw [hi]⟩)) fun d lo hi hd hlo hhi => ?_) (x_tu (ds_cons (x_drawn (P := cnP 1) dr (i := 0) rfl (Ps := [fun d => d = .list (ss.map .str)]) (ds_cons (x_d (i := 2) rfl d25 rfl) ds_nil) (fun ds al => by
          cases al with
          | cons h1 t => cases t; exact ⟨_, rfl, ss, hne, hlen, hss, h1⟩) (fun _ d _ h => h)) ds_nil) fun ds al => ?_) fun d e hd ⟨c', hc', he⟩ => ?_) g5.inv fun v H6 g6 hv => ?_
      · obtain ⟨_, rfl, rfl⟩ := hhi
        subst hlo
        exact ⟨_, hd, by rw [cut_neg1]⟩
      · cases al with
        | cons h1 t =>
          cases t
          obtain ⟨c', a1, a2, rfl⟩ := h1
          exact ⟨some c', ⟨a1, Nat.le_trans a2 (by decide)⟩, rfl⟩
      · exact ⟨_, _, hd, he, by cases rw <;> simp [Rw.mid], rw.withC c', by rw [Rw.withC_py], z1.withC hc'⟩
      · obtain ⟨d, hd, dp⟩ := hv
        exact fin (g35.trans g6) (Nat.le_refl _) ⟨d, t6 hd, dp⟩
    have g35 := g4.trans g5
    refine w_if1 (R := R) (B := fun _ => True) (xt_test (x_eqI (K := K) (A := fun i => True) (B := fun i => True) (x_vi (i := 5) rfl trivial) (x_i trivial) fun _ _ _ _ => trivial)) g5.inv (fun H6 g6 _ => ?_) (fun H6 g6 _ => ?_)
    · -- one within another
      have g36 := g35.trans g6
      have r6 := dp_up g36.same rdp3
      have d26 := dp_up g36.same d23
      have inner : EvX R (tLst (tCons (tVar 4) tNil)) [some (.ref r), some v1, some v2, some (.int (at' : Int)), some rv, some (.int way)] H6 (Dt K (rowsD rw.cnt m l)) := x_r1 (x_d (i := 4) rfl r6 ⟨rw, rfl, z1⟩)
      refine w_asg1 (R := R) (D := Dt K (rowD (rw.cnt + 1) (m + 1) l)) (x_menu (n := 2) (Ps := [rowD (rw.cnt + 1) (m + 1) l, rowD (rw.cnt + 1) (m + 1) l]) (ds_cons (x_tu (ds_cons (x_s (A := fun s => s = "rounds") rfl) (ds_cons (x_pick (P := isS sOk) dr (i := 0) rfl (j := 2) rfl d26 (by simpa using hne) (by rw [List.length_map]; omega) (mem_strs hss)) (ds_cons inner (ds_cons x_n ds_nil)))) fun ds al => by
          obtain ⟨a, b, c', d, rfl, ⟨_, rfl, rfl⟩, ⟨n, rfl, hn⟩, ⟨rows', rfl, hr'⟩, rfl⟩ := al4 al
          exact ⟨.rnd n rows' none, by simp only [Rw.py]; rfl, hr'.rnd hn trivial⟩) (ds_cons (x_tu (ds_cons (x_s (A := fun s => s = "section") rfl) (ds_cons inner (ds_cons x_n ds_nil))) fun ds al => by
          obtain ⟨a, b, c', rfl, ⟨_, rfl, rfl⟩, ⟨rows', rfl, hr'⟩, rfl⟩ := al3 al
          exact ⟨.sec rows' none, by simp only [Rw.py]; rfl, hr'.sec trivial⟩) ds_nil)) rfl (fun ds al => al_mem al fun P hP d hd => by simp only [List.mem_cons, List.not_mem_nil, or_false, or_self] at hP; subst hP; exact hd) (x_IC (A := fun _ => True) (B := fun j => j = 2) (x_vi (i := 3) rfl trivial) (x_i rfl) fun a b _ hb => by subst hb; exact ⟨by decide, _, rfl, Int.emod_nonneg _ (by decide), Int.emod_lt_of_pos _ (by decide)⟩)) g6.inv fun v H7 g7 ⟨d, ⟨r', h1, h2⟩, dp⟩ => ?_
      exact fin (cr := rw.cnt + 1) (g36.trans g7) (by omega) ⟨d, ⟨r', h1, h2.mono (Nat.le_refl _) (Nat.le_refl _) (by omega)⟩, dp⟩
    have g36 := g35.trans g6
    refine w_if1 (R := R) (B := fun _ => True) (xt_test (x_eqI (K := K) (A := fun i => True) (B := fun i => True) (x_vi (i := 5) rfl trivial) (x_i trivial) fun _ _ _ _ => trivial)) g6.inv (fun H7 g7 _ => ?_) (fun H7 g7 _ => ?_)
    · -- one twice
      have g37 := g36.trans g7
      have r7 := dp_up g37.same rdp3
      have d17 := dp_up g37.same d13
      refine w_ret (R := R) (x_rcat (x_rcat (x_rto (at' := at') (j := 1) rfl d17 zs (x_vi (i := 3) rfl rfl)) (x_r1 (c := rw.cnt) (x_d (i := 4) rfl r7 ⟨rw, rfl, z1.mono (Nat.le_refl _) (by omega) (by omega)⟩)) (by omega)) (x_rfrom (at' := at') (j := 1) rfl d17 zs (x_vi (i := 3) rfl rfl)) (by have := cnts_take rows at'; omega)) g7.inv fun v H8 g8 hv => give ((g03.trans g37).trans g8) (by have := cnts_take rows at'; omega) hv
    have g37 := g36.trans g7
    have r7 := dp_up g37.same rdp3
    have d27 := dp_up g37.same d23
    have py7 := r7
    rw [Rw.py_tl] at py7
    refine w_if1 (R := R) (B := fun b => b = decide (rw.kd = "section")) (xt_test (x_eqS (K := K) (A := fun s => s = rw.kd) (B := fun s => s = "section") (x_at (j := 4) (n := 0) rfl py7 rfl ⟨_, rfl, rfl⟩) (x_s rfl) fun a b ha hb => by rw [ha, hb])) g7.inv (fun H8 g8 hb => ?_) (fun H8 g8 hb => ?_)
    · -- an empty section
      have e8 := dp_up g8.same r7
      obtain ⟨inn, c', rfl⟩ := Rw.kd_sec (of_decide_eq_true hb.symm)
      · rw [Rw.py] at e8
        refine w_asg1 (R := R) (D := Dt K (rowD 1 1 l)) (x_tu (ds_cons (x_s (A := fun s => s = "section") rfl) (ds_cons (x_li (P := fun d => d = .list []) ds_nil fun ds al => by cases al; rfl) (ds_cons (x_at (P := fun d => d = ocP c') (j := 4) (n := 2) rfl e8 rfl rfl) ds_nil))) fun ds al => by
          obtain ⟨a, b, c2, rfl, ⟨_, rfl, rfl⟩, rfl, rfl⟩ := al3 al
          exact ⟨.sec [] c', by simp only [Rw.py, rowsP], ⟨trivial, z1.ok.2⟩, by simp [Rw.cnt, cnts], by simp [Rw.dep, deps], by simp [Rw.wid, wids]⟩) g8.inv fun v H9 g9 ⟨d, ⟨r', h1, h2⟩, dp⟩ => ?_
        exact fin (cr := 1) ((g37.trans g8).trans g9) (by omega) ⟨d, ⟨r', h1, h2.mono (Nat.le_refl _) (by omega) (by omega)⟩, dp⟩
    have g38 := g37.trans g8
    have r8 := dp_up g8.same r7
    have d28 := dp_up g8.same d27
    have py8 := dp_up g8.same py7
    refine w_if1 (R := R) (B := fun b => b = decide (rw.kd = "rounds")) (xt_test (x_eqS (K := K) (A := fun s => s = rw.kd) (B := fun s => s = "rounds") (x_at (j := 4) (n := 0) rfl py8 rfl ⟨_, rfl, rfl⟩) (x_s rfl) fun a b ha hb => by rw [ha, hb])) g8.inv (fun H9 g9 hb' => ?_) (fun H9 g9 hb' => ?_)
    · -- other rounds
      have e9 := dp_up g9.same r8
      have d29 := dp_up g9.same d28
      obtain ⟨n, inn, c', rfl⟩ := Rw.kd_rnd (of_decide_eq_true hb'.symm)
      · rw [Rw.py] at e9
        obtain ⟨k1, k2, k3⟩ := z1.inn (inn := inn) rfl
        refine w_asg1 (R := R) (D := Dt K (rowD (cnts inn + 1) (m - 1 + 1) l)) (x_tu (ds_cons (x_s (A := fun s => s = "rounds") rfl) (ds_cons (x_pick (P := isS sOk) dr (i := 0) rfl (j := 2) rfl d29 (by simpa using hne) (by rw [List.length_map]; omega) (mem_strs hss)) (ds_cons (x_slL (P := rowsD (cnts inn) (m - 1) l) (A := fun d => d = .list (rowsP inn)) (x_at (j := 4) (n := 2) rfl e9 rfl rfl) xo_none (xo_some (K := K) (A := fun _ => True) (x_draw (N := fun n => n = 2) dr (i := 0) rfl (x_i rfl) (fun n hn => by omega) (fun n k hn h0 h1 => trivial))) fun d lo hi hd _ _ => ⟨_, hd, cutG inn lo hi, by rw [rowsP_map, rowsP_map, cut_map], k3.cut lo hi⟩) (ds_cons (x_at (P := fun d => d = ocP c') (j := 4) (n := 3) rfl e9 rfl rfl) ds_nil)))) fun ds al => by
          obtain ⟨a, b, c2, d, rfl, ⟨_, rfl, rfl⟩, ⟨n', rfl, hn⟩, ⟨rows', rfl, hr'⟩, rfl⟩ := al4 al
          exact ⟨.rnd n' rows' c', by simp only [Rw.py], hr'.rnd hn z1.ok.2.2⟩) g9.inv fun v H10 g10 ⟨d, ⟨r', h1, h2⟩, dp⟩ => ?_
        exact fin (cr := cnts inn + 1) ((g38.trans g9).trans g10) (by omega) ⟨d, ⟨r', h1, h2.mono (Nat.le_refl _) (by omega) (by omega)⟩, dp⟩
    · -- other fields
      have e9 := dp_up g9.same r8
      have d29 := dp_up g9.same d28
      have hleaf : leafR rw = true := by
        cases rw with
        | one => rfl
        | som => rfl
        | number => rfl
        | check => rfl
        | sec => exact absurd rfl (of_decide_eq_false hb.symm)
        | rnd => exact absurd rfl (of_decide_eq_false hb'.symm)
      refine w_asg1 (R := R) (D := Dt K (rowD 1 0 (l + 6))) (x_drawn dr (i := 0) rfl (Ps := [fun d => d = rw.py, fun d => d = .list (ss.map .str)]) (ds_cons (x_d (i := 4) rfl e9 rfl) (ds_cons (x_d (i := 2) rfl d29 rfl) ds_nil)) (fun ds al => by
        obtain ⟨a, b, rfl, rfl, rfl⟩ := al2 al
        exact ⟨rw, _, rfl, ⟨ss, hne, hlen, hss, rfl⟩, hleaf, z1.ok, z1.wid, hl1⟩) (fun _ d _ h => h)) g9.inv fun v H10 g10 ⟨d, ⟨r', h1, h2⟩, dp⟩ => ?_
      exact fin (cr := 1) ((g38.trans g9).trans g10) (by omega) ⟨d, ⟨r', h1, h2.mono (Nat.le_refl _) (by omega) (Nat.le_refl _)⟩, dp⟩
theorem ok__law_spoilt (T : Txt K mg) : ∀ m, FnOk P w K mg base CX0 (m + 5) T.a__law_spoilt T.d__law_spoilt ["_law_source_here", "_law_rows_here", "_law_every"] (sp__law_spoilt T m)
  | 0 => spoilt_body T (fun _ _ _ _ => False) 0 0 (ok_none fun _ _ _ _ h => h) fun m' e => by omega
  | m + 1 => spoilt_body T (sp__law_spoilt T m) (m + 1) (m + 1) (ok__law_spoilt T m) fun m' e vs H Q E h => by
    have : m' = m := by omega
    subst this
    exact h
end SF
namespace SF
open PySem PySem.Spec PyProof.Rows L2 GK Evl LamX
variable {P : Program} {w : World} {K : PySem.W.Frag} {mg : Str → Option Value} {base : Heap}
section
variable {H H1 H2 : Hp} {x dx C : Addr} {fs : List (Str × V)} {o1 o2 : HO}
theorem made_same (hx : H x = none) (hd : H dx = none) (i : Inst (upd (upd H dx o1) x o2) x C fs H2) : Same H H2 := fun b o hb => by
  have n1 : b ≠ x := fun z => by rw [z, hx] at hb; cases hb
  have n2 : b ≠ dx := fun z => by rw [z, hd] at hb; cases hb
  exact i.keep b o (by rw [upd_ne n1, upd_ne n2]; exact hb) n1
theorem made_at (hx : H x = none) (i : Inst H1 x C fs H2) : ∃ d, dif H H2 x = some (.ins C d fs) := by
  obtain ⟨d, h⟩ := i.obj
  exact ⟨d, dif_some.mpr ⟨hx, h⟩⟩
theorem fresh_of (e : Same H H1) (h : H1 x = none) : H x = none := by
  cases z : H x with
  | none => rfl
  | some o => rw [e _ _ z] at h; cases h
end
section
variable {σ : L2.St} {H : Hp} {D : Ends} {tu tz : TS} {te : TE} {s t : Str}
theorem q_not (he : Ev te σ H (.str s)) (ne : s ≠ t) (k : ∀ H1, Same H H1 → tz D σ H1) : tSeq (tIfS (tTest (tOp rEq te (tC (.str t)))) tu tNext) tz D σ H := q_when (et_test (ev_eqS he ev_c rfl)) (fun hb H1 e1 => absurd (V.str.inj (of_decide_eq_true hb)) ne) (fun hb H1 e1 => k H1 e1)
theorem q_yes (he : Ev te σ H (.str s)) (k : ∀ H1, Same H H1 → tu { D with nx := tz D } σ H1) : tSeq (tIfS (tTest (tOp rEq te (tC (.str s)))) tu tNext) tz D σ H := q_when (et_test (ev_eqS he ev_c rfl)) (fun hb H1 e1 => k H1 e1) (fun hb H1 e1 => absurd rfl (of_decide_eq_false hb))
end
/-! ### _law_made_condition -/
def sp__law_made_condition (T : Txt K mg) (m : Nat) : Sp := fun vs H Q _ => ∃ (v : V) (c : Option Cnd), vs = [v] ∧ Dp K H v (ocP c) ∧ (∀ c', c = some c' → c'.dep ≤ m) ∧ ∀ u H', Same H H' → OCondO T (dif H H') u c → Q u H'
theorem made_cond_body (T : Txt K mg) (sp' : Sp) (j m : Nat) (G__law_made_condition : FnOk P w K mg base CX0 (j + 2) T.a__law_made_condition T.d__law_made_condition ["_law_cond"] sp')
    (hc : ∀ m', m = m' + 1 → ∀ vs H Q E, sp__law_made_condition T m' vs H Q E → sp' vs H Q E) : FnOk P w K mg base CX0 (j + 3) T.a__law_made_condition T.d__law_made_condition ["_law_cond"] (sp__law_made_condition T m) := by
  have G_Is_new : FnOk P w K mg base CX0 1 T.a_Is_new T.d_Is_new ["self", "name", "option"] (sp_Is_new T) := ok_Is_new T
  have G_Has_new : FnOk P w K mg base CX0 1 T.a_Has_new T.d_Has_new ["self", "name", "option"] (sp_Has_new T) := ok_Has_new T
  have G_Above_new : FnOk P w K mg base CX0 1 T.a_Above_new T.d_Above_new ["self", "name", "number"] (sp_Above_new T) := ok_Above_new T
  have G_Below_new : FnOk P w K mg base CX0 1 T.a_Below_new T.d_Below_new ["self", "name", "number"] (sp_Below_new T) := ok_Below_new T
  have G_Not_new : FnOk P w K mg base CX0 1 T.a_Not_new T.d_Not_new ["self", "inner"] (sp_Not_new T) := ok_Not_new T
  have G_Both_new : FnOk P w K mg base CX0 1 T.a_Both_new T.d_Both_new ["self", "left", "right"] (sp_Both_new T) := ok_Both_new T
  have G_Either_new : FnOk P w K mg base CX0 1 T.a_Either_new T.d_Either_new ["self", "left", "right"] (sp_Either_new T) := ok_Either_new T
  refine T.F__law_made_condition.ok sc__law_made_condition (fun vs H Q E h => ?_) (fun cdv A outer s H vs Q E hr h => ?_)
  · obtain ⟨v, c, rfl, _⟩ := h
    rfl
  · obtain ⟨v, c, rfl, hd, hm, q⟩ := h
    refine ⟨(tSeq (tIfS (tTest (tOp rIsN (tVar 0) (tC .non))) (tRet (tC .non)) tNext)
  (tSeq (tAsg (tOp (rIxT K) (tVar 0) (tC (.int 0))) (gName 1))
  (tSeq (tIfS (tTest (tOp rEq (tVar 1) (tC (.str "is")))) (tRet (tMake T.C_Is (sp_Is_new T) [] E0 (tCons (tOp (rIxT K) (tVar 0) (tC (.int 1))) (tCons (tOp (rIxT K) (tVar 0) (tC (.int 2))) tNil)))) tNext)
  (tSeq (tIfS (tTest (tOp rEq (tVar 1) (tC (.str "has")))) (tRet (tMake T.C_Has (sp_Has_new T) [] E0 (tCons (tOp (rIxT K) (tVar 0) (tC (.int 1))) (tCons (tOp (rIxT K) (tVar 0) (tC (.int 2))) tNil)))) tNext)
  (tSeq (tIfS (tTest (tOp rEq (tVar 1) (tC (.str "above")))) (tRet (tMake T.C_Above (sp_Above_new T) [] E0 (tCons (tOp (rIxT K) (tVar 0) (tC (.int 1))) (tCons (tOp (rIxT K) (tVar 0) (tC (.int 2))) tNil)))) tNext)
  (tSeq (tIfS (tTest (tOp rEq (tVar 1) (tC (.str "below")))) (tRet (tMake T.C_Below (sp_Below_new T) [] E0 (tCons (tOp (rIxT K) (tVar 0) (tC (.int 1))) (tCons (tOp (rIxT K) (tVar 0) (tC (.int 2))) tNil)))) tNext)
  (tSeq (tIfS (tTest (tOp rEq (tVar 1) (tC (.str "not")))) (tRet (tMake T.C_Not (sp_Not_new T) [] E0 (tCons (tCall sp' [] E0 (tCons (tOp (rIxT K) (tVar 0) (tC (.int 1))) tNil)) tNil))) tNext)
  (tSeq (tIfS (tTest (tOp rEq (tVar 1) (tC (.str "both")))) (tRet (tMake T.C_Both (sp_Both_new T) [] E0 (tCons (tCall sp' [] E0 (tCons (tOp (rIxT K) (tVar 0) (tC (.int 1))) tNil)) (tCons (tCall sp' [] E0 (tCons (tOp (rIxT K) (tVar 0) (tC (.int 2))) tNil)) tNil)))) tNext)
  (tRet (tMake T.C_Either (sp_Either_new T) [] E0 (tCons (tCall sp' [] E0 (tCons (tOp (rIxT K) (tVar 0) (tC (.int 1))) tNil)) (tCons (tCall sp' [] E0 (tCons (tOp (rIxT K) (tVar 0) (tC (.int 2))) tNil)) tNil)))))))))))),
(pss_cons (ps_if (pt_cmpR op_isN1 (pv 0) pe_non (nomark _)) (pss_one (ps_ret pe_non)) pss_nil)
  (pss_cons (ps_set (i := 1) sc__law_made_condition.nd rfl (.inl rfl) (pe_ix ix_tup (pv 0) pe_int (fun _ _ => rfl)))
  (pss_cons (ps_if (pt_cmpR op_eq (pv 1) pe_str (nomark _)) (pss_one (ps_ret (pe_make T.M_Is (G_Is_new.mono (by omega)) hr (by rfl) T.gc_Is T.b_Is_new .nil pass0 (pa_cons (pe_ix ix_tup (pv 0) pe_int (fun _ _ => rfl)) (pa_cons (pe_ix ix_tup (pv 0) pe_int (fun _ _ => rfl)) pa_nil))))) pss_nil)
  (pss_cons (ps_if (pt_cmpR op_eq (pv 1) pe_str (nomark _)) (pss_one (ps_ret (pe_make T.M_Has (G_Has_new.mono (by omega)) hr (by rfl) T.gc_Has T.b_Has_new .nil pass0 (pa_cons (pe_ix ix_tup (pv 0) pe_int (fun _ _ => rfl)) (pa_cons (pe_ix ix_tup (pv 0) pe_int (fun _ _ => rfl)) pa_nil))))) pss_nil)
  (pss_cons (ps_if (pt_cmpR op_eq (pv 1) pe_str (nomark _)) (pss_one (ps_ret (pe_make T.M_Above (G_Above_new.mono (by omega)) hr (by rfl) T.gc_Above T.b_Above_new .nil pass0 (pa_cons (pe_ix ix_tup (pv 0) pe_int (fun _ _ => rfl)) (pa_cons (pe_ix ix_tup (pv 0) pe_int (fun _ _ => rfl)) pa_nil))))) pss_nil)
  (pss_cons (ps_if (pt_cmpR op_eq (pv 1) pe_str (nomark _)) (pss_one (ps_ret (pe_make T.M_Below (G_Below_new.mono (by omega)) hr (by rfl) T.gc_Below T.b_Below_new .nil pass0 (pa_cons (pe_ix ix_tup (pv 0) pe_int (fun _ _ => rfl)) (pa_cons (pe_ix ix_tup (pv 0) pe_int (fun _ _ => rfl)) pa_nil))))) pss_nil)
  (pss_cons (ps_if (pt_cmpR op_eq (pv 1) pe_str (nomark _)) (pss_one (ps_ret (pe_make T.M_Not (G_Not_new.mono (by omega)) hr (by rfl) T.gc_Not T.b_Not_new .nil pass0 (pa_cons (pe_call (G__law_made_condition.mono (by omega)) hr (by rfl) T.g__law_made_condition T.F__law_made_condition.kp T.b__law_made_condition .nil pass0 (pa_cons (pe_ix ix_tup (pv 0) pe_int (fun _ _ => rfl)) pa_nil)) pa_nil)))) pss_nil)
  (pss_cons (ps_if (pt_cmpR op_eq (pv 1) pe_str (nomark _)) (pss_one (ps_ret (pe_make T.M_Both (G_Both_new.mono (by omega)) hr (by rfl) T.gc_Both T.b_Both_new .nil pass0 (pa_cons (pe_call (G__law_made_condition.mono (by omega)) hr (by rfl) T.g__law_made_condition T.F__law_made_condition.kp T.b__law_made_condition .nil pass0 (pa_cons (pe_ix ix_tup (pv 0) pe_int (fun _ _ => rfl)) pa_nil)) (pa_cons (pe_call (G__law_made_condition.mono (by omega)) hr (by rfl) T.g__law_made_condition T.F__law_made_condition.kp T.b__law_made_condition .nil pass0 (pa_cons (pe_ix ix_tup (pv 0) pe_int (fun _ _ => rfl)) pa_nil)) pa_nil))))) pss_nil)
  (pss_one (ps_ret (pe_make T.M_Either (G_Either_new.mono (by omega)) hr (by rfl) T.gc_Either T.b_Either_new .nil pass0 (pa_cons (pe_call (G__law_made_condition.mono (by omega)) hr (by rfl) T.g__law_made_condition T.F__law_made_condition.kp T.b__law_made_condition .nil pass0 (pa_cons (pe_ix ix_tup (pv 0) pe_int (fun _ _ => rfl)) pa_nil)) (pa_cons (pe_call (G__law_made_condition.mono (by omega)) hr (by rfl) T.g__law_made_condition T.F__law_made_condition.kp T.b__law_made_condition .nil pass0 (pa_cons (pe_ix ix_tup (pv 0) pe_int (fun _ _ => rfl)) pa_nil)) pa_nil))))))))))))), ?_⟩
    have deep : ∀ {σ : L2.St} {H1 : Hp} {te : TE} {u : V} {c1 : Cnd}, c1.dep + 1 ≤ m → Ev te σ H1 u → Dp K H1 u c1.py → EvN (tCall sp' [] E0 (tCons te tNil)) σ H1 (fun H' v => CondO T H' v c1) := fun {σ H1 te u c1} le he hu H2 e2 Q' q' => by
      obtain ⟨m', rfl⟩ := Nat.exists_eq_succ_of_ne_zero (show m ≠ 0 by omega)
      exact he H2 e2 _ fun H3 e3 => hc m' rfl _ _ _ _ ⟨u, some c1, rfl, dp_up (e2.trans e3) hu, fun c' z => by cases z; omega, fun v H' e hv => q' v H' (e3.trans e) (CondO.up (dif_mono e3 (Same.refl _)) hv)⟩
    cases c with
    | none =>
      have : v = .non := by cases hd; rfl
      subst this
      exact q_when (et_test (ev_isN (ev_var rfl))) (fun hb H1 e1 => s_ret ev_c fun H2 e2 => q _ H2 (e1.trans e2) rfl) (fun hb H1 e1 => absurd rfl (of_decide_eq_false hb))
    | some c =>
    have hm := hm c rfl
    cases c with
    | is n o =>
      obtain ⟨t, x, y, z, rfl, ht, hx, hy, hz⟩ := dp_t3 hd
      cases hx
      cases hy
      cases hz
      refine q_when (et_test (ev_isN (ev_var rfl))) (fun hb H1 e1 => nomatch (of_decide_eq_true hb)) (fun hb H1 e1 => ?_)
      refine q_asg (ev_ixT (ev_var rfl) ev_c (st_mono e1 ht) (atI_nat (j := 0) rfl)) fun H2 e2 => ?_
      have e02 := e1.trans e2
      refine q_yes (ev_var (i := 1) rfl) fun H3 e3 => ?_
      have e03 := e02.trans e3
      refine (ev_ixT (ev_var (i := 0) rfl) ev_c (st_mono e03 ht) (atI_nat (j := 1) rfl)) H3 (Same.refl _) _ fun Ha ea => (ev_ixT (ev_var (i := 0) rfl) ev_c (st_mono e03 ht) (atI_nat (j := 2) rfl)) Ha ea _ fun Hb eb x dx hx hdx ne => ⟨x, dx, _, _, rfl, upd_same, fun H9 i9 => ⟨rfl, ?_⟩⟩
      have e9 := e03.trans (ea.trans eb)
      obtain ⟨d, h9⟩ := made_at (fresh_of e9 hx) i9
      exact q _ H9 (e9.trans (made_same hx hdx i9)) (CondO.is h9)
    | has n o =>
      obtain ⟨t, x, y, z, rfl, ht, hx, hy, hz⟩ := dp_t3 hd
      cases hx
      cases hy
      cases hz
      refine q_when (et_test (ev_isN (ev_var rfl))) (fun hb H1 e1 => nomatch (of_decide_eq_true hb)) (fun hb H1 e1 => ?_)
      refine q_asg (ev_ixT (ev_var rfl) ev_c (st_mono e1 ht) (atI_nat (j := 0) rfl)) fun H2 e2 => ?_
      have e02 := e1.trans e2
      refine q_not (ev_var (i := 1) rfl) (by decide) fun H3 e3 => ?_
      have e03 := e02.trans e3
      refine q_yes (ev_var (i := 1) rfl) fun H4 e4 => ?_
      have e04 := e03.trans e4
      refine (ev_ixT (ev_var (i := 0) rfl) ev_c (st_mono e04 ht) (atI_nat (j := 1) rfl)) H4 (Same.refl _) _ fun Ha ea => (ev_ixT (ev_var (i := 0) rfl) ev_c (st_mono e04 ht) (atI_nat (j := 2) rfl)) Ha ea _ fun Hb eb x dx hx hdx ne => ⟨x, dx, _, _, rfl, upd_same, fun H9 i9 => ⟨rfl, ?_⟩⟩
      have e9 := e04.trans (ea.trans eb)
      obtain ⟨d, h9⟩ := made_at (fresh_of e9 hx) i9
      exact q _ H9 (e9.trans (made_same hx hdx i9)) (CondO.has h9)
    | abv n o =>
      obtain ⟨t, x, y, z, rfl, ht, hx, hy, hz⟩ := dp_t3 hd
      cases hx
      cases hy
      cases hz
      refine q_when (et_test (ev_isN (ev_var rfl))) (fun hb H1 e1 => nomatch (of_decide_eq_true hb)) (fun hb H1 e1 => ?_)
      refine q_asg (ev_ixT (ev_var rfl) ev_c (st_mono e1 ht) (atI_nat (j := 0) rfl)) fun H2 e2 => ?_
      have e02 := e1.trans e2
      refine q_not (ev_var (i := 1) rfl) (by decide) fun H3 e3 => ?_
      have e03 := e02.trans e3
      refine q_not (ev_var (i := 1) rfl) (by decide) fun H4 e4 => ?_
      have e04 := e03.trans e4
      refine q_yes (ev_var (i := 1) rfl) fun H5 e5 => ?_
      have e05 := e04.trans e5
      refine (ev_ixT (ev_var (i := 0) rfl) ev_c (st_mono e05 ht) (atI_nat (j := 1) rfl)) H5 (Same.refl _) _ fun Ha ea => (ev_ixT (ev_var (i := 0) rfl) ev_c (st_mono e05 ht) (atI_nat (j := 2) rfl)) Ha ea _ fun Hb eb x dx hx hdx ne => ⟨x, dx, _, _, rfl, upd_same, fun H9 i9 => ⟨rfl, ?_⟩⟩
      have e9 := e05.trans (ea.trans eb)
      obtain ⟨d, h9⟩ := made_at (fresh_of e9 hx) i9
      exact q _ H9 (e9.trans (made_same hx hdx i9)) (CondO.abv h9)
    | blw n o =>
      obtain ⟨t, x, y, z, rfl, ht, hx, hy, hz⟩ := dp_t3 hd
      cases hx
      cases hy
      cases hz
      refine q_when (et_test (ev_isN (ev_var rfl))) (fun hb H1 e1 => nomatch (of_decide_eq_true hb)) (fun hb H1 e1 => ?_)
      refine q_asg (ev_ixT (ev_var rfl) ev_c (st_mono e1 ht) (atI_nat (j := 0) rfl)) fun H2 e2 => ?_
      have e02 := e1.trans e2
      refine q_not (ev_var (i := 1) rfl) (by decide) fun H3 e3 => ?_
      have e03 := e02.trans e3
      refine q_not (ev_var (i := 1) rfl) (by decide) fun H4 e4 => ?_
      have e04 := e03.trans e4
      refine q_not (ev_var (i := 1) rfl) (by decide) fun H5 e5 => ?_
      have e05 := e04.trans e5
      refine q_yes (ev_var (i := 1) rfl) fun H6 e6 => ?_
      have e06 := e05.trans e6
      refine (ev_ixT (ev_var (i := 0) rfl) ev_c (st_mono e06 ht) (atI_nat (j := 1) rfl)) H6 (Same.refl _) _ fun Ha ea => (ev_ixT (ev_var (i := 0) rfl) ev_c (st_mono e06 ht) (atI_nat (j := 2) rfl)) Ha ea _ fun Hb eb x dx hx hdx ne => ⟨x, dx, _, _, rfl, upd_same, fun H9 i9 => ⟨rfl, ?_⟩⟩
      have e9 := e06.trans (ea.trans eb)
      obtain ⟨d, h9⟩ := made_at (fresh_of e9 hx) i9
      exact q _ H9 (e9.trans (made_same hx hdx i9)) (CondO.blw h9)
    | not a =>
      obtain ⟨t, x, y, rfl, ht, hx, hy⟩ := dp_t2 hd
      cases hx
      refine q_when (et_test (ev_isN (ev_var rfl))) (fun hb H1 e1 => nomatch (of_decide_eq_true hb)) (fun hb H1 e1 => ?_)
      refine q_asg (ev_ixT (ev_var rfl) ev_c (st_mono e1 ht) (atI_nat (j := 0) rfl)) fun H2 e2 => ?_
      have e02 := e1.trans e2
      refine q_not (ev_var (i := 1) rfl) (by decide) fun H3 e3 => ?_
      have e03 := e02.trans e3
      refine q_not (ev_var (i := 1) rfl) (by decide) fun H4 e4 => ?_
      have e04 := e03.trans e4
      refine q_not (ev_var (i := 1) rfl) (by decide) fun H5 e5 => ?_
      have e05 := e04.trans e5
      refine q_not (ev_var (i := 1) rfl) (by decide) fun H6 e6 => ?_
      have e06 := e05.trans e6
      refine q_yes (ev_var (i := 1) rfl) fun H7 e7 => ?_
      have e07 := e06.trans e7
      refine deep (c1 := a) hm (ev_ixT (ev_var (i := 0) rfl) ev_c (st_mono e07 ht) (atI_nat (j := 1) rfl)) (dp_up e07 hy) H7 (Same.refl _) _ fun v Ha ea hv x dx hx hdx ne => ⟨x, dx, _, rfl, upd_same, fun H9 i9 => ⟨rfl, ?_⟩⟩
      have e9 := e07.trans ea
      obtain ⟨d, h9⟩ := made_at (fresh_of e9 hx) i9
      have e10 := made_same hx hdx i9
      exact q _ H9 (e9.trans e10) (CondO.not h9 (CondO.up (dif_mono e07 e10) hv))
    | both a b =>
      obtain ⟨t, x, y, z, rfl, ht, hx, hy, hz⟩ := dp_t3 hd
      cases hx
      refine q_when (et_test (ev_isN (ev_var rfl))) (fun hb H1 e1 => nomatch (of_decide_eq_true hb)) (fun hb H1 e1 => ?_)
      refine q_asg (ev_ixT (ev_var rfl) ev_c (st_mono e1 ht) (atI_nat (j := 0) rfl)) fun H2 e2 => ?_
      have e02 := e1.trans e2
      refine q_not (ev_var (i := 1) rfl) (by decide) fun H3 e3 => ?_
      have e03 := e02.trans e3
      refine q_not (ev_var (i := 1) rfl) (by decide) fun H4 e4 => ?_
      have e04 := e03.trans e4
      refine q_not (ev_var (i := 1) rfl) (by decide) fun H5 e5 => ?_
      have e05 := e04.trans e5
      refine q_not (ev_var (i := 1) rfl) (by decide) fun H6 e6 => ?_
      have e06 := e05.trans e6
      refine q_not (ev_var (i := 1) rfl) (by decide) fun H7 e7 => ?_
      have e07 := e06.trans e7
      refine q_yes (ev_var (i := 1) rfl) fun H8 e8 => ?_
      have e08 := e07.trans e8
      have hm : max a.dep b.dep + 1 ≤ m := hm
      refine deep (c1 := a) (by omega) (ev_ixT (ev_var (i := 0) rfl) ev_c (st_mono e08 ht) (atI_nat (j := 1) rfl)) (dp_up e08 hy) H8 (Same.refl _) _ fun v Ha ea hv => deep (c1 := b) (by omega) (ev_ixT (ev_var (i := 0) rfl) ev_c (st_mono e08 ht) (atI_nat (j := 2) rfl)) (dp_up e08 hz) Ha ea _ fun u Hb eb hu x dx hx hdx ne => ⟨x, dx, _, _, rfl, upd_same, fun H9 i9 => ⟨rfl, ?_⟩⟩
      have ea := e08.trans ea
      have e9 := ea.trans eb
      obtain ⟨d, h9⟩ := made_at (fresh_of e9 hx) i9
      have e10 := made_same hx hdx i9
      exact q _ H9 (e9.trans e10) (CondO.both h9 (CondO.up (dif_mono e08 (eb.trans e10)) hv) (CondO.up (dif_mono ea e10) hu))
    | either a b =>
      obtain ⟨t, x, y, z, rfl, ht, hx, hy, hz⟩ := dp_t3 hd
      cases hx
      refine q_when (et_test (ev_isN (ev_var rfl))) (fun hb H1 e1 => nomatch (of_decide_eq_true hb)) (fun hb H1 e1 => ?_)
      refine q_asg (ev_ixT (ev_var rfl) ev_c (st_mono e1 ht) (atI_nat (j := 0) rfl)) fun H2 e2 => ?_
      have e02 := e1.trans e2
      refine q_not (ev_var (i := 1) rfl) (by decide) fun H3 e3 => ?_
      have e03 := e02.trans e3
      refine q_not (ev_var (i := 1) rfl) (by decide) fun H4 e4 => ?_
      have e04 := e03.trans e4
      refine q_not (ev_var (i := 1) rfl) (by decide) fun H5 e5 => ?_
      have e05 := e04.trans e5
      refine q_not (ev_var (i := 1) rfl) (by decide) fun H6 e6 => ?_
      have e06 := e05.trans e6
      refine q_not (ev_var (i := 1) rfl) (by decide) fun H7 e7 => ?_
      have e07 := e06.trans e7
      refine q_not (ev_var (i := 1) rfl) (by decide) fun H8 e8 => ?_
      have e08 := e07.trans e8
      have hm : max a.dep b.dep + 1 ≤ m := hm
      refine deep (c1 := a) (by omega) (ev_ixT (ev_var (i := 0) rfl) ev_c (st_mono e08 ht) (atI_nat (j := 1) rfl)) (dp_up e08 hy) H8 (Same.refl _) _ fun v Ha ea hv => deep (c1 := b) (by omega) (ev_ixT (ev_var (i := 0) rfl) ev_c (st_mono e08 ht) (atI_nat (j := 2) rfl)) (dp_up e08 hz) Ha ea _ fun u Hb eb hu x dx hx hdx ne => ⟨x, dx, _, _, rfl, upd_same, fun H9 i9 => ⟨rfl, ?_⟩⟩
      have ea := e08.trans ea
      have e9 := ea.trans eb
      obtain ⟨d, h9⟩ := made_at (fresh_of e9 hx) i9
      have e10 := made_same hx hdx i9
      exact q _ H9 (e9.trans e10) (CondO.either h9 (CondO.up (dif_mono e08 (eb.trans e10)) hv) (CondO.up (dif_mono ea e10) hu))
theorem ok__law_made_condition (T : Txt K mg) : ∀ m, FnOk P w K mg base CX0 (m + 3) T.a__law_made_condition T.d__law_made_condition ["_law_cond"] (sp__law_made_condition T m)
  | 0 => made_cond_body T (fun _ _ _ _ => False) 0 0 (ok_none fun _ _ _ _ h => h) fun m' e => by omega
  | m + 1 => made_cond_body T (sp__law_made_condition T m) (m + 1) (m + 1) (ok__law_made_condition T m) fun m' e vs H Q E h => by
    have : m' = m := by omega
    subst this
    exact h
end SF
namespace SF
open PySem PySem.Spec PyProof.Rows L2 GK Evl LamX
variable {P : Program} {w : World} {K : PySem.W.Frag} {mg : Str → Option Value} {base : Heap}
theorem dpAll_strV {H : Hp} : ∀ {os : List Str} {vs : List V}, DpAll K H vs (os.map .str) → vs = os.map V.str
  | [], _, h => by cases h; rfl
  | s :: os, _, h => by
    cases h with
    | cons h1 t =>
      cases h1
      rw [dpAll_strV t]
      rfl
theorem rows_pd {H : Hp} : ∀ {rows : List Rw} {vs : List V}, DpAll K H vs (rowsP rows) → Paired (fun v r => Dp K H v r.py) vs rows
  | [], _, h => by cases h; exact .nil
  | r :: rs, _, h => by
    cases h with
    | cons h1 t => exact .cons h1 (rows_pd t)
theorem up_row : Up (fun H v (r : Rw) => Dp K H v r.py) := by
  intro a b c d e h
  exact dp_up (by assumption) (by assumption)
theorem r_makeK1 {te : TE} {σ : L2.St} {H : Hp} {D : Hp → V → Prop} {C : Addr} {n m : Nat} {sp : Sp} {gV : List V → List V → List V} {E : XK} {tk : TA} {En : Ends} (h : EvN te σ H D) (k : ∀ v H1, Same H H1 → D (dif H H1) v → tk σ H1 fun zs H2 => [v].length = n ∧ zs.length = m ∧ ∀ x dx, H2 x = none → H2 dx = none → dx ≠ x → sp (gV (.ref x :: [v]) zs) (upd (upd H2 dx (.own x)) x (.ins C dx [])) (fun v H3 => v = .non ∧ En.rt (.ref x) H3) E) : tRet (tMakeK C n m sp gV E (tCons te tNil) tk) En σ H := h H (Same.refl _) _ fun v H1 e hv => k v H1 e hv
/-! ### _law_made_row -/
def sp__law_made_row (T : Txt K mg) (m : Nat) : Sp := fun vs H Q _ => ∃ (v : V) (r : Rw), vs = [v] ∧ Dp K H v r.py ∧ r.ok ∧ r.dep ≤ m ∧ r.cnt ≤ 90000 ∧ ∀ u H', Same H H' → RowO T (dif H H') u r → Q u H'
/-- the rows within -/
theorem en_rows (T : Txt K mg) {sp' : Sp} {m : Nat} {σ : L2.St} {H : Hp} {te : TE} {u : V} {rows : List Rw} {j : Nat} (hc : ∀ vs H Q E, sp__law_made_row T m vs H Q E → sp' vs H Q E) (he : Ev te σ H u) (hu : Dp K H u (.list (rowsP rows))) (ok : ∀ r ∈ rows, r.ok) (hd : ∀ r ∈ rows, r.dep ≤ m) (hz : cnts rows ≤ 90000) (hw : ∀ x, wipe ((wipe σ [j]).set j (some x)) [j] = wipe σ [j]) (hj : ∀ x, ((wipe σ [j]).set j (some x))[j]? = some (some x)) :
    EvN (tLc (iList K te) (gName j) tYes (tCall sp' [] E0 (tCons (tVar j) tNil)) [j]) σ H (fun H' v => NL (fun H v r => RowO T H v r) H' v rows) := by
  obtain ⟨a, vs, rfl, hs, hds⟩ := dp_lst hu
  refine en_lcA (K := K) (S := fun H v r => Dp K H v r.py) (D := fun r H v => RowO T H v r) (src_of (D := fun H v (r : Rw) => Dp K H v r.py) (S := fun H v (r : Rw) => Dp K H v r.py) up_row he ⟨a, vs, rfl, hs, rows_pd hds⟩) (by have := len_cnts rows; omega) (fun _ _ _ _ e h => RowO.up e h) hw fun H1 e1 i r x hr hx H2 e2 Q q => ⟨x, hj x, hc _ _ _ _ ⟨x, r, rfl, dp_up e2 hx, ok r (List.mem_of_getElem? hr), hd r (List.mem_of_getElem? hr), by have := cnt_mem (List.mem_of_getElem? hr); omega, fun u H' e hv => q u H' e hv⟩⟩
theorem made_row_body (T : Txt K mg) (sp' : Sp) (j m : Nat) (G__law_made_row : FnOk P w K mg base CX0 (j + 7) T.a__law_made_row T.d__law_made_row ["_law_row"] sp')
    (hc : ∀ m', m = m' + 1 → ∀ vs H Q E, sp__law_made_row T m' vs H Q E → sp' vs H Q E) : FnOk P w K mg base CX0 (j + 8) T.a__law_made_row T.d__law_made_row ["_law_row"] (sp__law_made_row T m) := by
  have G_One_new : FnOk P w K mg base CX0 1 T.a_One_new T.d_One_new ["self", "name", "options", "where"] (sp_One_new T) := ok_One_new T
  have G_Some_new : FnOk P w K mg base CX0 1 T.a_Some_new T.d_Some_new ["self", "name", "options", "where"] (sp_Some_new T) := ok_Some_new T
  have G_Number_new : FnOk P w K mg base CX0 1 T.a_Number_new T.d_Number_new ["self", "name", "low", "high", "where"] (sp_Number_new T) := ok_Number_new T
  have G_Check_new : FnOk P w K mg base CX0 1 T.a_Check_new T.d_Check_new ["self", "name", "must", "where"] (sp_Check_new T) := ok_Check_new T
  have G_Section_new : FnOk P w K mg base CX0 1 T.a_Section_new T.d_Section_new ["self", "rows", "where"] (sp_Section_new T) := ok_Section_new T
  have G_Rounds_new : FnOk P w K mg base CX0 1 T.a_Rounds_new T.d_Rounds_new ["self", "count", "rows", "where"] (sp_Rounds_new T) := ok_Rounds_new T
  have G__law_made_condition : FnOk P w K mg base CX0 7 T.a__law_made_condition T.d__law_made_condition ["_law_cond"] (sp__law_made_condition T 4) := ok__law_made_condition T 4
  refine T.F__law_made_row.ok sc__law_made_row (fun vs H Q E h => ?_) (fun cdv A outer s H vs Q E hr h => ?_)
  · obtain ⟨v, r, rfl, _⟩ := h
    rfl
  · obtain ⟨v, r, rfl, hd, hok, hm, hz, q⟩ := h
    refine ⟨(tSeq (tAsg (tCall (sp__law_made_condition T 4) [] E0 (tCons (tOp (rIxT K) (tVar 0) (tUn (rU fun i => .int (-i)) (tC (.int 1)))) tNil)) (gName 1))
  (tSeq (tIfS (tTest (tOp rEq (tOp (rIxT K) (tVar 0) (tC (.int 0))) (tC (.str "one")))) (tRet (tMakeK T.C_One 2 1 (sp_One_new T) (kwBy 3 1) E0 (tCons (tOp (rIxT K) (tVar 0) (tC (.int 1))) (tCons (tCB (gListOf K) (tCons (tOp (rIxT K) (tVar 0) (tC (.int 2))) tNil)) tNil)) (tCons (tVar 1) tNil))) tNext)
  (tSeq (tIfS (tTest (tOp rEq (tOp (rIxT K) (tVar 0) (tC (.int 0))) (tC (.str "some")))) (tRet (tMakeK T.C_Some 2 1 (sp_Some_new T) (kwBy 3 1) E0 (tCons (tOp (rIxT K) (tVar 0) (tC (.int 1))) (tCons (tCB (gListOf K) (tCons (tOp (rIxT K) (tVar 0) (tC (.int 2))) tNil)) tNil)) (tCons (tVar 1) tNil))) tNext)
  (tSeq (tIfS (tTest (tOp rEq (tOp (rIxT K) (tVar 0) (tC (.int 0))) (tC (.str "number")))) (tRet (tMakeK T.C_Number 3 1 (sp_Number_new T) (kwBy 4 1) E0 (tCons (tOp (rIxT K) (tVar 0) (tC (.int 1))) (tCons (tOp (rIxT K) (tVar 0) (tC (.int 2))) (tCons (tOp (rIxT K) (tVar 0) (tC (.int 3))) tNil))) (tCons (tVar 1) tNil))) tNext)
  (tSeq (tIfS (tTest (tOp rEq (tOp (rIxT K) (tVar 0) (tC (.int 0))) (tC (.str "check")))) (tRet (tMakeK T.C_Check 2 1 (sp_Check_new T) (kwBy 3 1) E0 (tCons (tOp (rIxT K) (tVar 0) (tC (.int 1))) (tCons (tCall (sp__law_made_condition T 4) [] E0 (tCons (tOp (rIxT K) (tVar 0) (tC (.int 2))) tNil)) tNil)) (tCons (tVar 1) tNil))) tNext)
  (tSeq (tIfS (tTest (tOp rEq (tOp (rIxT K) (tVar 0) (tC (.int 0))) (tC (.str "section")))) (tRet (tMakeK T.C_Section 1 1 (sp_Section_new T) (kwBy 2 1) E0 (tCons (tLc (iList K (tOp (rIxT K) (tVar 0) (tC (.int 1)))) (gName 2) tYes (tCall sp' [] E0 (tCons (tVar 2) tNil)) [2]) tNil) (tCons (tVar 1) tNil))) tNext)
  (tRet (tMakeK T.C_Rounds 2 1 (sp_Rounds_new T) (kwBy 3 1) E0 (tCons (tOp (rIxT K) (tVar 0) (tC (.int 1))) (tCons (tLc (iList K (tOp (rIxT K) (tVar 0) (tC (.int 2)))) (gName 2) tYes (tCall sp' [] E0 (tCons (tVar 2) tNil)) [2]) tNil)) (tCons (tVar 1) tNil))))))))),
(pss_cons (ps_set (i := 1) sc__law_made_row.nd rfl (.inl rfl) (pe_call (G__law_made_condition.mono (by omega)) hr (by rfl) T.g__law_made_condition T.F__law_made_condition.kp T.b__law_made_condition .nil pass0 (pa_cons (pe_ix ix_tup (pv 0) (pe_un un_neg pe_int) (fun _ _ => rfl)) pa_nil)))
  (pss_cons (ps_if (pt_cmpR op_eq (pe_ix ix_tup (pv 0) pe_int (fun _ _ => rfl)) pe_str (nomark _)) (pss_one (ps_ret (pe_makeKm T.M_One (G_One_new.mono (by omega)) hr (by rfl) T.gc_One T.kn_One_new pass0 (pa_cons (pe_ix ix_tup (pv 0) pe_int (fun _ _ => rfl)) (pa_cons (pe_callTy call_list_of (by rfl) T.z_list (by decide +kernel) (pa_cons (pe_ix ix_tup (pv 0) pe_int (fun _ _ => rfl)) pa_nil)) pa_nil)) (pk_cons (pv 1) pk_nil)))) pss_nil)
  (pss_cons (ps_if (pt_cmpR op_eq (pe_ix ix_tup (pv 0) pe_int (fun _ _ => rfl)) pe_str (nomark _)) (pss_one (ps_ret (pe_makeKm T.M_Some (G_Some_new.mono (by omega)) hr (by rfl) T.gc_Some T.kn_Some_new pass0 (pa_cons (pe_ix ix_tup (pv 0) pe_int (fun _ _ => rfl)) (pa_cons (pe_callTy call_list_of (by rfl) T.z_list (by decide +kernel) (pa_cons (pe_ix ix_tup (pv 0) pe_int (fun _ _ => rfl)) pa_nil)) pa_nil)) (pk_cons (pv 1) pk_nil)))) pss_nil)
  (pss_cons (ps_if (pt_cmpR op_eq (pe_ix ix_tup (pv 0) pe_int (fun _ _ => rfl)) pe_str (nomark _)) (pss_one (ps_ret (pe_makeKm T.M_Number (G_Number_new.mono (by omega)) hr (by rfl) T.gc_Number T.kn_Number_new pass0 (pa_cons (pe_ix ix_tup (pv 0) pe_int (fun _ _ => rfl)) (pa_cons (pe_ix ix_tup (pv 0) pe_int (fun _ _ => rfl)) (pa_cons (pe_ix ix_tup (pv 0) pe_int (fun _ _ => rfl)) pa_nil))) (pk_cons (pv 1) pk_nil)))) pss_nil)
  (pss_cons (ps_if (pt_cmpR op_eq (pe_ix ix_tup (pv 0) pe_int (fun _ _ => rfl)) pe_str (nomark _)) (pss_one (ps_ret (pe_makeKm T.M_Check (G_Check_new.mono (by omega)) hr (by rfl) T.gc_Check T.kn_Check_new pass0 (pa_cons (pe_ix ix_tup (pv 0) pe_int (fun _ _ => rfl)) (pa_cons (pe_call (G__law_made_condition.mono (by omega)) hr (by rfl) T.g__law_made_condition T.F__law_made_condition.kp T.b__law_made_condition .nil pass0 (pa_cons (pe_ix ix_tup (pv 0) pe_int (fun _ _ => rfl)) pa_nil)) pa_nil)) (pk_cons (pv 1) pk_nil)))) pss_nil)
  (pss_cons (ps_if (pt_cmpR op_eq (pe_ix ix_tup (pv 0) pe_int (fun _ _ => rfl)) pe_str (nomark _)) (pss_one (ps_ret (pe_makeKm T.M_Section (G_Section_new.mono (by omega)) hr (by rfl) T.gc_Section T.kn_Section_new pass0 (pa_cons (pe_lc (own := [("_law_one", 2)]) (g := (gName 2)) (tt := tYes) (te := (tCall sp' [] E0 (tCons (tVar 2) tNil))) rfl sc__law_made_row.nd (pi_list (pe_ix ix_tup (pv 0) pe_int (fun _ _ => rfl))) (blkOk_by (N := ["_law_row", "_law_cond", "_law_one"]) (sc := defScope s__law_made_row) (own := [("_law_one", 2)]) (by decide +kernel)) (fun _ _ _ _ _ => (pg_name (i := 2) sc__law_made_row.nd rfl (.inl rfl))) (fun _ _ _ _ _ => pts_nil) (fun _ _ _ _ _ => (pe_call (G__law_made_row.mono (by omega)) hr (by rfl) T.g__law_made_row T.F__law_made_row.kp T.b__law_made_row .nil pass0 (pa_cons (pv 2) pa_nil)))) pa_nil) (pk_cons (pv 1) pk_nil)))) pss_nil)
  (pss_one (ps_ret (pe_makeKm T.M_Rounds (G_Rounds_new.mono (by omega)) hr (by rfl) T.gc_Rounds T.kn_Rounds_new pass0 (pa_cons (pe_ix ix_tup (pv 0) pe_int (fun _ _ => rfl)) (pa_cons (pe_lc (own := [("_law_one", 2)]) (g := (gName 2)) (tt := tYes) (te := (tCall sp' [] E0 (tCons (tVar 2) tNil))) rfl sc__law_made_row.nd (pi_list (pe_ix ix_tup (pv 0) pe_int (fun _ _ => rfl))) (blkOk_by (N := ["_law_row", "_law_cond", "_law_one"]) (sc := defScope s__law_made_row) (own := [("_law_one", 2)]) (by decide +kernel)) (fun _ _ _ _ _ => (pg_name (i := 2) sc__law_made_row.nd rfl (.inl rfl))) (fun _ _ _ _ _ => pts_nil) (fun _ _ _ _ _ => (pe_call (G__law_made_row.mono (by omega)) hr (by rfl) T.g__law_made_row T.F__law_made_row.kp T.b__law_made_row .nil pass0 (pa_cons (pv 2) pa_nil)))) pa_nil)) (pk_cons (pv 1) pk_nil)))))))))), ?_⟩
    have hwd : ∀ c', r.wh = some c' → c'.dep ≤ 4 := fun c' z => by
      have := Rw.wh_ok hok
      rw [z] at this
      exact this.2
    have hd0 := hd
    rw [Rw.py_mid] at hd0
    obtain ⟨t, xs, rfl, ht, hxs⟩ := dp_tup hd0
    obtain ⟨y, hy, hyd⟩ := dpAll_at hxs (atI_last (.str r.kd :: r.mid) (ocP r.wh))
    have m1 : ∀ {σ : L2.St} {H1 : Hp}, Ev (tUn (rU fun i => V.int (-i)) (tC (V.int 1))) σ H1 (.int (-1)) := fun {σ H1} H2 e Q q => ⟨1, rfl, q H2 (Same.refl _)⟩
    refine (ev_ixT (ev_var (i := 0) rfl) m1 ht hy) H (Same.refl _) _ fun H0 e0 => ?_
    refine ⟨y, r.wh, rfl, dp_up e0 hyd, hwd, fun cv H1 e1' hcv => ?_⟩
    have e1 := e0.trans e1'
    have hcv : OCondO T (dif H H1) cv r.wh := OCondO.up (dif_mono e0 (Same.refl _)) hcv
    clear hy hyd ht hxs hd0 xs
    cases r with
    | one n os c =>
      rw [Rw.py] at hd
      obtain ⟨_, xs, ez, ht, hxs⟩ := dp_tup hd
      cases ez
      cases hxs with | cons h0 hxs => cases hxs with | cons h1 hxs => cases hxs with | cons h2 hxs =>
      cases hxs with | cons h3 hxs =>
      cases hxs
      cases h0
      cases h1
      refine q_yes (ev_ixT (ev_var (i := 0) rfl) ev_c (st_mono e1 ht) (atI_nat (j := 0) rfl)) fun H2 g2 => ?_
      have ef2 := e1.trans g2
      have s1 : Same H1 H2 := g2
      obtain ⟨p, ys, rfl, hp, hys⟩ := dp_lst h2
      have hys := dpAll_strV hys
      subst hys
      refine (ev_ixT (ev_var (i := 0) rfl) ev_c (st_mono ef2 ht) (atI_nat (j := 1) rfl)) H2 (Same.refl _) _ fun Ha ea => (ev_ixT (ev_var (i := 0) rfl) ev_c (st_mono ef2 ht) (atI_nat (j := 2) rfl)) Ha ea _ fun Hb eb => ⟨p, _, rfl, .inl (sq_mono (ef2.trans (ea.trans eb)) hp), fun l hl => ⟨cv, rfl, rfl, rfl, fun x dx hx hdx ne => ⟨x, dx, _, _, _, l, os.map V.str, rfl, upd_same, rfl, ?_, fun t9 H9 ht9 i9 h9t => ⟨rfl, ?_⟩⟩⟩⟩
      · have n1 : l ≠ x := fun z => by rw [z, upd_same] at hx; cases hx
        have n2 : l ≠ dx := fun z => by rw [z, upd_same] at hdx; cases hdx
        exact SqL.of (off_some.mpr ⟨n1, by rw [upd_ne n1, upd_ne n2]; exact upd_same⟩)
      · have ea := (ea.trans eb).trans (same_new (o := .lst (os.map V.str)) hl)
        have e9 := ef2.trans ea
        obtain ⟨d, h9⟩ := made_at (fresh_of e9 hx) i9
        have e10 := made_same hx hdx i9
        have hw9 := OCondO.up (dif_mono (Same.refl H) ((s1.trans ea).trans e10)) hcv
        have t0 : H t9 = none := fresh_of e9 (by
          by_cases z1 : t9 = x
          · rw [z1]; exact hx
          · by_cases z2 : t9 = dx
            · rw [z2]; exact hdx
            · rw [upd_ne z1, upd_ne z2] at ht9; exact ht9)
        exact q _ H9 (e9.trans e10) (RowO.one h9 (dif_some.mpr ⟨t0, h9t⟩) hw9)
    | som n os c =>
      rw [Rw.py] at hd
      obtain ⟨_, xs, ez, ht, hxs⟩ := dp_tup hd
      cases ez
      cases hxs with | cons h0 hxs => cases hxs with | cons h1 hxs => cases hxs with | cons h2 hxs =>
      cases hxs with | cons h3 hxs =>
      cases hxs
      cases h0
      cases h1
      refine q_not (ev_ixT (ev_var (i := 0) rfl) ev_c (st_mono e1 ht) (atI_nat (j := 0) rfl)) (by decide) fun H2 g2 => ?_
      have ef2 := e1.trans g2
      refine q_yes (ev_ixT (ev_var (i := 0) rfl) ev_c (st_mono ef2 ht) (atI_nat (j := 0) rfl)) fun H3 g3 => ?_
      have ef3 := ef2.trans g3
      have s1 : Same H1 H3 := (g2.trans g3)
      obtain ⟨p, ys, rfl, hp, hys⟩ := dp_lst h2
      have hys := dpAll_strV hys
      subst hys
      refine (ev_ixT (ev_var (i := 0) rfl) ev_c (st_mono ef3 ht) (atI_nat (j := 1) rfl)) H3 (Same.refl _) _ fun Ha ea => (ev_ixT (ev_var (i := 0) rfl) ev_c (st_mono ef3 ht) (atI_nat (j := 2) rfl)) Ha ea _ fun Hb eb => ⟨p, _, rfl, .inl (sq_mono (ef3.trans (ea.trans eb)) hp), fun l hl => ⟨cv, rfl, rfl, rfl, fun x dx hx hdx ne => ⟨x, dx, _, _, _, l, os.map V.str, rfl, upd_same, rfl, ?_, fun t9 H9 ht9 i9 h9t => ⟨rfl, ?_⟩⟩⟩⟩
      · have n1 : l ≠ x := fun z => by rw [z, upd_same] at hx; cases hx
        have n2 : l ≠ dx := fun z => by rw [z, upd_same] at hdx; cases hdx
        exact SqL.of (off_some.mpr ⟨n1, by rw [upd_ne n1, upd_ne n2]; exact upd_same⟩)
      · have ea := (ea.trans eb).trans (same_new (o := .lst (os.map V.str)) hl)
        have e9 := ef3.trans ea
        obtain ⟨d, h9⟩ := made_at (fresh_of e9 hx) i9
        have e10 := made_same hx hdx i9
        have hw9 := OCondO.up (dif_mono (Same.refl H) ((s1.trans ea).trans e10)) hcv
        have t0 : H t9 = none := fresh_of e9 (by
          by_cases z1 : t9 = x
          · rw [z1]; exact hx
          · by_cases z2 : t9 = dx
            · rw [z2]; exact hdx
            · rw [upd_ne z1, upd_ne z2] at ht9; exact ht9)
        exact q _ H9 (e9.trans e10) (RowO.som h9 (dif_some.mpr ⟨t0, h9t⟩) hw9)
    | number n lo hi c =>
      rw [Rw.py] at hd
      obtain ⟨_, xs, ez, ht, hxs⟩ := dp_tup hd
      cases ez
      cases hxs with | cons h0 hxs => cases hxs with | cons h1 hxs => cases hxs with | cons h2 hxs =>
      cases hxs with | cons h3 hxs =>
      cases hxs with | cons h4 hxs =>
      cases hxs
      cases h0
      cases h1
      refine q_not (ev_ixT (ev_var (i := 0) rfl) ev_c (st_mono e1 ht) (atI_nat (j := 0) rfl)) (by decide) fun H2 g2 => ?_
      have ef2 := e1.trans g2
      refine q_not (ev_ixT (ev_var (i := 0) rfl) ev_c (st_mono ef2 ht) (atI_nat (j := 0) rfl)) (by decide) fun H3 g3 => ?_
      have ef3 := ef2.trans g3
      refine q_yes (ev_ixT (ev_var (i := 0) rfl) ev_c (st_mono ef3 ht) (atI_nat (j := 0) rfl)) fun H4 g4 => ?_
      have ef4 := ef3.trans g4
      have s1 : Same H1 H4 := ((g2.trans g3).trans g4)
      cases h2
      cases h3
      refine (ev_ixT (ev_var (i := 0) rfl) ev_c (st_mono ef4 ht) (atI_nat (j := 1) rfl)) H4 (Same.refl _) _ fun Ha ea => (ev_ixT (ev_var (i := 0) rfl) ev_c (st_mono ef4 ht) (atI_nat (j := 2) rfl)) Ha ea _ fun Hb eb => (ev_ixT (ev_var (i := 0) rfl) ev_c (st_mono ef4 ht) (atI_nat (j := 3) rfl)) Hb (ea.trans eb) _ fun Hc ec => ⟨cv, rfl, rfl, rfl, fun x dx hx hdx ne => ⟨x, dx, _, _, _, _, rfl, upd_same, fun H9 i9 => ⟨rfl, ?_⟩⟩⟩
      have ea := (ea.trans eb).trans ec
      have e9 := ef4.trans ea
      obtain ⟨d, h9⟩ := made_at (fresh_of e9 hx) i9
      have e10 := made_same hx hdx i9
      have hw9 := OCondO.up (dif_mono (Same.refl H) ((s1.trans ea).trans e10)) hcv
      exact q _ H9 (e9.trans e10) (RowO.number h9 hw9)
    | check n mu c =>
      rw [Rw.py] at hd
      obtain ⟨_, xs, ez, ht, hxs⟩ := dp_tup hd
      cases ez
      cases hxs with | cons h0 hxs => cases hxs with | cons h1 hxs => cases hxs with | cons h2 hxs =>
      cases hxs with | cons h3 hxs =>
      cases hxs
      cases h0
      cases h1
      refine q_not (ev_ixT (ev_var (i := 0) rfl) ev_c (st_mono e1 ht) (atI_nat (j := 0) rfl)) (by decide) fun H2 g2 => ?_
      have ef2 := e1.trans g2
      refine q_not (ev_ixT (ev_var (i := 0) rfl) ev_c (st_mono ef2 ht) (atI_nat (j := 0) rfl)) (by decide) fun H3 g3 => ?_
      have ef3 := ef2.trans g3
      refine q_not (ev_ixT (ev_var (i := 0) rfl) ev_c (st_mono ef3 ht) (atI_nat (j := 0) rfl)) (by decide) fun H4 g4 => ?_
      have ef4 := ef3.trans g4
      refine q_yes (ev_ixT (ev_var (i := 0) rfl) ev_c (st_mono ef4 ht) (atI_nat (j := 0) rfl)) fun H5 g5 => ?_
      have ef5 := ef4.trans g5
      have s1 : Same H1 H5 := (((g2.trans g3).trans g4).trans g5)
      refine (ev_ixT (ev_var (i := 0) rfl) ev_c (st_mono ef5 ht) (atI_nat (j := 1) rfl)) H5 (Same.refl _) _ fun Ha ea => (ev_ixT (ev_var (i := 0) rfl) ev_c (st_mono ef5 ht) (atI_nat (j := 2) rfl)) Ha ea _ fun Hb eb => ?_
      refine ⟨_, some mu, rfl, dp_up (ef5.trans (ea.trans eb)) h2, fun c2 z => by cases z; exact hok.2.2.1, fun uv Hc ec huv => ⟨cv, rfl, rfl, rfl, fun x dx hx hdx ne => ⟨x, dx, _, _, _, rfl, upd_same, fun H9 i9 => ⟨rfl, ?_⟩⟩⟩⟩
      have eab := ef5.trans (ea.trans eb)
      have ea := (ea.trans eb).trans ec
      have e9 := ef5.trans ea
      obtain ⟨d, h9⟩ := made_at (fresh_of e9 hx) i9
      have e10 := made_same hx hdx i9
      have hw9 := OCondO.up (dif_mono (Same.refl H) ((s1.trans ea).trans e10)) hcv
      exact q _ H9 (e9.trans e10) (RowO.check h9 (CondO.up (dif_mono eab e10) huv) hw9)
    | sec inn c =>
      rw [Rw.py] at hd
      obtain ⟨_, xs, ez, ht, hxs⟩ := dp_tup hd
      cases ez
      cases hxs with | cons h0 hxs => cases hxs with | cons h1 hxs => cases hxs with | cons h2 hxs =>
      cases hxs
      cases h0
      refine q_not (ev_ixT (ev_var (i := 0) rfl) ev_c (st_mono e1 ht) (atI_nat (j := 0) rfl)) (by decide) fun H2 g2 => ?_
      have ef2 := e1.trans g2
      refine q_not (ev_ixT (ev_var (i := 0) rfl) ev_c (st_mono ef2 ht) (atI_nat (j := 0) rfl)) (by decide) fun H3 g3 => ?_
      have ef3 := ef2.trans g3
      refine q_not (ev_ixT (ev_var (i := 0) rfl) ev_c (st_mono ef3 ht) (atI_nat (j := 0) rfl)) (by decide) fun H4 g4 => ?_
      have ef4 := ef3.trans g4
      refine q_not (ev_ixT (ev_var (i := 0) rfl) ev_c (st_mono ef4 ht) (atI_nat (j := 0) rfl)) (by decide) fun H5 g5 => ?_
      have ef5 := ef4.trans g5
      refine q_yes (ev_ixT (ev_var (i := 0) rfl) ev_c (st_mono ef5 ht) (atI_nat (j := 0) rfl)) fun H6 g6 => ?_
      have ef6 := ef5.trans g6
      have s1 : Same H1 H6 := ((((g2.trans g3).trans g4).trans g5).trans g6)
      have hm : deps inn + 1 ≤ m := hm
      have hz : cnts inn + 1 ≤ 90000 := hz
      obtain ⟨m', rfl⟩ := Nat.exists_eq_succ_of_ne_zero (show m ≠ 0 by omega)
      refine r_makeK1 (en_rows T (hc m' rfl) (ev_ixT (ev_var (i := 0) rfl) ev_c (st_mono ef6 ht) (atI_nat (j := 1) rfl)) (dp_up ef6 h1) (rowsOk_iff.mp hok.1) (fun r hr => by have := deps_mem hr; omega) (by omega) (fun x => by rfl) (fun x => by rfl) (j := 2) (σ := [some (.ref t), some cv, none])) fun lv Ha ea hlv => ?_
      obtain ⟨l, ys, rfl, hl, hp⟩ := hlv
      have eb := ef6
      have hla := (dif_some.mp hl).2
      refine ⟨cv, rfl, rfl, rfl, fun x dx hx hdx ne => ⟨x, dx, _, _, l, ys, rfl, upd_same, rfl, ?_, fun t9 H9 ht9 i9 h9t => ⟨rfl, ?_⟩⟩⟩
      · have n1 : l ≠ x := fun z => by rw [z, hx] at hla; cases hla
        have n2 : l ≠ dx := fun z => by rw [z, hdx] at hla; cases hla
        exact SqL.of (off_some.mpr ⟨n1, by rw [upd_ne n1, upd_ne n2]; exact hla⟩)
      · have e9 := ef6.trans ea
        obtain ⟨d, h9⟩ := made_at (fresh_of e9 hx) i9
        have e10 := made_same hx hdx i9
        have hw9 := OCondO.up (dif_mono (Same.refl H) ((s1.trans ea).trans e10)) hcv
        have t0 : H t9 = none := fresh_of e9 (by
          by_cases z1 : t9 = x
          · rw [z1]; exact hx
          · by_cases z2 : t9 = dx
            · rw [z2]; exact hdx
            · rw [upd_ne z1, upd_ne z2] at ht9; exact ht9)
        exact q _ H9 (e9.trans e10) (RowO.sec h9 (dif_some.mpr ⟨t0, h9t⟩) (RowsO.up (dif_mono eb e10) (RowsO.of hp)) hw9)
    | rnd n inn c =>
      rw [Rw.py] at hd
      obtain ⟨_, xs, ez, ht, hxs⟩ := dp_tup hd
      cases ez
      cases hxs with | cons h0 hxs => cases hxs with | cons h1 hxs => cases hxs with | cons h2 hxs =>
      cases hxs with | cons h3 hxs =>
      cases hxs
      cases h0
      cases h1
      refine q_not (ev_ixT (ev_var (i := 0) rfl) ev_c (st_mono e1 ht) (atI_nat (j := 0) rfl)) (by decide) fun H2 g2 => ?_
      have ef2 := e1.trans g2
      refine q_not (ev_ixT (ev_var (i := 0) rfl) ev_c (st_mono ef2 ht) (atI_nat (j := 0) rfl)) (by decide) fun H3 g3 => ?_
      have ef3 := ef2.trans g3
      refine q_not (ev_ixT (ev_var (i := 0) rfl) ev_c (st_mono ef3 ht) (atI_nat (j := 0) rfl)) (by decide) fun H4 g4 => ?_
      have ef4 := ef3.trans g4
      refine q_not (ev_ixT (ev_var (i := 0) rfl) ev_c (st_mono ef4 ht) (atI_nat (j := 0) rfl)) (by decide) fun H5 g5 => ?_
      have ef5 := ef4.trans g5
      refine q_not (ev_ixT (ev_var (i := 0) rfl) ev_c (st_mono ef5 ht) (atI_nat (j := 0) rfl)) (by decide) fun H6 g6 => ?_
      have ef6 := ef5.trans g6
      have s1 : Same H1 H6 := ((((g2.trans g3).trans g4).trans g5).trans g6)
      have hm : deps inn + 1 ≤ m := hm
      have hz : cnts inn + 1 ≤ 90000 := hz
      obtain ⟨m', rfl⟩ := Nat.exists_eq_succ_of_ne_zero (show m ≠ 0 by omega)
      refine (ev_ixT (ev_var (i := 0) rfl) ev_c (st_mono ef6 ht) (atI_nat (j := 1) rfl)) H6 (Same.refl _) _ fun Hx ex => ?_
      refine (en_rows T (hc m' rfl) (ev_ixT (ev_var (i := 0) rfl) ev_c (st_mono ef6 ht) (atI_nat (j := 2) rfl)) (dp_up ef6 h2) (rowsOk_iff.mp hok.2.1) (fun r hr => by have := deps_mem hr; omega) (by omega) (fun x => by rfl) (fun x => by rfl) (j := 2) (σ := [some (.ref t), some cv, none])) Hx ex _ fun lv Ha ea hlv => ?_
      obtain ⟨l, ys, rfl, hl, hp⟩ := hlv
      have eb := ef6.trans ex
      have ea := ex.trans ea
      have hla := (dif_some.mp hl).2
      refine ⟨cv, rfl, rfl, rfl, fun x dx hx hdx ne => ⟨x, dx, _, _, _, l, ys, rfl, upd_same, rfl, ?_, fun t9 H9 ht9 i9 h9t => ⟨rfl, ?_⟩⟩⟩
      · have n1 : l ≠ x := fun z => by rw [z, hx] at hla; cases hla
        have n2 : l ≠ dx := fun z => by rw [z, hdx] at hla; cases hla
        exact SqL.of (off_some.mpr ⟨n1, by rw [upd_ne n1, upd_ne n2]; exact hla⟩)
      · have e9 := ef6.trans ea
        obtain ⟨d, h9⟩ := made_at (fresh_of e9 hx) i9
        have e10 := made_same hx hdx i9
        have hw9 := OCondO.up (dif_mono (Same.refl H) ((s1.trans ea).trans e10)) hcv
        have t0 : H t9 = none := fresh_of e9 (by
          by_cases z1 : t9 = x
          · rw [z1]; exact hx
          · by_cases z2 : t9 = dx
            · rw [z2]; exact hdx
            · rw [upd_ne z1, upd_ne z2] at ht9; exact ht9)
        exact q _ H9 (e9.trans e10) (RowO.rnd h9 (dif_some.mpr ⟨t0, h9t⟩) (RowsO.up (dif_mono eb e10) (RowsO.of hp)) hw9)
theorem ok__law_made_row (T : Txt K mg) : ∀ m, FnOk P w K mg base CX0 (m + 8) T.a__law_made_row T.d__law_made_row ["_law_row"] (sp__law_made_row T m)
  | 0 => made_row_body T (fun _ _ _ _ => False) 0 0 (ok_none fun _ _ _ _ h => h) fun m' e => by omega
  | m + 1 => made_row_body T (sp__law_made_row T m) (m + 1) (m + 1) (ok__law_made_row T m) fun m' e vs H Q E h => by
    have : m' = m := by omega
    subst this
    exact h
end SF
namespace SF
open PySem PySem.Spec PyProof.Rows L2 GK Evl LamX
variable {P : Program} {w : World} {K : PySem.W.Frag} {mg : Str → Option Value} {base : Heap}
/-! ### all rows, those within too -/
mutual
def Rw.all : Rw → List Rw
  | .sec rows c => .sec rows c :: allR rows
  | .rnd n rows c => .rnd n rows c :: allR rows
  | .one n os c => [.one n os c]
  | .som n os c => [.som n os c]
  | .number n lo hi c => [.number n lo hi c]
  | .check n m c => [.check n m c]
def allR : List Rw → List Rw
  | [] => []
  | r :: rs => r.all ++ allR rs
end
theorem all_inn {r : Rw} {inn : List Rw} (h : r.inn = some inn) : r.all = r :: allR inn := by
  cases r <;> simp only [Rw.inn, Option.some.injEq, reduceCtorEq] at h <;> subst h <;> simp only [Rw.all]
theorem all_leaf {r : Rw} (h : r.inn = none) : r.all = [r] := by
  cases r <;> simp only [Rw.inn, reduceCtorEq] at h <;> simp only [Rw.all]
theorem allR_app : ∀ (a b : List Rw), allR (a ++ b) = allR a ++ allR b
  | [], b => by simp [allR]
  | x :: a, b => by simp [allR, allR_app a b]
mutual
theorem all_len : ∀ r : Rw, r.all.length = r.cnt
  | .sec rows c => by simp [Rw.all, Rw.cnt, allR_len rows]
  | .rnd n rows c => by simp [Rw.all, Rw.cnt, allR_len rows]
  | .one n os c => by simp [Rw.all, Rw.cnt]
  | .som n os c => by simp [Rw.all, Rw.cnt]
  | .number n lo hi c => by simp [Rw.all, Rw.cnt]
  | .check n m c => by simp [Rw.all, Rw.cnt]
theorem allR_len : ∀ rows : List Rw, (allR rows).length = cnts rows
  | [] => by simp [allR, cnts]
  | r :: rs => by simp [allR, cnts, all_len r, allR_len rs]
end
mutual
theorem all_ok : ∀ r : Rw, r.ok → ∀ x ∈ r.all, x.ok
  | .sec rows c, h => by
    intro x hx
    simp only [Rw.all, List.mem_cons] at hx
    rcases hx with rfl | hx
    · exact h
    · exact allR_ok rows h.1 x hx
  | .rnd n rows c, h => by
    intro x hx
    simp only [Rw.all, List.mem_cons] at hx
    rcases hx with rfl | hx
    · exact h
    · exact allR_ok rows h.2.1 x hx
  | .one n os c, h => by intro x hx; simp only [Rw.all, List.mem_singleton] at hx; subst hx; exact h
  | .som n os c, h => by intro x hx; simp only [Rw.all, List.mem_singleton] at hx; subst hx; exact h
  | .number n lo hi c, h => by intro x hx; simp only [Rw.all, List.mem_singleton] at hx; subst hx; exact h
  | .check n m c, h => by intro x hx; simp only [Rw.all, List.mem_singleton] at hx; subst hx; exact h
theorem allR_ok : ∀ rows : List Rw, rowsOk rows → ∀ x ∈ allR rows, x.ok
  | [], _ => by intro x hx; simp [allR] at hx
  | r :: rs, h => by
    intro x hx
    simp only [allR, List.mem_append] at hx
    rcases hx with hx | hx
    · exact all_ok r h.1 x hx
    · exact allR_ok rs h.2 x hx
end
/-! ### _law_all -/
def allPre (m : Nat) (rows : List Rw) (ds : List PyData) : Prop := ds = [.list (rowsP rows)] ∧ deps rows ≤ m ∧ cnts rows ≤ 20000
def sp__law_all (T : Txt K mg) (m : Nat) : Sp := fun vs H Q E => ∃ rows, spP K (allPre m rows) (fun _ d => d = .list (rowsP (allR rows))) vs H Q E
theorem all_body (T : Txt K mg) (sp' : Sp) (jj m : Nat) (G__law_all : FnOk P w K mg base CX0 jj T.a__law_all T.d__law_all ["_law_rows_here"] sp')
    (hc : ∀ m', m = m' + 1 → ∀ vs H Q E, sp__law_all T m' vs H Q E → sp' vs H Q E) : FnOk P w K mg base CX0 (jj + 1) T.a__law_all T.d__law_all ["_law_rows_here"] (sp__law_all T m) := by
  refine T.F__law_all.ok sc__law_all (fun vs H Q E h => ?_) (fun cdv A outer s H vs Q E hr h => ?_)
  · obtain ⟨rows, S, ds, _, hd, ⟨rfl, _⟩, _⟩ := h
    rw [dpAll_len hd]
    rfl
  · obtain ⟨rows, S, ds, dm, hd, ⟨rfl, hm, hz⟩, q⟩ := h
    cases hd with
    | cons hd t =>
    cases t
    rename_i v0
    refine ⟨(tSeq (tAsg (tLst tNil) (gName 1))
  (tSeq (tFor (iList K (tVar 0)) (gName 2)
  (tSeq (tDrop (tBM K "list" rAppend (tVar 1) (tCons (tVar 2) tNil)))
  (tIfS (tTest (tOp (rIn K false) (tOp (rIxT K) (tVar 2) (tC (.int 0))) (tLst (tCons (tC (.str "section")) (tCons (tC (.str "rounds")) tNil))))) (tAsg (tOp (rCatS K) (tVar 1) (tCall sp' [] E0 (tCons (tOp (rIxT K) (tVar 2) (tUn (rU fun i => .int (-i)) (tC (.int 2)))) tNil))) (gName 1)) tNext)))
  (tRet (tVar 1)))),
(pss_cons (ps_set (i := 1) sc__law_all.nd rfl (.inl rfl) (pe_lst pa_nil))
  (pss_cons (ps_for PassesOwn.never rfl (pi_list (pv 0)) (pg_name (i := 2) sc__law_all.nd rfl (.inl rfl))
  (pss_cons (ps_expr (pe_bm PySem.F.plainAttrs_list PySem.F.slot_list_append PySem.F.type_list_append mt_append (pv 1) (pa_cons (pv 2) pa_nil)))
  (pss_one (ps_if (pt_cmpR op_in_seq (pe_ix ix_tup (pv 2) pe_int (fun _ _ => rfl)) (pe_lst (pa_cons pe_str (pa_cons pe_str pa_nil))) (by rfl)) (pss_one (ps_set (i := 1) sc__law_all.nd rfl (.inl rfl) (pe_op op_catS (pv 1) (pe_call (G__law_all.mono (by omega)) hr (by rfl) T.g__law_all T.F__law_all.kp T.b__law_all .nil pass0 (pa_cons (pe_ix ix_tup (pv 2) (pe_un un_neg pe_int) (fun _ _ => rfl)) pa_nil))))) pss_nil))))
  (pss_one (ps_ret (pv 1))))), ?_⟩
    let R : Rg := still S H dm
    have I0 : R.I H := still_refl
    refine w_new fun f nf => ?_
    obtain ⟨a, xs, rfl, hs, hxs⟩ := dp_lst hd
    have nfS : f ∉ R.S := R.fresh I0 nf
    have sqA : ∀ {H' : Hp}, Same (offS S H) H' → SqL K H' a xs := fun e => sq_mono e hs
    let Pv : Nat → L2.St → Hp → Prop := fun i σ' H' => ∃ (f : Addr) (acc : List V) (y : Option V), f ∉ R.S ∧ (R.plus f (.lst acc)).I H' ∧ Same (offS S H) (offS (f :: S) H') ∧ DpAll K (offS (f :: S) H') acc (rowsP (allR (rows.take i))) ∧ σ' = [some (.ref a), some (.ref f), y]
    refine ⟨.ref a, rfl, a, rfl, ⟨xs, sqA (Same.trans (offS_same _ _) (same_new nf))⟩, for_list (xs := xs) Pv ⟨f, [], none, nfS, plus_new nf I0, offS_cons nf (same_new nf), .nil, rfl⟩ (fun i σ' H' _ p => ?_) (fun i x σ' H' hx p => ?_) (fun σ' H' p => ?_)⟩
    · obtain ⟨f, acc, y, h1, h2, h3, h4, h5⟩ := p
      exact sqA (h3.trans (offS_same _ _))
    · obtain ⟨f, acc, y, nf, hI, h3, h4, rfl⟩ := p
      obtain ⟨d, hd1, hdx⟩ := dpAll_getV (dpAll_up h3 hxs) hx
      rw [rowsP_map, List.getElem?_map] at hd1
      obtain ⟨rw, hrw, rfl⟩ := Option.map_eq_some_iff.mp hd1
      have hmem := List.mem_of_getElem? hrw
      have tk : rows.take (i + 1) = rows.take i ++ [rw] := by rw [List.take_succ, hrw]; rfl
      have hl4 : acc.length ≤ 20000 := by
        rw [dpAll_len h4, rowsP_len, allR_len]
        have := cnts_take rows i
        omega
      refine w_app (K := K) (R := R) (p := f) (D := Dt K (fun d => d = rw.py)) (i := 1) rfl hI (x_d (i := 2) rfl hdx rfl) (by omega) fun u H1 g1 ⟨d, hd, dp⟩ => ?_
      subst hd
      have nI : (R.plus f (.lst (acc ++ [u]))).I (upd H1 f (.lst (acc ++ [u]))) := plus_set nf g1.inv
      have s1 : Same (offS (f :: S) H') (offS (f :: S) (upd H1 f (.lst (acc ++ [u])))) := by
        rw [offS_upd List.mem_cons_self]
        exact g1.same
      have dx1 : Dp K (offS (f :: S) (upd H1 f (.lst (acc ++ [u])))) x rw.py := dp_up s1 hdx
      have a1 : DpAll K (offS (f :: S) (upd H1 f (.lst (acc ++ [u])))) (acc ++ [u]) (rowsP (allR (rows.take i) ++ [rw])) := by
        rw [rowsP_app]
        exact dpAll_append (dpAll_up s1 h4) (.cons (by rw [offS_upd List.mem_cons_self]; exact dp) .nil)
      generalize hH2 : upd H1 f (.lst (acc ++ [u])) = H2 at nI s1 dx1 a1 ⊢
      refine w_when1 (R := R.plus f (.lst (acc ++ [u]))) (xt_isInn (j := 2) rfl dx1) nI (fun H3 g3 hb => ?_) (fun H3 g3 hb => ?_)
      · obtain ⟨inn, hinn⟩ := Option.isSome_iff_exists.mp hb.symm
        obtain ⟨pre, hI', _⟩ := Rw.inn_of hinn
        have hdep : deps inn + 1 ≤ m := by
          have h1 := deps_mem hmem
          have h2 : rw.dep = deps inn + 1 := by cases rw <;> simp only [Rw.inn, Option.some.injEq, reduceCtorEq] at hinn <;> subst hinn <;> rfl
          omega
        have hcn : cnts inn + 1 ≤ 20000 := by
          have h1 := cnt_mem hmem
          have h2 : rw.cnt = cnts inn + 1 := by cases rw <;> simp only [Rw.inn, Option.some.injEq, reduceCtorEq] at hinn <;> subst hinn <;> rfl
          omega
        obtain ⟨m', rfl⟩ := Nat.exists_eq_succ_of_ne_zero (show m ≠ 0 by omega)
        refine ⟨.ref f, rfl, (x_pureI (K := K) (R := R.plus f (.lst (acc ++ [u]))) (P := fun d => d = .list (rowsP (allR inn))) (Pre := allPre m' inn) (Post := fun _ d => d = .list (rowsP (allR inn))) (Ps := [fun d => d = .list (rowsP inn)]) (fun vs H Q E h => hc m' rfl _ _ _ _ ⟨inn, h⟩) (ds_cons (x_m2 (j := 2) rfl (dp_up g3.same dx1) hI' rfl) ds_nil) (fun ds al => by
          cases al with
          | cons h1 t => cases t; exact ⟨by rw [h1], by omega, by omega⟩) (fun _ d _ h => h)) H3 (Go.refl g3.inv) _ fun lv H4 g4 ⟨ld, hld, ldp⟩ => ?_⟩
        subst hld
        obtain ⟨b, us, rfl, hbs, hus⟩ := dp_lst ldp
        have g24 := g3.trans g4
        refine ⟨f, b, acc ++ [u], us, rfl, rfl, SqL.of g4.inv.2, sq_mono (offS_same _ _) hbs, ?_, fun p np => ?_⟩
        · rw [dpAll_len hus, rowsP_len, allR_len, List.length_append]
          exact sz_of (by simp; omega)
        · have npf : p ≠ f := fun z => by rw [z, g4.inv.2] at np; cases np
          have pS : p ∉ R.S := R.fresh g4.inv.1 np
          have s4 : Same (offS (f :: S) H4) (offS (p :: S) (upd H4 p (.lst ((acc ++ [u]) ++ us)))) := fun c o hco => by
            obtain ⟨n1, n2⟩ := offS_some.mp hco
            have npc : c ≠ p := fun z => by rw [z, np] at n2; cases n2
            exact offS_some.mpr ⟨by simp only [List.mem_cons, not_or] at n1 ⊢; exact ⟨npc, n1.2⟩, by rw [upd_ne npc]; exact n2⟩
          refine ⟨p, (acc ++ [u]) ++ us, _, pS, plus_new np g4.inv.1, (h3.trans (s1.trans g24.same)).trans s4, ?_, rfl⟩
          rw [tk, allR_app, show allR [rw] = rw :: allR inn by simp only [allR, all_inn hinn, List.append_nil], show allR (rows.take i) ++ rw :: allR inn = (allR (rows.take i) ++ [rw]) ++ allR inn by simp, rowsP_app]
          exact dpAll_append (dpAll_up (g24.same.trans s4) a1) (dpAll_up s4 hus)
      · have hinn : rw.inn = none := by cases z : rw.inn with
          | none => rfl
          | some _ => rw [z] at hb; cases hb
        refine ⟨f, acc ++ [u], _, nf, g3.inv, h3.trans (s1.trans g3.same), ?_, rfl⟩
        rw [tk, allR_app, show allR [rw] = [rw] by simp only [allR, all_leaf hinn, List.append_nil]]
        exact dpAll_up g3.same a1
    · obtain ⟨f, acc, y, nf, hI, h3, h4, rfl⟩ := p
      have hlen : xs.length = rows.length := by rw [dpAll_len hxs, rowsP_len]
      rw [hlen, List.take_length] at h4
      refine s_ret (ev_var rfl) fun H2 e2 => q _ _ H2 (fun b o hb => ?_) rfl (.lst (SqL.of (offS_some.mpr ⟨nf, e2 _ _ hI.2⟩)) (dpAll_up ((offS_sub fun x hx => List.mem_cons_of_mem _ hx).trans (offS_mono e2)) h4))
      by_cases mS : b ∈ S
      · exact e2 _ _ (by rw [hI.1 b mS]; exact hb)
      · exact e2 _ _ (offS_some.mp (h3 b o (offS_some.mpr ⟨mS, hb⟩))).2
theorem ok__law_all (T : Txt K mg) : ∀ m, FnOk P w K mg base CX0 (m + 1) T.a__law_all T.d__law_all ["_law_rows_here"] (sp__law_all T m)
  | 0 => all_body T (fun _ _ _ _ => False) 0 0 (ok_none fun _ _ _ _ h => h) fun m' e => by omega
  | m + 1 => all_body T (sp__law_all T m) (m + 1) (m + 1) (ok__law_all T m) fun m' e vs H Q E h => by
    have : m' = m := by omega
    subst this
    exact h
end SF
namespace SF
open PySem PySem.Spec PyProof.Rows L2 GK Evl LamX
variable {P : Program} {w : World} {K : PySem.W.Frag} {mg : Str → Option Value} {base : Heap}
/-! ### what a condition speaks of, as data -/
def saysP : Cnd → List PyData
  | .is n o => [.tuple [.str n, .str "one", .str o]]
  | .has n o => [.tuple [.str n, .str "some", .str o]]
  | .abv n k => [.tuple [.str n, .str "number", .int k]]
  | .blw n k => [.tuple [.str n, .str "number", .int k]]
  | .not c => saysP c
  | .both a b => saysP a ++ saysP b
  | .either a b => saysP a ++ saysP b
def saysO : Option Cnd → List PyData
  | none => []
  | some c => saysP c
theorem saysP_len : ∀ c : Cnd, (saysP c).length ≤ 2 ^ c.dep := fun c => by
  induction c with
  | is n o => simp [saysP, Cnd.dep]
  | has n o => simp [saysP, Cnd.dep]
  | abv n o => simp [saysP, Cnd.dep]
  | blw n o => simp [saysP, Cnd.dep]
  | not c ih => simp only [saysP, Cnd.dep, Nat.pow_succ]; omega
  | both a b ia ib =>
    have h1 : 2 ^ a.dep ≤ 2 ^ max a.dep b.dep := Nat.pow_le_pow_right (by decide) (Nat.le_max_left _ _)
    have h2 : 2 ^ b.dep ≤ 2 ^ max a.dep b.dep := Nat.pow_le_pow_right (by decide) (Nat.le_max_right _ _)
    simp only [saysP, Cnd.dep, Nat.pow_succ, List.length_append]; omega
  | either a b ia ib =>
    have h1 : 2 ^ a.dep ≤ 2 ^ max a.dep b.dep := Nat.pow_le_pow_right (by decide) (Nat.le_max_left _ _)
    have h2 : 2 ^ b.dep ≤ 2 ^ max a.dep b.dep := Nat.pow_le_pow_right (by decide) (Nat.le_max_right _ _)
    simp only [saysP, Cnd.dep, Nat.pow_succ, List.length_append]; omega
theorem says_small {c : Cnd} (h : c.dep ≤ 10) : (saysP c).length ≤ 1024 := by
  have h1 := saysP_len c
  have h2 : 2 ^ c.dep ≤ 2 ^ 10 := Nat.pow_le_pow_right (by decide) h
  omega
/-! ### _law_spoken -/
def spokenPre (m : Nat) (c : Option Cnd) (ds : List PyData) : Prop := ds = [ocP c] ∧ (∀ c', c = some c' → c'.dep ≤ m) ∧ m ≤ 10
def sp__law_spoken (T : Txt K mg) (m : Nat) : Sp := fun vs H Q E => ∃ c, spP K (spokenPre m c) (fun _ d => d = .list (saysO c)) vs H Q E
section
variable {R : Rg} {σ : L2.St} {H : Hp} {v : V} {j : Nat}
/-- cond[0] in ['both', 'either'] -/
theorem xt_isTwo {s : Str} {rest : List PyData} (hj : σ[j]? = some (some v)) (hv : Dp K (R.off H) v (.tuple (.str s :: rest))) : EvXT R (tTest (tOp (rIn K false) (tOp (rIxT K) (tVar j) (tC (.int 0))) (tLst (tCons (tC (.str "both")) (tCons (tC (.str "either")) tNil))))) σ H (fun b => b = decide (s ∈ [("both" : Str), "either"])) :=
  xt_test (x_in (A := fun d => d = .str s) (B := fun d => d = .list ([("both" : Str), "either"].map .str)) (x_at (n := 0) hj hv rfl rfl) (x_li (ds_cons (x_s (A := fun s => s = "both") rfl) (ds_cons (x_s (A := fun s => s = "either") rfl) ds_nil)) fun ds al => by
    obtain ⟨a, b, rfl, ⟨_, rfl, rfl⟩, ⟨_, rfl, rfl⟩⟩ := al2 al
    rfl) fun d e hd he => by
      subst hd he
      exact ⟨_, .inl rfl, rfl, flat_strs, any_str⟩)
end
theorem spoken_body (T : Txt K mg) (sp' : Sp) (jj m : Nat) (G__law_spoken : FnOk P w K mg base CX0 jj T.a__law_spoken T.d__law_spoken ["_law_cond"] sp')
    (hc : ∀ m', m = m' + 1 → ∀ vs H Q E, sp__law_spoken T m' vs H Q E → sp' vs H Q E) : FnOk P w K mg base CX0 (jj + 1) T.a__law_spoken T.d__law_spoken ["_law_cond"] (sp__law_spoken T m) := by
  refine T.F__law_spoken.ok sc__law_spoken (fun vs H Q E h => ?_) (fun cdv A outer s H vs Q E hr h => ?_)
  · obtain ⟨c, S, ds, _, hd, ⟨rfl, _⟩, _⟩ := h
    rw [dpAll_len hd]
    rfl
  · obtain ⟨c, S, ds, dm, hd, ⟨rfl, hm, hm10⟩, q⟩ := h
    cases hd with
    | cons hd t =>
    cases t
    rename_i v0
    refine ⟨(tSeq (tIfS (tTest (tOp rIsN (tVar 0) (tC .non))) (tRet (tLst tNil)) tNext)
  (tSeq (tIfS (tTest (tOp rEq (tOp (rIxT K) (tVar 0) (tC (.int 0))) (tC (.str "not")))) (tRet (tCall sp' [] E0 (tCons (tOp (rIxT K) (tVar 0) (tC (.int 1))) tNil))) tNext)
  (tSeq (tIfS (tTest (tOp (rIn K false) (tOp (rIxT K) (tVar 0) (tC (.int 0))) (tLst (tCons (tC (.str "both")) (tCons (tC (.str "either")) tNil))))) (tRet (tOp (rCatS K) (tCall sp' [] E0 (tCons (tOp (rIxT K) (tVar 0) (tC (.int 1))) tNil)) (tCall sp' [] E0 (tCons (tOp (rIxT K) (tVar 0) (tC (.int 2))) tNil)))) tNext)
  (tRet (tLst (tCons (tTup (tCons (tOp (rIxT K) (tVar 0) (tC (.int 1))) (tCons (tDGet2 (tDisp [((tC (.str "is")), (tC (.str "one"))), ((tC (.str "has")), (tC (.str "some")))]) (tOp (rIxT K) (tVar 0) (tC (.int 0))) (tC (.str "number"))) (tCons (tOp (rIxT K) (tVar 0) (tC (.int 2))) tNil)))) tNil)))))),
(pss_cons (ps_if (pt_cmpR op_isN1 (pv 0) pe_non (nomark _)) (pss_one (ps_ret (pe_lst pa_nil))) pss_nil)
  (pss_cons (ps_if (pt_cmpR op_eq (pe_ix ix_tup (pv 0) pe_int (fun _ _ => rfl)) pe_str (nomark _)) (pss_one (ps_ret (pe_call (G__law_spoken.mono (by omega)) hr (by rfl) T.g__law_spoken T.F__law_spoken.kp T.b__law_spoken .nil pass0 (pa_cons (pe_ix ix_tup (pv 0) pe_int (fun _ _ => rfl)) pa_nil)))) pss_nil)
  (pss_cons (ps_if (pt_cmpR op_in_seq (pe_ix ix_tup (pv 0) pe_int (fun _ _ => rfl)) (pe_lst (pa_cons pe_str (pa_cons pe_str pa_nil))) (by rfl)) (pss_one (ps_ret (pe_op op_catS (pe_call (G__law_spoken.mono (by omega)) hr (by rfl) T.g__law_spoken T.F__law_spoken.kp T.b__law_spoken .nil pass0 (pa_cons (pe_ix ix_tup (pv 0) pe_int (fun _ _ => rfl)) pa_nil)) (pe_call (G__law_spoken.mono (by omega)) hr (by rfl) T.g__law_spoken T.F__law_spoken.kp T.b__law_spoken .nil pass0 (pa_cons (pe_ix ix_tup (pv 0) pe_int (fun _ _ => rfl)) pa_nil))))) pss_nil)
  (pss_one (ps_ret (pe_lst (pa_cons (pe_tup (pa_cons (pe_ix ix_tup (pv 0) pe_int (fun _ _ => rfl)) (pa_cons (pe_dget2 (hu_of hr) (pe_disp (pps_cons pe_str pe_str (pps_cons pe_str pe_str pps_nil)) (by rfl) (by rfl) (fun z => by cases z) (by decide)) (pe_ix ix_tup (pv 0) pe_int (fun _ _ => rfl)) pe_str ⟨rfl, rfl, rfl, rfl⟩) (pa_cons (pe_ix ix_tup (pv 0) pe_int (fun _ _ => rfl)) pa_nil)))) pa_nil))))))), ?_⟩
    let R : Rg := still S H dm
    have I0 : R.I H := still_refl
    have fin : ∀ {v H1}, Go R H H1 → (Dt K (fun d => d = .list (saysO c))).p (R.off H1) v → Q v H1 := fun {v H1} g ⟨d, hd, dp⟩ => q v d H1 (still_same g) hd dp
    refine w_when (R := R) (B := fun b => b = isNon (ocP c)) (xt_test (x_isN (K := K) (A := fun d => d = ocP c) (x_d (i := 0) rfl hd rfl) fun d hd => by rw [hd])) I0 (fun H1 g1 hb => ?_) (fun H1 g1 hb => ?_)
    · cases c with
      | some c => cases c <;> cases hb
      | none => exact w_ret (R := R) (x_li ds_nil fun ds al => by cases al; rfl) g1.inv fun v H2 g2 hv => fin (g1.trans g2) hv
    cases c with
    | none => cases hb
    | some c =>
    have hm := hm c rfl
    have d1 := dp_up g1.same hd
    have deep : ∀ {c1 : Cnd} {ds : List PyData} {n : Nat} {H2 : Hp}, c1.dep + 1 ≤ m → ds[n]? = some c1.py → Dp K (R.off H2) v0 (.tuple ds) → EvX R (tCall sp' [] E0 (tCons (tOp (rIxT K) (tVar 0) (tC (.int (n : Int)))) tNil)) [some v0] H2 (Dt K (fun d => d = .list (saysP c1))) := fun {c1 ds n H2} le hn hv => by
      obtain ⟨m', rfl⟩ := Nat.exists_eq_succ_of_ne_zero (show m ≠ 0 by omega)
      exact x_pureI (K := K) (Pre := spokenPre m' (some c1)) (Post := fun _ d => d = .list (saysO (some c1))) (Ps := [fun d => d = c1.py]) (fun vs H Q E h => hc m' rfl _ _ _ _ ⟨some c1, h⟩) (ds_cons (x_at (j := 0) rfl hv hn rfl) ds_nil) (fun ds al => by
        cases al with
        | cons h1 t => cases t; exact ⟨by rw [h1]; rfl, fun c' z => by cases z; omega, by omega⟩) (fun _ d _ h => h)
    have two : ∀ {a b : Cnd} {s : Str} {H2 : Hp}, max a.dep b.dep + 1 ≤ m → Dp K (R.off H2) v0 (.tuple [.str s, a.py, b.py]) → EvX R (tOp (rCatS K) (tCall sp' [] E0 (tCons (tOp (rIxT K) (tVar 0) (tC (.int 1))) tNil)) (tCall sp' [] E0 (tCons (tOp (rIxT K) (tVar 0) (tC (.int 2))) tNil))) [some v0] H2 (Dt K (fun d => d = .list (saysP a ++ saysP b))) := fun {a b s H2} le hv =>
      x_catL (A := fun d => d = .list (saysP a)) (B := fun d => d = .list (saysP b)) (deep (n := 1) (by omega) rfl hv) (deep (n := 2) (by omega) rfl hv) fun d e hd he => ⟨_, _, hd, he, by have := says_small (c := a) (by omega); have := says_small (c := b) (by omega); omega, rfl⟩
    have leaf : ∀ {s n kd : Str} {x : PyData} {H2 : Hp}, kd = (if s = "is" then ("one" : Str) else if s = "has" then "some" else "number") → Dp K (R.off H2) v0 (.tuple [.str s, .str n, x]) → EvX R (tLst (tCons (tTup (tCons (tOp (rIxT K) (tVar 0) (tC (.int 1))) (tCons (tDGet2 (tDisp [(tC (.str "is"), tC (.str "one")), (tC (.str "has"), tC (.str "some"))]) (tOp (rIxT K) (tVar 0) (tC (.int 0))) (tC (.str "number"))) (tCons (tOp (rIxT K) (tVar 0) (tC (.int 2))) tNil)))) tNil)) [some v0] H2 (Dt K (fun d => d = .list [.tuple [.str n, .str kd, x]])) := fun {s n kd x H2} hk hv =>
      x_li (ds_cons (x_tu (P := fun d => d = .tuple [.str n, .str kd, x]) (ds_cons (x_at (P := fun d => d = .str n) (n := 1) (j := 0) rfl hv rfl rfl) (ds_cons (x_get2 (P := fun d => d = .str kd) (A := fun t => t = s) (by decide) (fun _ => .str _) (fun _ => .str _) (fun _ => .str _) (x_at (n := 0) (j := 0) rfl hv rfl ⟨_, rfl, rfl⟩) fun k hk' => by
          subst hk'
          rw [hk]
          split
          · rfl
          · split <;> rfl) (ds_cons (x_at (P := fun d => d = x) (n := 2) (j := 0) rfl hv rfl rfl) ds_nil))) fun ds al => by
          obtain ⟨a, b, c, rfl, rfl, rfl, rfl⟩ := al3 al
          rfl) ds_nil) fun ds al => by
        cases al with
        | cons h1 t => cases t; rw [h1]
    have isNot : ∀ {s : Str} {rest : List PyData} {H2 : Hp}, Dp K (R.off H2) v0 (.tuple (.str s :: rest)) → EvXT R (tTest (tOp rEq (tOp (rIxT K) (tVar 0) (tC (.int 0))) (tC (.str "not")))) [some v0] H2 (fun b => b = decide (s = "not")) := fun {s rest H2} hv => xt_test (x_eqS (K := K) (A := fun t => t = s) (B := fun t => t = "not") (x_at (n := 0) (j := 0) rfl hv rfl ⟨_, rfl, rfl⟩) (x_s rfl) fun a b ha hb => by rw [ha, hb])
    have key : (∃ (s n kd : Str) (x : PyData), s ≠ "not" ∧ s ∉ [("both" : Str), "either"] ∧ kd = (if s = "is" then ("one" : Str) else if s = "has" then "some" else "number") ∧ c.py = .tuple [.str s, .str n, x] ∧ saysP c = [.tuple [.str n, .str kd, x]]) ∨ (∃ a, c = .not a) ∨ (∃ (s : Str) (a b : Cnd), s ≠ "not" ∧ s ∈ [("both" : Str), "either"] ∧ c.py = .tuple [.str s, a.py, b.py] ∧ saysP c = saysP a ++ saysP b ∧ c.dep = max a.dep b.dep + 1) := by
      cases c with
      | is n o => exact .inl ⟨"is", n, "one", _, by decide, by decide, by decide, rfl, rfl⟩
      | has n o => exact .inl ⟨"has", n, "some", _, by decide, by decide, by decide, rfl, rfl⟩
      | abv n k => exact .inl ⟨"above", n, "number", _, by decide, by decide, by decide, rfl, rfl⟩
      | blw n k => exact .inl ⟨"below", n, "number", _, by decide, by decide, by decide, rfl, rfl⟩
      | not a => exact .inr (.inl ⟨a, rfl⟩)
      | both a b => exact .inr (.inr ⟨"both", a, b, by decide, by decide, rfl, rfl, rfl⟩)
      | either a b => exact .inr (.inr ⟨"either", a, b, by decide, by decide, rfl, rfl, rfl⟩)
    rcases key with ⟨s, n, kd, x, n1, n2, hk, hpy, hsy⟩ | ⟨a, rfl⟩ | ⟨s, a, b, n1, n2, hpy, hsy, hdp⟩
    · have d2 : Dp K (R.off H1) v0 (.tuple [.str s, .str n, x]) := by rw [← hpy]; exact d1
      refine w_when (R := R) (isNot d2) g1.inv (fun H2 _ z => absurd (of_decide_eq_true z.symm) n1) (fun H2 g2 _ => ?_)
      refine w_when (R := R) (xt_isTwo (j := 0) rfl (dp_up g2.same d2)) g2.inv (fun H3 _ z => absurd (of_decide_eq_true z.symm) n2) (fun H3 g3 _ => ?_)
      refine w_ret (R := R) (leaf hk (dp_up (g2.trans g3).same d2)) g3.inv fun v H4 g4 hv => fin (((g1.trans g2).trans g3).trans g4) ?_
      rw [show saysO (some c) = saysP c from rfl, hsy]
      exact hv
    · have hm : a.dep + 1 ≤ m := hm
      refine w_when (R := R) (isNot d1) g1.inv (fun H2 g2 _ => ?_) (fun H2 _ z => absurd rfl (of_decide_eq_false z.symm))
      exact w_ret (R := R) (deep (n := 1) hm rfl (dp_up g2.same d1)) g2.inv fun v H3 g3 hv => fin ((g1.trans g2).trans g3) hv
    · have d2 : Dp K (R.off H1) v0 (.tuple [.str s, a.py, b.py]) := by rw [← hpy]; exact d1
      refine w_when (R := R) (isNot d2) g1.inv (fun H2 _ z => absurd (of_decide_eq_true z.symm) n1) (fun H2 g2 _ => ?_)
      refine w_when (R := R) (xt_isTwo (j := 0) rfl (dp_up g2.same d2)) g2.inv (fun H3 g3 _ => ?_) (fun H3 _ z => absurd n2 (of_decide_eq_false z.symm))
      refine w_ret (R := R) (two (by omega) (dp_up (g2.trans g3).same d2)) g3.inv fun v H4 g4 hv => fin (((g1.trans g2).trans g3).trans g4) ?_
      rw [show saysO (some c) = saysP c from rfl, hsy]
      exact hv
theorem ok__law_spoken (T : Txt K mg) : ∀ m, FnOk P w K mg base CX0 (m + 1) T.a__law_spoken T.d__law_spoken ["_law_cond"] (sp__law_spoken T m)
  | 0 => spoken_body T (fun _ _ _ _ => False) 0 0 (ok_none fun _ _ _ _ h => h) fun m' e => by omega
  | m + 1 => spoken_body T (sp__law_spoken T m) (m + 1) (m + 1) (ok__law_spoken T m) fun m' e vs H Q E h => by
    have : m' = m := by omega
    subst this
    exact h
end SF
namespace SF
open PySem PySem.Spec PyProof.Rows L2 GK Evl LamX
variable {P : Program} {w : World} {K : PySem.W.Frag} {mg : Str → Option Value} {base : Heap}
/-! ### _law_is_name -/
def sp__law_is_name (T : Txt K mg) : Sp := fun vs H Q _ => ∃ s : Str, vs = [.str s] ∧ s.length ≤ 1000 ∧ ∀ H', Same H H' → Q (.bl (isName s)) H'
theorem ok__law_is_name (T : Txt K mg) : FnOk P w K mg base CX0 1 T.a__law_is_name T.d__law_is_name ["_law_text"] (sp__law_is_name T) := by
  refine T.F__law_is_name.ok sc__law_is_name (fun vs H Q E h => ?_) (fun cdv A outer s H vs Q E hr h => ?_)
  · obtain ⟨z, rfl, _⟩ := h
    rfl
  · obtain ⟨z, rfl, hz, k⟩ := h
    refine ⟨(tSeq (tAsg (tC (.str "abcdefghijklmnopqrstuvwxyz")) (gName 1))
  (tSeq (tIfS (tOr (tNot (tTest (tChain (rI0 fun i j => .bl (decide (i ≤ j))) (rI0 fun i j => .bl (decide (i ≤ j))) (tC (.int 1)) (tCB gLenT (tCons (tVar 0) tNil)) (tC (.int 8))))) (tTest (tOp rNiSg (tOp rIxS (tVar 0) (tC (.int 0))) (tVar 1)))) (tRet (tC (.bl false))) tNext)
  (tRet (tCB (rAll K) (tCons (tLc (iStr (tVar 0)) (gName 2) tYes (tOp rInSg (tVar 2) (tOp rAddT (tVar 1) (tC (.str "0123456789")))) [2]) tNil))))),
(pss_cons (ps_set (i := 1) sc__law_is_name.nd rfl (.inr rfl) pe_str)
  (pss_cons (ps_if (PW.pt (pw_or (pt_not (pt_chain op_le op_le pe_int (pe_callB call_lenT (by rfl) T.z_len (by decide +kernel) (pa_cons (pv 0) pa_nil)) pe_int)) (pw_or1 (pt_cmpR op_niSg (pe_ix ix_str (pv 0) pe_int (fun _ _ => rfl)) (pv 1) (by rfl))))) (pss_one (ps_ret pe_bl)) pss_nil)
  (pss_one (ps_ret (pe_callB (cr_all rfl) (by rfl) T.z_all (by decide +kernel) (pa_cons (pe_lc (own := [("_law_sign", 2)]) (g := (gName 2)) (tt := tYes) (te := (tOp rInSg (tVar 2) (tOp rAddT (tVar 1) (tC (.str "0123456789"))))) rfl sc__law_is_name.nd (pi_str (pv 0)) (blkOk_by (N := ["_law_text", "_law_small", "_law_sign"]) (sc := defScope s__law_is_name) (own := [("_law_sign", 2)]) (by decide +kernel)) (fun _ _ _ _ _ => (pg_name (i := 2) sc__law_is_name.nd rfl (.inl rfl))) (fun _ _ _ _ _ => pts_nil) (fun _ _ _ _ _ => (pe_cmpR op_inSg (pv 2) (pe_op op_addT (pv 1) pe_str) (by rfl)))) pa_nil)))))), ?_⟩
    refine q_asg ev_c fun H0 e0 => ?_
    have ch := ev_chain (σ := [some (.str z), some (.str "abcdefghijklmnopqrstuvwxyz"), none]) (H := H0) (p := fun i j => decide (i ≤ j)) (q := fun i j => decide (i ≤ j)) (ev_c (v := .int 1)) (ev_lenT (s := z) (ev_var (i := 0) rfl) (by omega)) (ev_c (v := .int 8))
    by_cases hl : (decide ((1 : Int) ≤ z.length) && decide ((z.length : Int) ≤ 8)) = true
    · have hne : ∃ c r, z.cps.toList = c :: r := by
        cases e : z.cps.toList with
        | nil =>
          have : z.length = 0 := by
            show z.cps.size = 0
            rw [← Array.length_toList, e]
            rfl
          rw [this] at hl
          simp at hl
        | cons c r => exact ⟨c, r, rfl⟩
      obtain ⟨c, r, ec⟩ := hne
      rw [hl] at ch
      have hl' : decide (1 ≤ z.length) = true ∧ decide (z.length ≤ 8) = true := by
        rw [Bool.and_eq_true] at hl
        have a := of_decide_eq_true hl.1
        have b := of_decide_eq_true hl.2
        exact ⟨decide_eq_true (by omega), decide_eq_true (by omega)⟩
      have hn : isName z = (decide (c ∈ letters) && z.cps.toList.all (fun c => decide (c ∈ letters) || decide (c ∈ figures))) := by
        unfold isName
        rw [hl'.1, hl'.2, ec]
        simp
      refine q_when (b := !decide (c ∈ letters)) (et_or (a := false) (et_not (a := true) (et_test ch)) (fun _ => et_test (ev_op (ev_op (ev_var (i := 0) rfl) ev_c (rv_ixS (w := z) (i := 0) (c := c) (by omega) (atI_nat (j := 0) (by rw [ec]; rfl)))) (ev_var (i := 1) rfl) rv_niSg))) (fun hb H1 e1 => ?_) (fun hb H1 e1 => ?_)
      · refine s_ret ev_c fun H2 e2 => ?_
        have h3 : decide (c ∈ letters) = false := by simpa using hb
        rw [show (V.bl false) = .bl (isName z) by rw [hn, h3]; rfl]
        exact k H2 (Same.trans e0 (Same.trans e1 e2))
      · have h3 : decide (c ∈ letters) = true := by simpa using hb
        refine s_ret (ev_allN (bs := z.cps.toList.map fun c => decide (c ∈ letters) || decide (c ∈ figures)) ?_) fun H2 e2 => ?_
        · rw [List.map_map]
          refine el_lcT (F := V.bl ∘ fun c => decide (c ∈ letters) || decide (c ∈ figures)) (ev_var rfl) (by omega) (fun x => rfl) fun H3 e3 c' _ => ?_
          have z1 : Ev (tOp rAddT (tVar 1) (tC (.str "0123456789"))) [some (.str z), some (.str "abcdefghijklmnopqrstuvwxyz"), some (.str ⟨#[c']⟩)] H3 (.str ("abcdefghijklmnopqrstuvwxyz" ++ "0123456789")) := fun H4 e4 Q' q' => ⟨_, rfl, _, _, rfl, rfl, by decide, q' H4 (Same.refl _)⟩
          have z2 := ev_op (r := rInSg) (σ := [some (.str z), some (.str "abcdefghijklmnopqrstuvwxyz"), some (.str ⟨#[c']⟩)]) (H := H3) (ev_var (i := 2) rfl) z1 rv_inSg
          have e : (V.bl ∘ fun c => decide (c ∈ letters) || decide (c ∈ figures)) c' = .bl (decide (c' ∈ (("abcdefghijklmnopqrstuvwxyz" : Str) ++ "0123456789").cps.toList)) := by
            show V.bl (decide (c' ∈ letters) || decide (c' ∈ figures)) = _
            rw [PySem.Str.cps_append, Array.toList_append]
            congr 1
            rw [Bool.eq_iff_iff]
            simp [letters, figures]
          rw [e]
          exact z2
        · have : (z.cps.toList.map fun c => decide (c ∈ letters) || decide (c ∈ figures)).all id = isName z := by rw [hn, h3, List.all_map]; rfl
          rw [this]
          exact k H2 (Same.trans e0 (Same.trans e1 e2))
    · have hl : (decide ((1 : Int) ≤ z.length) && decide ((z.length : Int) ≤ 8)) = false := by simpa using hl
      rw [hl] at ch
      have hn : isName z = false := by
        unfold isName
        rw [Bool.and_eq_false_iff] at hl
        rcases hl with h | h
        · have := of_decide_eq_false h
          have : decide (1 ≤ z.length) = false := decide_eq_false (by omega)
          rw [this]
          simp
        · have := of_decide_eq_false h
          have : decide (z.length ≤ 8) = false := decide_eq_false (by omega)
          rw [this]
          simp
      refine q_when (b := true) (et_or (a := true) (b := false) (et_not (a := false) (et_test ch)) (fun z => by cases z)) (fun hb H1 e1 => ?_) (fun hb => by cases hb)
      exact s_ret ev_c fun H2 e2 => by rw [← hn]; exact k H2 (Same.trans e0 (Same.trans e1 e2))
end SF
namespace SF
open PySem PySem.Spec PyProof.Rows L2 GK Evl LamX
variable {P : Program} {w : World} {K : PySem.W.Frag} {mg : Str → Option Value} {base : Heap}
/-! ### what the law holds of a form: names, known, rounds -/
def askD (K : PySem.W.Frag) (H : Hp) (kv : Key × V) (a : Str × Rw × Nat) : Prop := kv.1 = Sum.inr a.1 ∧ Dp K H kv.2 (.tuple [a.2.1.py, .int (a.2.2 : Int)])
structure FAt (K : PySem.W.Frag) (S : List Addr) (H : Hp) (F nl kd : Addr) (st : Stt) (kvs : List (Key × V)) : Prop where
  mF : F ∈ S
  mn : nl ∈ S
  mk_ : kd ∈ S
  n1 : F ≠ nl
  n2 : F ≠ kd
  n3 : nl ≠ kd
  dm : ∀ a ∈ S, ∃ o, H a = some o
  atF : H F = some (.dK [(Sum.inr "names", .ref nl), (Sum.inr "known", .ref kd), (Sum.inr "rounds", .int (st.rounds : Int))])
  atn : H nl = some (.lst (st.named.map V.str))
  atk : H kd = some (.dK kvs)
  pr : Paired (askD K (offS S H)) kvs st.asked
theorem askD.up {H H' : Hp} (e : Same H H') : ∀ {kvs : List (Key × V)} {as : List (Str × Rw × Nat)}, Paired (askD K H) kvs as → Paired (askD K H') kvs as
  | _, _, .nil => .nil
  | _, _, .cons h t => .cons ⟨h.1, dp_up e h.2⟩ (askD.up e t)
theorem askd_get {H : Hp} {n : Str} : ∀ {kvs : List (Key × V)} {as : List (Str × Rw × Nat)}, Paired (askD K H) kvs as → (getA as n = none ∧ valV kvs (Sum.inr n) = none) ∨ ∃ r h v, getA as n = some (r, h) ∧ valV kvs (Sum.inr n) = some v ∧ Dp K H v (.tuple [r.py, .int (h : Int)])
  | _, _, .nil => .inl ⟨rfl, rfl⟩
  | (k, v) :: kvs, (m, r, h) :: as, .cons hh t => by
    have hk : k = Sum.inr m := hh.1
    subst hk
    by_cases e : m = n
    · subst e
      exact .inr ⟨r, h, v, by simp [getA], valV_pos rfl, hh.2⟩
    · have e1 : getA ((m, r, h) :: as) n = getA as n := by simp [getA, e]
      have e2 : valV (((Sum.inr m : Key), v) :: kvs) (Sum.inr n) = valV kvs (Sum.inr n) := valV_neg fun z => e (Sum.inr.inj z)
      rw [e1, e2]
      exact askd_get t
section
variable {S : List Addr} {H H1 : Hp} {F nl kd : Addr} {st : Stt} {kvs : List (Key × V)} {σ : L2.St} {i j : Nat} {n : Str}
theorem FAt.up (h : FAt K S H F nl kd st kvs) (e : Same H H1) : FAt K S H1 F nl kd st kvs := ⟨h.mF, h.mn, h.mk_, h.n1, h.n2, h.n3, fun a ha => by obtain ⟨o, ho⟩ := h.dm a ha; exact ⟨o, e _ _ ho⟩, e _ _ h.atF, e _ _ h.atn, e _ _ h.atk, askD.up (offS_mono e) h.pr⟩
abbrev FAt.rg (h : FAt K S H F nl kd st kvs) : Rg := still S H h.dm
theorem FAt.go (h : FAt K S H F nl kd st kvs) (g : Go h.rg H H1) : FAt K S H1 F nl kd st kvs := h.up (still_same g)
theorem FAt.known (h : FAt K S H F nl kd st kvs) {Q : VK} (hi : σ[i]? = some (some (.ref F))) (q : Q (.ref kd) H) : tDGet (tVar i) (tC (.str "known")) σ H Q := by
  refine ⟨.ref F, hi, F, .ref kd, rfl, ?_, q⟩
  have ne : ("names" : Str) ≠ "known" := by decide
  have nk : ¬ ((Sum.inr ("names" : Str) : Key), V.ref nl).1 = Sum.inr ("known" : Str) := fun z => ne (Sum.inr.inj z)
  have z := DGet.k (k := (Sum.inr ("known" : Str) : Key)) h.atF
  rw [valV_neg nk, valV_pos rfl] at z
  exact z
theorem FAt.x_known (h : FAt K S H F nl kd st kvs) (g1 : Go h.rg H H1) (hi : σ[i]? = some (some (.ref F))) (hj : σ[j]? = some (some (.str n))) {r : Rw} {k : Nat} (hg : getA st.asked n = some (r, k)) : EvX h.rg (tDGet (tDGet (tVar i) (tC (.str "known"))) (tVar j)) σ H1 (Dt K (fun d => d = .tuple [r.py, .int (k : Int)])) := fun H2 g2 Q q => by
  have h2 := h.go (g1.trans g2)
  refine h2.known hi ⟨.str n, hj, ?_⟩
  rcases askd_get (n := n) h2.pr with ⟨z, _⟩ | ⟨r', k', v, z1, z2, z3⟩
  · rw [z] at hg; cases hg
  · rw [z1] at hg
    cases hg
    refine ⟨kd, v, rfl, ?_, q v H2 (Go.refl g2.inv) ⟨_, rfl, z3⟩⟩
    rw [← z2]
    exact DGet.k (k := (Sum.inr n : Key)) h2.atk
theorem FAt.xt_unknown (h : FAt K S H F nl kd st kvs) (g1 : Go h.rg H H1) (hi : σ[i]? = some (some (.ref F))) (hj : σ[j]? = some (some (.str n))) : EvXT h.rg (tB (tDNotIn (tVar j) (tDGet (tVar i) (tC (.str "known"))))) σ H1 (fun b => b = (getA st.asked n).isNone) := fun H2 g2 Q q => by
  have h2 := h.go (g1.trans g2)
  refine ⟨.str n, hj, h2.known hi ?_⟩
  refine ⟨kd, _, rfl, DGet.k (k := (Sum.inr n : Key)) h2.atk, _, rfl, q _ H2 (Go.refl g2.inv) ?_⟩
  rcases askd_get (n := n) h2.pr with ⟨z, z2⟩ | ⟨r', k', v, z1, z2, z3⟩
  · rw [z, z2]; rfl
  · rw [z1, z2]; rfl
end
/-! ### _law_heard -/
def speakP (st : Stt) (n : Str) (here : Nat) : PyData := match speak st n here with
  | .error f => f.py
  | .ok _ => .none
def sp__law_heard (T : Txt K mg) : Sp := fun vs H Q _ => ∃ (S : List Addr) (F nl kd : Addr) (st : Stt) (kvs : List (Key × V)) (n : Str) (here : Nat), vs = [.ref F, .str n, .int (here : Int)] ∧ FAt K S H F nl kd st kvs ∧ ∀ v H', Same H H' → Dp K (offS S H') v (speakP st n here) → Q v H'
theorem ok__law_heard (T : Txt K mg) : FnOk P w K mg base CX0 1 T.a__law_heard T.d__law_heard ["_law_f", "_law_name", "_law_here"] (sp__law_heard T) := by
  refine T.F__law_heard.ok sc__law_heard (fun vs H Q E h => ?_) (fun cdv A outer s H vs Q E hr h => ?_)
  · obtain ⟨S, F, nl, kd, st, kvs, n, here, rfl, _⟩ := h
    rfl
  · obtain ⟨S, F, nl, kd, st, kvs, n, here, rfl, fa, q⟩ := h
    refine ⟨(tSeq (tIfS (tOr (tB (tDNotIn (tVar 1) (tDGet (tVar 0) (tC (.str "known"))))) (tTest (tOp (rIn K true) (tOp (rIxT K) (tDGet (tDGet (tVar 0) (tC (.str "known"))) (tVar 1)) (tC (.int 1))) (tLst (tCons (tC (.int 0)) (tCons (tVar 2) tNil)))))) (tRet (tTup (tCons (tC (.str "question")) (tCons (tVar 1) tNil)))) tNext)
  (tRet (tC .non))),
(pss_cons (ps_if (PW.pt (pw_or (pt_cmp (pc_dnotin (hu_of hr) (pv 1) (pe_dget (hu_of hr) (pv 0) pe_str (fun _ _ => rfl)))) (pw_or1 (pt_cmpR op_notIn_seq (pe_ix ix_tup (pe_dget (hu_of hr) (pe_dget (hu_of hr) (pv 0) pe_str (fun _ _ => rfl)) (pv 1) (fun _ _ => rfl)) pe_int (fun _ _ => rfl)) (pe_lst (pa_cons pe_int (pa_cons (pv 2) pa_nil))) (by rfl))))) (pss_one (ps_ret (pe_tup (pa_cons pe_str (pa_cons (pv 1) pa_nil))))) pss_nil)
  (pss_one (ps_ret pe_non))), ?_⟩
    have I0 : fa.rg.I H := still_refl
    refine w_when (R := fa.rg) (B := fun b => speakP st n here = if b then .tuple [.str "question", .str n] else .none) (xt_or (A := fun b => b = (getA st.asked n).isNone) (B := fun b => speakP st n here = if b then .tuple [.str "question", .str n] else .none) (fa.xt_unknown (Go.refl I0) (i := 0) rfl (j := 1) rfl) (fun hn => ?_) (fun hn => ?_) (fun b _ hb => hb)) I0 (fun H1 g1 hb => ?_) (fun H1 g1 hb => ?_)
    · obtain ⟨rk, hrk⟩ : ∃ rk, getA st.asked n = some rk := by
        cases z : getA st.asked n with
        | none => rw [z] at hn; cases hn
        | some rk => exact ⟨rk, rfl⟩
      obtain ⟨r, k⟩ := rk
      refine xt_test (x_in (neg := true) (A := fun d => d = .int (k : Int)) (B := fun d => d = .list [.int 0, .int (here : Int)]) (x_ixT (A := fun d => d = .tuple [r.py, .int (k : Int)]) (N := fun i => i = 1) (fa.x_known (Go.refl I0) (i := 0) rfl (j := 1) rfl hrk) (x_i rfl) fun d i hd hi => by subst hi; exact ⟨_, _, hd, atI_nat (j := 1) rfl, rfl⟩) (x_li (ds_cons (x_i (A := fun i => i = 0) rfl) (ds_cons (x_vi (A := fun i => i = (here : Int)) (i := 2) rfl rfl) ds_nil)) fun ds al => by
        obtain ⟨a, b, rfl, ⟨_, rfl, rfl⟩, ⟨_, rfl, rfl⟩⟩ := al2 al
        rfl) fun d e hd he => ?_)
      subst hd he
      refine ⟨_, .inl rfl, rfl, rfl, ?_⟩
      have hs : speakP st n here = if k = 0 ∨ k = here then .none else .tuple [.str "question", .str n] := by
        unfold speakP speak
        rw [hrk]
        by_cases z : k = 0 ∨ k = here
        · simp [z]
        · simp [z, Fault.py]
      rw [hs, if_pos rfl]
      show _ = if (!((0 : Int) == (k : Int) || (((here : Int) == (k : Int)) || false))) = true then _ else _
      by_cases z : k = 0 ∨ k = here
      · rw [if_pos z, if_neg]
        rcases z with z | z
        · subst z; simp
        · subst z; simp
      · rw [if_neg z, if_pos]
        simp only [not_or] at z
        have a1 : ((0 : Int) == (k : Int)) = false := by simp; omega
        have a2 : ((here : Int) == (k : Int)) = false := by simp; omega
        rw [a1, a2]
        rfl
    · rw [if_pos rfl]
      unfold speakP speak
      cases z : getA st.asked n with
      | none => rfl
      | some rk => rw [z] at hn; cases hn
    · rw [if_pos rfl] at hb
      exact w_ret (R := fa.rg) (x_tu (K := K) (P := fun d => d = speakP st n here) (ds_cons (x_s (A := fun s => s = "question") rfl) (ds_cons (x_vs (A := fun s => s = n) (i := 1) rfl rfl) ds_nil)) fun ds al => by
        obtain ⟨a, b, rfl, ⟨_, rfl, rfl⟩, ⟨_, rfl, rfl⟩⟩ := al2 al
        exact hb.symm) g1.inv fun v H2 g2 ⟨d, hd, dp⟩ => q v H2 (still_same (g1.trans g2)) (by rw [← hd]; exact dp)
    · rw [if_neg (by decide)] at hb
      exact s_ret ev_c fun H2 e2 => q _ H2 (Same.trans (still_same g1) e2) (by rw [hb]; exact .non)
end SF
namespace SF
open PySem PySem.Spec PyProof.Rows L2 GK Evl LamX
variable {P : Program} {w : World} {K : PySem.W.Frag} {mg : Str → Option Value} {base : Heap}
/-! ### _law_conditions_amiss -/
def oF : Option Fault → PyData
  | none => .none
  | some f => f.py
def sayR (d : PyData) (s : Say) : Prop := ∃ x, d = .tuple [.str s.1, .str s.2.1, x] ∧ ((∃ o, s.2.2 = some o ∧ x = .str o ∧ (s.2.1 = "one" ∨ s.2.1 = "some")) ∨ (s.2.2 = none ∧ s.2.1 = "number"))
theorem pd_app' {α β : Type} {R : α → β → Prop} : ∀ {a c : List α} {b d : List β}, Paired R a b → Paired R c d → Paired R (a ++ c) (b ++ d)
  | _, _, _, _, .nil, h => h
  | _, _, _, _, .cons x t, h => .cons x (pd_app' t h)
theorem says_rel : ∀ c : Cnd, Paired sayR (saysP c) (says c) := fun c => by
  induction c with
  | is n o => exact .cons ⟨_, rfl, .inl ⟨o, rfl, rfl, .inl rfl⟩⟩ .nil
  | has n o => exact .cons ⟨_, rfl, .inl ⟨o, rfl, rfl, .inr rfl⟩⟩ .nil
  | abv n k => exact .cons ⟨_, rfl, .inr ⟨rfl, rfl⟩⟩ .nil
  | blw n k => exact .cons ⟨_, rfl, .inr ⟨rfl, rfl⟩⟩ .nil
  | not c ih => exact ih
  | both a b ia ib => exact pd_app' ia ib
  | either a b ia ib => exact pd_app' ia ib
theorem pd_at {α β : Type} {R : α → β → Prop} : ∀ {a : List α} {b : List β} {i : Nat} {x : α}, Paired R a b → a[i]? = some x → ∃ y, b[i]? = some y ∧ R x y
  | _, _, _, _, .nil, h => by simp at h
  | _, _, 0, _, .cons r t, h => by simp at h; subst h; exact ⟨_, rfl, r⟩
  | _, _, i + 1, _, .cons r t, h => by simpa using pd_at (i := i) t (by simpa using h)
def saysOf : Option Cnd → List Say
  | none => []
  | some c => says c
theorem saysO_rel : ∀ c : Option Cnd, Paired sayR (saysO c) (saysOf c)
  | none => .nil
  | some c => says_rel c
def ocFault (st : Stt) (here : Nat) (c : Option Cnd) : Option Fault := (saysOf c).findSome? (sayFault st here)
def condsFault (st : Stt) (here : Nat) (cs : List (Option Cnd)) : Option Fault := cs.findSome? (ocFault st here)
theorem fs_take {α β : Type} {f : α → Option β} {xs : List α} {i : Nat} {x : α} (h : (xs.take i).findSome? f = none) (hx : xs[i]? = some x) : (xs.take (i + 1)).findSome? f = f x := by
  rw [List.take_succ, hx, List.findSome?_append, h]
  simp
theorem fs_some {α β : Type} {f : α → Option β} {xs : List α} {i : Nat} {x : α} {y : β} (h : (xs.take i).findSome? f = none) (hx : xs[i]? = some x) (hf : f x = some y) : xs.findSome? f = some y := by
  have h1 := fs_take h hx
  rw [hf] at h1
  rw [← List.take_append_drop (i + 1) xs, List.findSome?_append, h1]
  rfl
def sp__law_conditions_amiss (T : Txt K mg) : Sp := fun vs H Q _ => ∃ (S : List Addr) (F nl kd : Addr) (st : Stt) (kvs : List (Key × V)) (cs : List (Option Cnd)) (v : V) (here : Nat), vs = [.ref F, v, .int (here : Int)] ∧ FAt K S H F nl kd st kvs ∧ Dp K (offS S H) v (.list (cs.map ocP)) ∧ (∀ c ∈ cs, ocOk c) ∧ ∀ v H', Same H H' → Dp K (offS S H') v (oF (condsFault st here cs)) → Q v H'
theorem kd_kind (r : Rw) : r.kd = r.kind := by cases r <;> rfl
theorem ok__law_conditions_amiss (T : Txt K mg) : FnOk P w K mg base CX0 6 T.a__law_conditions_amiss T.d__law_conditions_amiss ["_law_f", "_law_conds", "_law_here"] (sp__law_conditions_amiss T) := by
  have G__law_spoken : FnOk P w K mg base CX0 5 T.a__law_spoken T.d__law_spoken ["_law_cond"] (sp__law_spoken T 4) := ok__law_spoken T 4
  have G__law_heard : FnOk P w K mg base CX0 1 T.a__law_heard T.d__law_heard ["_law_f", "_law_name", "_law_here"] (sp__law_heard T) := ok__law_heard T
  refine T.F__law_conditions_amiss.ok sc__law_conditions_amiss (fun vs H Q E h => ?_) (fun cdv A outer s H vs Q E hr h => ?_)
  · obtain ⟨S, F, nl, kd, st, kvs, cs, v, here, rfl, _⟩ := h
    rfl
  · obtain ⟨S, F, nl, kd, st, kvs, cs, v0, here, rfl, fa, hv0, hcs, q⟩ := h
    refine ⟨(tSeq (tFor (iList K (tVar 1)) (gName 3)
  (tFor (iList K (tCall (sp__law_spoken T 4) [] E0 (tCons (tVar 3) tNil))) (gTup K 3 (gCons (gName 4) (gCons (gName 5) (gCons (gName 6) gNil))))
  (tSeq (tAsg (tCall (sp__law_heard T) [] E0 (tCons (tVar 0) (tCons (tVar 4) (tCons (tVar 2) tNil)))) (gName 7))
  (tSeq (tIfS (tTest (tOp rNotN (tVar 7) (tC .non))) (tRet (tVar 7)) tNext)
  (tSeq (tAsg (tOp (rIxT K) (tDGet (tDGet (tVar 0) (tC (.str "known"))) (tVar 4)) (tC (.int 0))) (gName 8))
  (tIfS (tOr (tTest (tOp rNe (tOp (rIxT K) (tVar 8) (tC (.int 0))) (tVar 5))) (tAnd (tTest (tOp rNe (tVar 5) (tC (.str "number")))) (tTest (tOp (rIn K true) (tVar 6) (tOp (rIxT K) (tVar 8) (tC (.int 2))))))) (tRet (tTup (tCons (tC (.str "fit")) (tCons (tVar 4) tNil)))) tNext))))))
  (tRet (tC .non))),
(pss_cons (ps_for PassesOwn.never rfl (pi_list (pv 1)) (pg_name (i := 3) sc__law_conditions_amiss.nd rfl (.inl rfl))
  (pss_one (ps_for PassesOwn.never rfl (pi_list (pe_call (G__law_spoken.mono (by omega)) hr (by rfl) T.g__law_spoken T.F__law_spoken.kp T.b__law_spoken .nil pass0 (pa_cons (pv 3) pa_nil))) (pg_tup rfl (pgs_cons (pg_name (i := 4) sc__law_conditions_amiss.nd rfl (.inl rfl)) (pgs_cons (pg_name (i := 5) sc__law_conditions_amiss.nd rfl (.inl rfl)) (pgs_cons (pg_name (i := 6) sc__law_conditions_amiss.nd rfl (.inl rfl)) pgs_nil))))
  (pss_cons (ps_set (i := 7) sc__law_conditions_amiss.nd rfl (.inl rfl) (pe_call (G__law_heard.mono (by omega)) hr (by rfl) T.g__law_heard T.F__law_heard.kp T.b__law_heard .nil pass0 (pa_cons (pv 0) (pa_cons (pv 4) (pa_cons (pv 2) pa_nil)))))
  (pss_cons (ps_if (pt_cmpR op_notN1 (pv 7) pe_non (nomark _)) (pss_one (ps_ret (pv 7))) pss_nil)
  (pss_cons (ps_set (i := 8) sc__law_conditions_amiss.nd rfl (.inl rfl) (pe_ix ix_tup (pe_dget (hu_of hr) (pe_dget (hu_of hr) (pv 0) pe_str (fun _ _ => rfl)) (pv 4) (fun _ _ => rfl)) pe_int (fun _ _ => rfl)))
  (pss_one (ps_if (PW.pt (pw_or (pt_cmpR op_ne (pe_ix ix_tup (pv 8) pe_int (fun _ _ => rfl)) (pv 5) (nomark _)) (pw_or1 (PW.pt (pw_and (pt_cmpR op_ne (pv 5) pe_str (nomark _)) (pw_and1 (pt_cmpR op_notIn_seq (pv 6) (pe_ix ix_tup (pv 8) pe_int (fun _ _ => rfl)) (by rfl)))))))) (pss_one (ps_ret (pe_tup (pa_cons pe_str (pa_cons (pv 4) pa_nil))))) pss_nil))))))))
  (pss_one (ps_ret pe_non))), ?_⟩
    have I0 : fa.rg.I H := still_refl
    refine w_forL (K := K) (R := fa.rg) (A := fun d => d = .list (cs.map ocP)) (L := fun ds => ds = cs.map ocP) (x_d (i := 1) rfl hv0 rfl) I0 (fun d hd => ⟨_, hd, rfl⟩) (fun H1 ds i σ' H' => Go fa.rg H H' ∧ Go fa.rg H1 H' ∧ (cs.take i).findSome? (ocFault st here) = none ∧ ∃ (y3 y4 y5 y6 y7 y8 : Option V), σ' = [some (.ref F), some v0, some (.int (here : Int)), y3, y4, y5, y6, y7, y8]) (fun H1 ds hL g1 => ⟨g1, Go.refl g1.inv, rfl, _, _, _, _, _, _, rfl⟩) (fun H1 ds i σ' H' p => p.2.1.same) (fun H1 ds hL g1 i d x σ' H' hdi hdx p => ?_) (fun H1 ds hL g1 σ' H' p => ?_)
    · obtain ⟨g0, g1', hnone, y3, y4, y5, y6, y7, y8, rfl⟩ := p
      subst hL
      rw [List.getElem?_map] at hdi
      obtain ⟨c, hc, rfl⟩ := Option.map_eq_some_iff.mp hdi
      have hcok := hcs c (List.mem_of_getElem? hc)
      refine w_forL1 (K := K) (R := fa.rg) (A := fun d => d = .list (saysO c)) (L := fun ds => ds = saysO c) (x_pureI (K := K) (Pre := spokenPre 4 c) (Post := fun _ d => d = .list (saysO c)) (Ps := [fun d => d = ocP c]) (fun vs H Q E h => ⟨c, h⟩) (ds_cons (x_d (i := 3) rfl hdx rfl) ds_nil) (fun ds al => by
        cases al with
        | cons h1 t => cases t; exact ⟨by rw [h1], fun c' z => by subst z; exact hcok.2, by decide⟩) (fun _ d _ h => h)) g0.inv (fun d hd => ⟨_, hd, rfl⟩) (fun H2 ds k σ' H'' => Go fa.rg H H'' ∧ Go fa.rg H2 H'' ∧ ((saysOf c).take k).findSome? (sayFault st here) = none ∧ ∃ (y4 y5 y6 y7 y8 : Option V), σ' = [some (.ref F), some v0, some (.int (here : Int)), some x, y4, y5, y6, y7, y8]) (fun H2 ds hL g2 => ⟨g0.trans g2, Go.refl g2.inv, rfl, _, _, _, _, _, rfl⟩) (fun H2 ds k σ' H'' p => p.2.1.same) (fun H2 ds hL g2 k d xx σ' H'' hdk hxx p => ?_) (fun H2 ds hL g2 σ' H'' p => ?_)
      · obtain ⟨g0', g2', hnk, y4, y5, y6, y7, y8, rfl⟩ := p
        subst hL
        obtain ⟨sy, hsy, ox, rfl, hox⟩ := pd_at (saysO_rel c) hdk
        obtain ⟨t, a1, a2, a3, rfl, ht, h1, h2, h3⟩ := dp_t3 hxx
        cases h1
        cases h2
        refine g_tup3 (st_mono (offS_same _ _) ht) ?_
        -- a fault is told
        have bad : ∀ {f : Fault} {v : V} {H3 : Hp}, Go fa.rg H H3 → sayFault st here sy = some f → Dp K (offS S H3) v f.py → Q v H3 := fun {f v H3} g hf dp => by
          have e1 : ocFault st here c = some f := fs_some hnk hsy hf
          have e2 : condsFault st here cs = some f := fs_some hnone hc e1
          exact q v H3 (still_same g) (by rw [e2]; exact dp)
        refine w_asg (R := fa.rg) (D := Dt K (fun d => d = speakP st sy.1 here)) (fun H3 g3 Q' q' => ⟨.ref F, rfl, .str sy.1, rfl, .int (here : Int), rfl, S, F, nl, kd, st, kvs, sy.1, here, rfl, fa.go (g0'.trans g3), fun v H4 e4 dp => q' v H4 (Go.of g3.inv e4) ⟨_, rfl, dp⟩⟩) g0'.inv fun fv H3 g3 ⟨fd, hfd, fdp⟩ => ?_
        subst hfd
        have g03 := g0'.trans g3
        refine w_when (R := fa.rg) (B := fun b => b = !isNon (speakP st sy.1 here)) (xt_test (x_notN (K := K) (A := fun d => d = speakP st sy.1 here) (x_d (i := 7) rfl fdp rfl) fun d hd => by rw [hd])) g3.inv (fun H4 g4 hb => ?_) (fun H4 g4 hb => ?_)
        · refine s_ret (ev_var rfl) fun H5 e5 => ?_
          cases hs : speak st sy.1 here with
          | ok r => unfold speakP at hb; rw [hs] at hb; cases hb
          | error f =>
            have h5 := dp_up (g4.trans (Go.of g4.inv e5)).same fdp
            unfold speakP at h5
            rw [hs] at h5
            exact bad ((g03.trans g4).trans (Go.of g4.inv e5)) (by unfold sayFault; rw [hs]) h5
        cases hs : speak st sy.1 here with
        | error f =>
          unfold speakP at hb
          rw [hs] at hb
          cases f <;> cases hb
        | ok r =>
        have hget : ∃ k, getA st.asked sy.1 = some (r, k) := by
          unfold speak at hs
          cases z : getA st.asked sy.1 with
          | none => rw [z] at hs; cases hs
          | some rk =>
            obtain ⟨r', k'⟩ := rk
            rw [z] at hs
            simp only at hs
            split at hs
            · cases hs; exact ⟨k', rfl⟩
            · cases hs
        obtain ⟨kk, hget⟩ := hget
        have g04 := g03.trans g4
        refine w_asg (R := fa.rg) (D := Dt K (fun d => d = r.py)) (x_ixT (A := fun d => d = .tuple [r.py, .int (kk : Int)]) (N := fun i => i = 0) (fa.x_known g04 (i := 0) rfl (j := 4) rfl hget) (x_i rfl) fun d i hd hi => by subst hi; exact ⟨_, _, hd, atI_nat (j := 0) rfl, rfl⟩) g4.inv fun rv H5 g5 ⟨rd, hrd, rdp⟩ => ?_
        subst hrd
        have rdt := rdp
        rw [Rw.py_tl] at rdt
        have g25 := (g3.trans g4).trans g5
        have h35 := dp_up g25.same h3
        refine w_when1 (R := fa.rg) (B := fun b => b = !sayFits r sy) (xt_or (A := fun b => b = !decide (r.kd = sy.2.1)) (B := fun b => b = !sayFits r sy) (xt_test (x_neS (K := K) (A := fun s => s = r.kd) (B := fun s => s = sy.2.1) (x_at (j := 8) (n := 0) rfl rdt rfl ⟨_, rfl, rfl⟩) (x_vs (i := 5) rfl rfl) fun a b ha hb => by rw [ha, hb])) (fun hk => ?_) (fun hk => ?_) (fun b _ hb => hb)) g5.inv (fun H6 g6 hb => ?_) (fun H6 g6 hb => ?_)
        · have hkk : r.kd = sy.2.1 := by
            by_cases z : r.kd = sy.2.1
            · exact z
            · rw [decide_eq_false z] at hk; cases hk
          have hkind : decide (r.kind = sy.2.1) = true := by rw [← kd_kind]; exact decide_eq_true hkk
          rcases hox with ⟨o, ho1, ho2, ho3⟩ | ⟨hn1, hn2⟩
          · have hos : ∃ (n : Str) (os : List Str) (c : PyData), r.tl = [.str n, .list (os.map .str), c] ∧ r.opts = os := by
              cases r with
              | one n os c => exact ⟨n, os, _, rfl, rfl⟩
              | som n os c => exact ⟨n, os, _, rfl, rfl⟩
              | number n lo hi c => rw [← hkk] at ho3; exact absurd ho3 (by simp only [Rw.kd]; decide)
              | check n m c => rw [← hkk] at ho3; exact absurd ho3 (by simp only [Rw.kd]; decide)
              | sec rows c => rw [← hkk] at ho3; exact absurd ho3 (by simp only [Rw.kd]; decide)
              | rnd n rows c => rw [← hkk] at ho3; exact absurd ho3 (by simp only [Rw.kd]; decide)
            obtain ⟨n, os, oc, htl, hop⟩ := hos
            rw [htl] at rdt
            subst ho2
            have nnum : sy.2.1 ≠ "number" := by rcases ho3 with z | z <;> rw [z] <;> decide
            refine xt_and (A := fun b => b = true) (B := fun b => b = !sayFits r sy) (xt_test (x_neS (K := K) (A := fun s => s = sy.2.1) (B := fun s => s = "number") (x_vs (i := 5) rfl rfl) (x_s rfl) fun a b ha hb => by rw [ha, hb, decide_eq_false nnum]; rfl)) (fun _ => ?_) (fun z => by cases z) (fun b _ hb => hb)
            refine xt_test (x_in (K := K) (neg := true) (A := fun d => d = .str o) (B := fun d => d = .list (os.map .str)) (x_d (i := 6) rfl h35 rfl) (x_at (j := 8) (n := 2) rfl rdt rfl rfl) fun d e hd he => ?_)
            subst hd he
            refine ⟨_, .inl rfl, rfl, flat_strs, ?_⟩
            rw [if_pos rfl, any_str]
            unfold sayFits
            rw [hkind, ho1, hop]
            rfl
          · refine xt_and (A := fun b => b = false) (B := fun _ => True) (xt_test (x_neS (K := K) (A := fun s => s = sy.2.1) (B := fun s => s = "number") (x_vs (i := 5) rfl rfl) (x_s rfl) fun a b ha hb => by rw [ha, hb, hn2]; decide)) (fun z => by cases z) (fun _ => ?_) (fun b z => by cases z)
            unfold sayFits
            rw [hkind, hn1]
            rfl
        · unfold sayFits
          have : decide (r.kind = sy.2.1) = false := by
            rw [← kd_kind]
            cases z : decide (r.kd = sy.2.1) with
            | false => rfl
            | true => rw [z] at hk; cases hk
          rw [this]
          rfl
        · have hf : sayFault st here sy = some (.fit sy.1) := by
            unfold sayFault
            rw [hs]
            cases z : sayFits r sy with
            | true => rw [z] at hb; cases hb
            | false => simp [z]
          exact w_ret (R := fa.rg) (x_tu (K := K) (P := fun d => d = (Fault.fit sy.1).py) (ds_cons (x_s (A := fun s => s = "fit") rfl) (ds_cons (x_vs (A := fun s => s = sy.1) (i := 4) rfl rfl) ds_nil)) fun ds al => by
            obtain ⟨a, b, rfl, ⟨_, rfl, rfl⟩, ⟨_, rfl, rfl⟩⟩ := al2 al
            rfl) g6.inv fun v H7 g7 ⟨d, hd, dp⟩ => bad (((g04.trans g5).trans g6).trans g7) hf (by rw [← hd]; exact dp)
        · have hf : sayFault st here sy = none := by
            unfold sayFault
            rw [hs]
            cases z : sayFits r sy with
            | true => simp [z]
            | false => rw [z] at hb; cases hb
          exact ⟨(g04.trans g5).trans g6, (g2'.trans g25).trans g6, by rw [fs_take hnk hsy]; exact hf, _, _, _, _, _, rfl⟩
      · obtain ⟨g0', g2', hnk, y4, y5, y6, y7, y8, rfl⟩ := p
        subst hL
        have hl : (saysO c).length = (saysOf c).length := pd_len (saysO_rel c)
        rw [hl, List.take_length] at hnk
        exact ⟨g0', (g1'.trans g2).trans g2', by rw [fs_take hnone hc]; exact hnk, _, _, _, _, _, _, rfl⟩
    · obtain ⟨g0, g1', hnone, y3, y4, y5, y6, y7, y8, rfl⟩ := p
      subst hL
      rw [List.length_map, List.take_length] at hnone
      exact s_ret ev_c fun H2 e2 => q _ H2 (Same.trans (still_same g0) e2) (by rw [show condsFault st here cs = none from hnone]; exact .non)
end SF
namespace SF
open PySem PySem.Spec PyProof.Rows L2 GK Evl LamX
variable {P : Program} {w : World} {K : PySem.W.Frag} {mg : Str → Option Value} {base : Heap}
/-! ### options: the first fault, from lists of faults -/
def dupsOf (seen : List Str) : List Str → List Str
  | [] => []
  | s :: r => if s ∈ seen then s :: dupsOf (seen ++ [s]) r else dupsOf (seen ++ [s]) r
theorem dupsOf_head : ∀ (xs seen : List Str), (dupsOf seen xs).head? = firstDup seen xs
  | [], _ => rfl
  | s :: r, seen => by
    unfold dupsOf firstDup
    by_cases h : s ∈ seen
    · rw [if_pos h, if_pos h]; rfl
    · rw [if_neg h, if_neg h]; exact dupsOf_head r (seen ++ [s])
theorem dupsOf_app : ∀ (xs seen : List Str) (s : Str), dupsOf seen (xs ++ [s]) = dupsOf seen xs ++ (if s ∈ seen ++ xs then [s] else [])
  | [], seen, s => by simp [dupsOf]
  | x :: xs, seen, s => by
    have ih := dupsOf_app xs (seen ++ [x]) s
    have e : seen ++ [x] ++ xs = seen ++ x :: xs := by simp
    rw [e] at ih
    show dupsOf seen (x :: (xs ++ [s])) = _
    unfold dupsOf
    by_cases h : x ∈ seen
    · rw [if_pos h, if_pos h, ih]; rfl
    · rw [if_neg h, if_neg h, ih]
/-- the data that the law gathers: bad names, then names twice, then None -/
def badsP (os : List Str) : List PyData := (os.filter fun s => !isName s).map fun s => .tuple [.str "name", .str s]
def dupsP (os : List Str) : List PyData := (dupsOf [] os).map fun s => .tuple [.str "twice", .str s]
theorem opt_tail (os : List Str) : (badsP os ++ dupsP os ++ [PyData.none])[0]? = some (oF (optTail os)) := by
  have hb : firstBad os = (os.filter fun s => !isName s).head? := by
    unfold firstBad
    rw [List.head?_filter]
  have hd := dupsOf_head os []
  unfold optTail badsP dupsP
  rw [hb]
  cases h1 : os.filter (fun s => !isName s) with
  | cons s r => rfl
  | nil =>
    rw [← hd]
    cases h2 : dupsOf [] os with
    | nil => rfl
    | cons s r => rfl
theorem condsF_eq (st : Stt) (here : Nat) (r : Rw) : r.conds.findSome? (condFault st here) = condsFault st here (r.wh :: (match r with | .check _ m _ => [some m] | _ => [])) := by
  unfold condsFault Rw.conds ocFault
  cases r <;> rename_i c <;> cases c <;> simp [Rw.wh, saysOf, condFault, List.findSome?_cons, List.findSome?_append]
/-- a comprehension over enumerate(..) -/
theorem x_lcE {R : Rg} {σ : L2.St} {H : Hp} {tl te : TE} {tt : TT} {ds : List PyData} {vs : List Nat} {j0 j1 : Nat} {f : Nat → PyData → Bool} {E : PyData → PyData} {G : Nat → List PyData} (src : EvX R tl σ H (Dt K (fun d => d = .list ds))) (hz : ds.length ≤ 90000)
    (hw : ∀ x y, wipe (((wipe σ vs).set j0 (some x)).set j1 (some y)) vs = wipe σ vs)
    (ht : ∀ (p : Addr) (acc : List V) (H1 : Hp), p ∉ R.S → (R.plus p (.lst acc)).I H1 → Same (R.off H) ((R.plus p (.lst acc)).off H1) → ∀ (i : Nat) d x, ds[i]? = some d → Dp K ((R.plus p (.lst acc)).off H1) x d → EvXT (R.plus p (.lst acc)) tt (((wipe σ vs).set j0 (some (.int (i : Int)))).set j1 (some x)) H1 (fun b => b = f i d))
    (he : ∀ (p : Addr) (acc : List V) (H1 : Hp), p ∉ R.S → (R.plus p (.lst acc)).I H1 → Same (R.off H) ((R.plus p (.lst acc)).off H1) → ∀ (i : Nat) d x, ds[i]? = some d → f i d = true → Dp K ((R.plus p (.lst acc)).off H1) x d → EvX (R.plus p (.lst acc)) te (((wipe σ vs).set j0 (some (.int (i : Int)))).set j1 (some x)) H1 (Dt K (fun e => e = E d)))
    (G0 : G 0 = []) (Gs : ∀ i d, ds[i]? = some d → G (i + 1) = G i ++ (if f i d then [E d] else [])) : EvX R (tLc (iEnum K (tCons tl tNil)) (gTup K 2 (gCons (gName j0) (gCons (gName j1) gNil))) tt te vs) σ H (Dt K (fun e => e = .list (G ds.length))) := fun H1 g Q q =>
  src H1 g _ fun v H2 g2 ⟨d, hd, dp⟩ => by
    subst hd
    obtain ⟨a, xs, rfl, hs, hds⟩ := dp_lst dp
    refine ⟨a, xs, rfl, sq_mono (offS_same _ _) hs, fun Dl hD => ?_⟩
    have nS : Dl ∉ R.S := R.fresh g2.inv hD
    have hl : xs.length = ds.length := dpAll_len hds
    let Pv : Nat → Hp → Prop := fun i H' => ∃ ys, ys.length ≤ i ∧ (R.plus Dl (.lst ys)).I H' ∧ Same (R.off H2) ((R.plus Dl (.lst ys)).off H') ∧ DpAll K ((R.plus Dl (.lst ys)).off H') ys (G i)
    refine lc_it (walk_enum (K := K) (a := a) (xs := xs)) Pv ⟨[], Nat.le_refl _, plus_new hD g2.inv, plus_same hD (same_new hD), by rw [G0]; exact .nil⟩ (fun i H' _ ⟨ys, h0, h1, h2, h3⟩ => sq_mono (h2.trans (offS_same _ _)) hs) (fun i x H' H'' hi p y => ?_) (fun H' p => ?_)
    · obtain ⟨T, x0, x1, rfl, hT, rfl, e0, e1⟩ := y
      obtain ⟨ys, h0, h1, h2, h3⟩ := p
      cases e0
      obtain ⟨d, hdi, hdx⟩ := dpAll_getV (dpAll_up h2 hds) e1
      have gT : Go (R.plus Dl (.lst ys)) H' (upd H' T (.tup [.int ((i : Nat) : Int), x1])) := Go.new h1 hT
      have s0 : Same (R.off H) ((R.plus Dl (.lst ys)).off (upd H' T (.tup [.int ((i : Nat) : Int), x1]))) := ((g.trans g2).same).trans (h2.trans gT.same)
      have hdx := dp_up gT.same hdx
      refine g_tup2 (SqT.of upd_same) ⟨hw _ _, ht Dl ys _ nS gT.inv s0 i d x1 hdi hdx _ (Go.refl gT.inv) _ fun b H3 g3 hb => ?_⟩
      subst hb
      have hG := Gs i d hdi
      cases hf : f i d with
      | false =>
        rw [if_neg (by decide)]
        rw [hf] at hG
        refine ⟨ys, by omega, g3.inv, h2.trans (gT.same.trans g3.same), ?_⟩
        rw [hG, if_neg (by decide), List.append_nil]
        exact dpAll_up (gT.same.trans g3.same) h3
      | true =>
        rw [if_pos rfl]
        rw [hf] at hG
        refine he Dl ys _ nS gT.inv s0 i d x1 hdi hf hdx H3 g3 _ fun y H4 g4 ⟨e, hE, hey⟩ => ⟨ys, g4.inv.2, ?_, ys ++ [y], by rw [List.length_append]; simp; omega, plus_set nS g4.inv, ?_, ?_⟩
        · exact Nat.lt_of_le_of_lt (by omega : ys.length ≤ 90000) (by decide)
        · show Same _ (offS (Dl :: R.S) (upd H4 Dl _))
          rw [offS_upd List.mem_cons_self]
          exact h2.trans (gT.same.trans (g3.same.trans g4.same))
        · show DpAll K (offS (Dl :: R.S) (upd H4 Dl _)) _ _
          rw [offS_upd List.mem_cons_self, hG, if_pos rfl]
          subst hE
          exact dpAll_append (dpAll_up (gT.same.trans (g3.same.trans g4.same)) h3) (.cons hey .nil)
    · obtain ⟨ys, h0, h1, h2, h3⟩ := p
      rw [hl] at h3
      exact q _ H' ⟨(g2.same.trans h2).trans plus_sub, h1.1⟩ ⟨_, rfl, .lst (SqL.of (offS_some.mpr ⟨nS, h1.2⟩)) (dpAll_up plus_sub h3)⟩
end SF
namespace SF
open PySem PySem.Spec PyProof.Rows L2 GK Evl LamX
variable {P : Program} {w : World} {K : PySem.W.Frag} {mg : Str → Option Value} {base : Heap}
section
variable {S : List Addr} {H H1 : Hp} {F nl kd : Addr} {st : Stt} {kvs : List (Key × V)} {σ : L2.St} {i j : Nat} {n : Str} {te : TE}
theorem FAt.x_knownE (h : FAt K S H F nl kd st kvs) (g1 : Go h.rg H H1) (hi : σ[i]? = some (some (.ref F))) (he : EvX h.rg te σ H1 (Dt K (isS fun s => s = n))) {r : Rw} {k : Nat} (hg : getA st.asked n = some (r, k)) : EvX h.rg (tDGet (tDGet (tVar i) (tC (.str "known"))) te) σ H1 (Dt K (fun d => d = .tuple [r.py, .int (k : Int)])) := fun H2 g2 Q q => by
  have h2 := h.go (g1.trans g2)
  refine h2.known hi (he H2 g2 _ fun nv H3 g3 hnv => ?_)
  obtain ⟨s, rfl, hs⟩ := dp_str_of hnv
  subst hs
  have h3 := h.go ((g1.trans g2).trans g3)
  rcases askd_get (n := s) h3.pr with ⟨z, _⟩ | ⟨r', k', v, z1, z2, z3⟩
  · rw [z] at hg; cases hg
  · rw [z1] at hg
    cases hg
    refine ⟨kd, v, rfl, ?_, q v H3 g3 ⟨_, rfl, z3⟩⟩
    rw [← z2]
    exact DGet.k (k := (Sum.inr s : Key)) h3.atk
theorem inV_strs {s : Str} : ∀ {ss : List Str}, inV (.str s) (ss.map V.str) = decide (s ∈ ss)
  | [] => rfl
  | t :: ss => by
    show (eqV (.str t) (.str s) || inV (.str s) (ss.map V.str)) = _
    rw [inV_strs]
    by_cases h : t = s
    · subst h; simp [eqV]
    · have h2 : ¬ s = t := fun z => h z.symm
      have e : eqV (.str t) (.str s) = false := by simp [eqV, h]
      rw [e]
      by_cases h3 : s ∈ ss <;> simp [h2, h3]
theorem flatV_strs : ∀ {ss : List Str}, (ss.map V.str).all flatV = true
  | [] => rfl
  | _ :: ss => by rw [List.map_cons, List.all_cons, flatV_strs]; rfl
/-- name in f['names'] -/
theorem FAt.xt_named (h : FAt K S H F nl kd st kvs) (g1 : Go h.rg H H1) (hi : σ[i]? = some (some (.ref F))) (he : EvX h.rg te σ H1 (Dt K (isS fun s => s = n))) : EvXT h.rg (tTest (tOp (rIn K false) te (tDGet (tVar i) (tC (.str "names"))))) σ H1 (fun b => b = decide (n ∈ st.named)) := fun H2 g2 Q q => by
  refine he H2 g2 _ fun nv H3 g3 hnv => ?_
  obtain ⟨s, rfl, hs⟩ := dp_str_of hnv
  subst hs
  have h3 := h.go ((g1.trans g2).trans g3)
  refine ⟨.ref F, hi, F, .ref nl, rfl, ?_, nl, _, rfl, .inl (SqL.of h3.atn), rfl, flatV_strs, _, rfl, q _ H3 g3 ?_⟩
  · have z := DGet.k (k := (Sum.inr ("names" : Str) : Key)) h3.atF
    rw [valV_pos rfl] at z
    exact z
  · exact inV_strs
end
end SF
namespace SF
open PySem PySem.Spec PyProof.Rows L2 GK Evl LamX
variable {P : Program} {w : World} {K : PySem.W.Frag} {mg : Str → Option Value} {base : Heap}
section
variable {R : Rg} {σ : L2.St} {H : Hp} {ta tb tc te : TE}
theorem x_chain {p q : Int → Int → Bool} {a b c : Int} (ha : EvX R ta σ H (Dt K (isI fun i => i = a))) (hb : EvX R tb σ H (Dt K (isI fun i => i = b))) (hc : EvX R tc σ H (Dt K (isI fun i => i = c))) : EvX R (tChain (rI0 fun i j => .bl (p i j)) (rI0 fun i j => .bl (q i j)) ta tb tc) σ H (Dt K (isB fun x => x = (p a b && q b c))) := fun H1 g Q k =>
  ha H1 g _ fun x H2 g2 hx => hb H2 (g.trans g2) _ fun y H3 g3 hy => by
    obtain ⟨i, rfl, hi⟩ := dp_int_of hx
    obtain ⟨j, rfl, hj⟩ := dp_int_of hy
    subst hi hj
    refine ⟨i, j, rfl, rfl, _, rfl, ?_⟩
    cases hp : p i j with
    | false => exact iteF (k _ H3 (g2.trans g3) ⟨_, ⟨_, rfl, by show false = (p i j && q j c); rw [hp]; rfl⟩, .bl _⟩)
    | true => exact iteT (hc H3 ((g.trans g2).trans g3) _ fun z H4 g4 hz => by
        obtain ⟨l, rfl, hl⟩ := dp_int_of hz
        subst hl
        exact ⟨j, l, rfl, rfl, k _ H4 ((g2.trans g3).trans g4) ⟨_, ⟨_, rfl, by show q j l = (p i j && q j l); rw [hp]; rfl⟩, .bl _⟩⟩)
/-- is_name(text), as a test -/
theorem xt_isName (T : Txt K mg) {s : Str} (hs : s.length ≤ 1000) (he : EvX R te σ H (Dt K (isS fun t => t = s))) : EvXT R (tNot (tB (tCall (sp__law_is_name T) [] E0 (tCons te tNil)))) σ H (fun b => b = !isName s) := fun H1 g Q q => he H1 g _ fun v H2 g2 hv => by
  obtain ⟨t, rfl, ht⟩ := dp_str_of hv
  subst ht
  exact ⟨t, rfl, hs, fun H' e => ⟨_, rfl, q _ H' (g2.trans (Go.of g2.inv e)) rfl⟩⟩
theorem filter_strs (f : Str → Bool) : ∀ os : List Str, (os.map PyData.str).filter (fun d => match d with | .str s => f s | _ => false) = (os.filter f).map PyData.str
  | [] => rfl
  | s :: os => by
    rw [List.map_cons, List.filter_cons, List.filter_cons, filter_strs f os]
    show (if f s = true then _ else _) = _
    cases f s <;> rfl
theorem pd_strs {E : Str → PyData} : ∀ {os : List Str} {es : List PyData}, Paired (fun (e d : PyData) => ∀ s, d = PyData.str s → e = E s) es (os.map PyData.str) → es = os.map E
  | [], _, h => by cases h; rfl
  | s :: os, _, h => by
    cases h with
    | cons r t => rw [pd_strs t, r s rfl]; rfl
/-- the options that are no names -/
theorem x_bads (T : Txt K mg) {os : List Str} (hl : os.length ≤ 1000) (hs : ∀ s ∈ os, sOk s) (hlen : σ.length = 9) (he : EvX R te σ H (Dt K (fun d => d = .list (os.map .str)))) : EvX R (tLc (iList K te) (gName 7) (tNot (tB (tCall (sp__law_is_name T) [] E0 (tCons (tVar 7) tNil)))) (tTup (tCons (tC (.str "name")) (tCons (tVar 7) tNil))) [7]) σ H (Dt K (fun d => d = .list (badsP os))) := by
  have at7 : ∀ x, ((wipe σ [7]).set 7 (some x))[7]? = some (some x) := fun x => by
    rw [List.getElem?_set_self]
    rw [wipe_length, hlen]
    decide
  have hw : ∀ x, wipe ((wipe σ [7]).set 7 (some x)) [7] = wipe σ [7] := fun x => by
    show ((σ.set 7 none).set 7 (some x)).set 7 none = σ.set 7 none
    rw [List.set_set, List.set_set]
  refine x_lc (A := fun d => d = .list (os.map .str)) (L := fun ds => ds = os.map .str) (f := fun d => match d with | .str s => !isName s | _ => false) (E := fun d e => ∀ s, d = .str s → e = .tuple [.str "name", .str s]) he (fun d hd => ⟨_, hd, by rw [List.length_map]; omega, rfl⟩) hw (fun p acc H1 np hI sm ds i d x hL hi hx => ?_) (fun p acc H1 np hI sm ds i d x hL hi hf hx => ?_) (fun ds es hL pd => ?_)
  · subst hL
    rw [List.getElem?_map] at hi
    obtain ⟨s, hs', rfl⟩ := Option.map_eq_some_iff.mp hi
    cases hx
    exact xt_isName T (hs s (List.mem_of_getElem? hs')).1 (x_vs (at7 _) rfl)
  · subst hL
    rw [List.getElem?_map] at hi
    obtain ⟨s, hs', rfl⟩ := Option.map_eq_some_iff.mp hi
    cases hx
    exact x_tu (ds_cons (x_s (A := fun t => t = "name") rfl) (ds_cons (x_vs (A := fun t => t = s) (at7 _) rfl) ds_nil)) fun ds al s2 z => by
      obtain ⟨a, b, rfl, ⟨_, rfl, rfl⟩, ⟨_, rfl, rfl⟩⟩ := al2 al
      cases z
      rfl
  · subst hL
    rw [filter_strs (fun s => !isName s)] at pd
    rw [pd_strs (E := fun s => .tuple [.str "name", .str s]) pd]
    rfl
end
end SF
namespace SF
open PySem PySem.Spec PyProof.Rows L2 GK Evl LamX
variable {P : Program} {w : World} {K : PySem.W.Frag} {mg : Str → Option Value} {base : Heap}
section
variable {R : Rg} {σ : L2.St} {H : Hp} {v : V}
/-- the options that stand twice: over enumerate(row[2]), row at 1 -/
theorem x_dups {a b c : PyData} {os : List Str} (hl : os.length ≤ 1000) (hlen : σ.length = 9) (h1 : σ[1]? = some (some v)) (hv : Dp K (R.off H) v (.tuple [a, b, .list (os.map .str), c])) : EvX R (tLc (iEnum K (tCons (tOp (rIxT K) (tVar 1) (tC (.int 2))) tNil)) (gTup K 2 (gCons (gName 8) (gCons (gName 7) gNil))) (tTest (tOp (rIn K false) (tVar 7) (tSl (rSlL K) (tOp (rIxT K) (tVar 1) (tC (.int 2))) tNoPart (tPart (tVar 8))))) (tTup (tCons (tC (.str "twice")) (tCons (tVar 7) tNil))) [8, 7]) σ H (Dt K (fun d => d = .list (dupsP os))) := by
  have hw : ∀ x y, wipe (((wipe σ [8, 7]).set 8 (some x)).set 7 (some y)) [8, 7] = wipe σ [8, 7] := fun x y => by
    show (((((σ.set 7 none).set 8 none).set 8 (some x)).set 7 (some y)).set 7 none).set 8 none = (σ.set 7 none).set 8 none
    rw [List.set_set, List.set_set, List.set_comm (some x) none (by decide : (8 : Nat) ≠ 7), List.set_set, List.set_set]
  have l8 : ∀ x, ((wipe σ [8, 7]).set 8 (some x)).length = 9 := fun x => by rw [List.length_set, wipe_length, hlen]
  have at7 : ∀ x y, (((wipe σ [8, 7]).set 8 (some x)).set 7 (some y))[7]? = some (some y) := fun x y => by
    rw [List.getElem?_set_self (by rw [l8]; decide)]
  have at8 : ∀ x y, (((wipe σ [8, 7]).set 8 (some x)).set 7 (some y))[8]? = some (some x) := fun x y => by
    rw [List.getElem?_set_ne (by decide), List.getElem?_set_self (by rw [wipe_length, hlen]; decide)]
  have at1 : ∀ x y, (((wipe σ [8, 7]).set 8 (some x)).set 7 (some y))[1]? = some (some v) := fun x y => by
    rw [List.getElem?_set_ne (by decide), List.getElem?_set_ne (by decide)]
    show ((σ.set 7 none).set 8 none)[1]? = _
    rw [List.getElem?_set_ne (by decide), List.getElem?_set_ne (by decide)]
    exact h1
  have fin := x_lcE (K := K) (R := R) (σ := σ) (H := H) (tl := tOp (rIxT K) (tVar 1) (tC (.int 2))) (ds := os.map .str) (vs := [8, 7]) (j0 := 8) (j1 := 7) (f := fun i d => match d with | .str s => decide (s ∈ os.take i) | _ => false) (E := fun d => .tuple [.str "twice", d]) (G := fun i => (dupsOf [] (os.take i)).map fun s => .tuple [.str "twice", .str s])
    (tt := tTest (tOp (rIn K false) (tVar 7) (tSl (rSlL K) (tOp (rIxT K) (tVar 1) (tC (.int 2))) tNoPart (tPart (tVar 8))))) (te := tTup (tCons (tC (.str "twice")) (tCons (tVar 7) tNil)))
    (x_at (n := 2) h1 hv rfl rfl) (by rw [List.length_map]; omega) hw (fun p acc H1 np hI sm i d x hi hx => ?_) (fun p acc H1 np hI sm i d x hi hf hx => ?_) rfl (fun i d hi => ?_)
  · rw [List.length_map, List.take_length] at fin
    exact fin
  · rw [List.getElem?_map] at hi
    obtain ⟨s, hs', rfl⟩ := Option.map_eq_some_iff.mp hi
    refine xt_test (x_in (K := K) (neg := false) (A := fun d => d = .str s) (B := fun d => d = .list ((os.take i).map .str)) (x_d (at7 _ _) hx rfl) (x_slL (A := fun d => d = .list (os.map .str)) (x_at (n := 2) (at1 _ _) (dp_up sm hv) rfl rfl) xo_none (xo_some (K := K) (A := fun k => k = (i : Int)) (x_vi (at8 _ _) rfl)) fun d lo hi' hd hlo hhi => ?_) fun d e hd he => ?_)
    · obtain ⟨_, rfl, rfl⟩ := hhi
      subst hlo
      exact ⟨_, hd, by rw [cut_to, List.map_take]⟩
    · subst hd he
      exact ⟨_, .inl rfl, rfl, flat_strs, any_str⟩
  · rw [List.getElem?_map] at hi
    obtain ⟨s, hs', rfl⟩ := Option.map_eq_some_iff.mp hi
    exact x_tu (ds_cons (x_s (A := fun t => t = "twice") rfl) (ds_cons (x_d (P := fun d => d = .str s) (at7 _ _) hx rfl) ds_nil)) fun ds al => by
      obtain ⟨a, b, rfl, ⟨_, rfl, rfl⟩, rfl⟩ := al2 al
      rfl
  · rw [List.getElem?_map] at hi
    obtain ⟨s, hs', rfl⟩ := Option.map_eq_some_iff.mp hi
    show (dupsOf [] (os.take (i + 1))).map _ = _ ++ (if decide (s ∈ os.take i) = true then _ else _)
    rw [List.take_succ, hs', show (some s).toList = [s] from rfl, dupsOf_app, List.map_append, List.nil_append]
    by_cases h : s ∈ os.take i
    · rw [if_pos h, if_pos (decide_eq_true h)]; rfl
    · rw [if_neg h, if_neg (by rw [decide_eq_true_iff]; exact h)]; rfl
end
end SF
namespace SF
open PySem PySem.Spec PyProof.Rows L2 GK Evl LamX
variable {P : Program} {w : World} {K : PySem.W.Frag} {mg : Str → Option Value} {base : Heap}
section
variable {R : Rg} {σ : L2.St} {H : Hp} {ta tb : TE}
theorem x_andV {A B C : Bool → Prop} (ha : EvX R ta σ H (Dt K (isB A))) (hb : A true → EvX R tb σ H (Dt K (isB B))) (hf : A false → C false) (ht : ∀ b, A true → B b → C b) : EvX R (tAndV ta tb) σ H (Dt K (isB C)) := fun H1 g Q q => ha H1 g _ fun v H2 g2 hv => by
  obtain ⟨_, ⟨b, rfl, hb'⟩, dp⟩ := hv
  cases dp
  refine ⟨b, rfl, ?_⟩
  cases b with
  | false => exact iteF (q _ H2 g2 ⟨_, ⟨_, rfl, hf hb'⟩, .bl _⟩)
  | true => exact iteT (hb hb' H2 (g.trans g2) Q fun v H3 g3 hv => q v H3 (g2.trans g3) (by
      obtain ⟨_, ⟨c, rfl, hc⟩, dp⟩ := hv
      exact ⟨_, ⟨c, rfl, ht c hb' hc⟩, dp⟩))
end
theorem Rw.kd_num {r : Rw} (h : r.kd = "number") : ∃ n lo hi c, r = .number n lo hi c := by
  cases r with
  | number n lo hi c => exact ⟨_, _, _, _, rfl⟩
  | one => exact absurd (show ("one" : Str) = "number" from h) (by decide)
  | som => exact absurd (show ("some" : Str) = "number" from h) (by decide)
  | rnd => exact absurd (show ("rounds" : Str) = "number" from h) (by decide)
  | check => exact absurd (show ("check" : Str) = "number" from h) (by decide)
  | sec => exact absurd (show ("section" : Str) = "number" from h) (by decide)
theorem isCount_no {r : Rw} (h : r.kd ≠ "number") : isCount r = false := by
  cases r with
  | number n lo hi c => exact absurd rfl h
  | one => rfl
  | som => rfl
  | rnd => rfl
  | check => rfl
  | sec => rfl
def numBad : Rw → Bool
  | .number _ lo hi _ => decide (hi < lo)
  | _ => false
theorem numBad_no {r : Rw} (h : r.kd ≠ "number") : numBad r = false := by
  cases r with
  | number n lo hi c => exact absurd rfl h
  | one => rfl
  | som => rfl
  | rnd => rfl
  | check => rfl
  | sec => rfl
def isOpt : Rw → Bool
  | .one .. => true
  | .som .. => true
  | _ => false
def mostOf : Rw → Int
  | .one .. => 6
  | _ => 4
theorem dupsOf_len : ∀ (xs seen : List Str), (dupsOf seen xs).length ≤ xs.length
  | [], _ => Nat.le_refl _
  | s :: r, seen => by
    unfold dupsOf
    have := dupsOf_len r (seen ++ [s])
    by_cases h : s ∈ seen
    · rw [if_pos h]; simp only [List.length_cons]; omega
    · rw [if_neg h]; simp only [List.length_cons]; omega
theorem Rw.leaf_of {r : Rw} (h : r.inn = none) : ∃ n tl, r.leaf = some n ∧ r.tl = .str n :: tl ∧ (∀ st here, headFault st here r = leafFault st n r) ∧ (r.ok → sOk n) := by
  cases r with
  | number n lo hi c => exact ⟨n, _, rfl, rfl, fun _ _ => rfl, fun h => h.1⟩
  | one n os c => exact ⟨n, _, rfl, rfl, fun _ _ => rfl, fun h => h.1⟩
  | som n os c => exact ⟨n, _, rfl, rfl, fun _ _ => rfl, fun h => h.1⟩
  | check n m c => exact ⟨n, _, rfl, rfl, fun _ _ => rfl, fun h => h.1⟩
  | rnd => cases h
  | sec => cases h
theorem fieldFault_num {r : Rw} (h : numBad r = true) : ∃ n lo hi c, r = .number n lo hi c ∧ fieldFault r = some (.count "bounds" hi) := by
  cases r with
  | number n lo hi c => exact ⟨n, lo, hi, c, rfl, if_pos (c := hi < lo) (of_decide_eq_true h)⟩
  | one => cases h
  | som => cases h
  | rnd => cases h
  | check => cases h
  | sec => cases h
theorem fieldFault_none {r : Rw} (h : numBad r = false) (h2 : isOpt r = false) : fieldFault r = none := by
  cases r with
  | number n lo hi c => exact if_neg (c := hi < lo) (of_decide_eq_false h)
  | one => cases h2
  | som => cases h2
  | rnd => rfl
  | check => rfl
  | sec => rfl
theorem isOpt_of {r : Rw} (h : isOpt r = true) : ∃ n os c, r.tl = [.str n, .list (os.map .str), ocP c] ∧ (r.ok → os.length ≤ 1000 ∧ ∀ s ∈ os, sOk s) ∧ (r.kd = "one" ∧ mostOf r = 6 ∨ r.kd = "some" ∧ mostOf r = 4) ∧ fieldFault r = if ¬ (1 ≤ os.length ∧ (os.length : Int) ≤ mostOf r) then some (.count "options" os.length) else optTail os := by
  cases r with
  | one n os c => exact ⟨n, os, c, rfl, fun h => ⟨h.2.1, h.2.2.1⟩, .inl ⟨rfl, rfl⟩, by
      unfold fieldFault optFault
      have e : (1 ≤ os.length ∧ os.length ≤ 6) ↔ (1 ≤ os.length ∧ (os.length : Int) ≤ mostOf (.one n os c)) := by show _ ↔ (_ ∧ (os.length : Int) ≤ 6); omega
      simp only [e]⟩
  | som n os c => exact ⟨n, os, c, rfl, fun h => ⟨h.2.1, h.2.2.1⟩, .inr ⟨rfl, rfl⟩, by
      unfold fieldFault optFault
      have e : (1 ≤ os.length ∧ os.length ≤ 4) ↔ (1 ≤ os.length ∧ (os.length : Int) ≤ mostOf (.som n os c)) := by show _ ↔ (_ ∧ (os.length : Int) ≤ 4); omega
      simp only [e]⟩
  | number => cases h
  | rnd => cases h
  | check => cases h
  | sec => cases h
/-! ### _law_fields_amiss -/
def sp__law_fields_amiss (T : Txt K mg) : Sp := fun vs H Q _ => ∃ (S : List Addr) (F nl kd : Addr) (st : Stt) (kvs : List (Key × V)) (r : Rw) (v : V) (here : Nat), vs = [.ref F, v, .int (here : Int)] ∧ FAt K S H F nl kd st kvs ∧ Dp K (offS S H) v r.py ∧ r.ok ∧ r.dep ≤ 15 ∧ ∀ v H', Same H H' → Dp K (offS S H') v (oF (headFault st here r)) → Q v H'
theorem ok__law_fields_amiss (T : Txt K mg) : FnOk P w K mg base CX0 2 T.a__law_fields_amiss T.d__law_fields_amiss ["_law_f", "_law_row", "_law_here"] (sp__law_fields_amiss T) := by
  have G__law_is_name : FnOk P w K mg base CX0 1 T.a__law_is_name T.d__law_is_name ["_law_text"] (sp__law_is_name T) := ok__law_is_name T
  have G__law_heard : FnOk P w K mg base CX0 1 T.a__law_heard T.d__law_heard ["_law_f", "_law_name", "_law_here"] (sp__law_heard T) := ok__law_heard T
  refine T.F__law_fields_amiss.ok sc__law_fields_amiss (fun vs H Q E h => ?_) (fun cdv A outer s H vs Q E hr h => ?_)
  · obtain ⟨S, F, nl, kd, st, kvs, r, v, here, rfl, _⟩ := h
    rfl
  · obtain ⟨S, F, nl, kd, st, kvs, r, v0, here, rfl, fa, hv0, hok, hdep, q⟩ := h
    refine ⟨(tSeq (tIfS (tTest (tOp (rIn K false) (tOp (rIxT K) (tVar 1) (tC (.int 0))) (tLst (tCons (tC (.str "section")) (tCons (tC (.str "rounds")) tNil))))) (tSeq (tIfS (tTest (tOp (rEqD K) (tOp (rIxT K) (tVar 1) (tUn (rU fun i => .int (-i)) (tC (.int 2)))) (tLst tNil))) (tRet (tTup (tCons (tC (.str "count")) (tCons (tC (.str "rows")) (tCons (tC (.int 0)) tNil))))) tNext)
  (tSeq (tIfS (tTest (tOp rEq (tOp (rIxT K) (tVar 1) (tC (.int 0))) (tC (.str "section")))) (tRet (tC .non)) tNext)
  (tSeq (tIfS (tTest (tOp rNe (tVar 2) (tC (.int 0)))) (tRet (tTup (tCons (tC (.str "count")) (tCons (tC (.str "rounds")) (tCons (tC (.int 2)) tNil))))) tNext)
  (tSeq (tAsg (tCall (sp__law_heard T) [] E0 (tCons (tVar 0) (tCons (tOp (rIxT K) (tVar 1) (tC (.int 1))) (tCons (tVar 2) tNil)))) (gName 3))
  (tSeq (tIfS (tTest (tOp rIsN (tVar 3) (tC .non))) (tSeq (tAsg (tOp (rIxT K) (tDGet (tDGet (tVar 0) (tC (.str "known"))) (tOp (rIxT K) (tVar 1) (tC (.int 1)))) (tC (.int 0))) (gName 4))
  (tSeq (tAsg (tAndV (tOp rEq (tOp (rIxT K) (tVar 4) (tC (.int 0))) (tC (.str "number"))) (tAndV (tOp (rI0 fun i j => .bl (decide (j ≤ i))) (tOp (rIxT K) (tVar 4) (tC (.int 2))) (tC (.int 0))) (tOp (rI0 fun i j => .bl (decide (i ≤ j))) (tOp (rIxT K) (tVar 4) (tC (.int 3))) (tC (.int 4))))) (gName 5))
  (tAsg (tOp (rIxL K) (tLst (tCons (tTup (tCons (tC (.str "fit")) (tCons (tOp (rIxT K) (tVar 1) (tC (.int 1))) tNil))) (tCons (tC .non) tNil))) (tCB gInt1 (tCons (tVar 5) tNil))) (gName 3)))) tNext)
  (tRet (tVar 3))))))) tNext)
  (tSeq (tIfS (tNot (tB (tCall (sp__law_is_name T) [] E0 (tCons (tOp (rIxT K) (tVar 1) (tC (.int 1))) tNil)))) (tRet (tTup (tCons (tC (.str "name")) (tCons (tOp (rIxT K) (tVar 1) (tC (.int 1))) tNil)))) tNext)
  (tSeq (tIfS (tTest (tOp (rIn K false) (tOp (rIxT K) (tVar 1) (tC (.int 1))) (tDGet (tVar 0) (tC (.str "names"))))) (tRet (tTup (tCons (tC (.str "twice")) (tCons (tOp (rIxT K) (tVar 1) (tC (.int 1))) tNil)))) tNext)
  (tSeq (tIfS (tAnd (tTest (tOp rEq (tOp (rIxT K) (tVar 1) (tC (.int 0))) (tC (.str "number")))) (tTest (tOp (rI0 fun i j => .bl (decide (j < i))) (tOp (rIxT K) (tVar 1) (tC (.int 2))) (tOp (rIxT K) (tVar 1) (tC (.int 3)))))) (tRet (tTup (tCons (tC (.str "count")) (tCons (tC (.str "bounds")) (tCons (tOp (rIxT K) (tVar 1) (tC (.int 3))) tNil))))) tNext)
  (tSeq (tIfS (tTest (tOp (rIn K false) (tOp (rIxT K) (tVar 1) (tC (.int 0))) (tLst (tCons (tC (.str "one")) (tCons (tC (.str "some")) tNil))))) (tSeq (tIfS (tNot (tTest (tChain (rI0 fun i j => .bl (decide (i ≤ j))) (rI0 fun i j => .bl (decide (i ≤ j))) (tC (.int 1)) (tCB (gLenQ K) (tCons (tOp (rIxT K) (tVar 1) (tC (.int 2))) tNil)) (tDGet (tDisp [((tC (.str "one")), (tC (.int 6))), ((tC (.str "some")), (tC (.int 4)))]) (tOp (rIxT K) (tVar 1) (tC (.int 0))))))) (tRet (tTup (tCons (tC (.str "count")) (tCons (tC (.str "options")) (tCons (tCB (gLenQ K) (tCons (tOp (rIxT K) (tVar 1) (tC (.int 2))) tNil)) tNil))))) tNext)
  (tSeq (tAsg (tLc (iList K (tOp (rIxT K) (tVar 1) (tC (.int 2)))) (gName 7) (tNot (tB (tCall (sp__law_is_name T) [] E0 (tCons (tVar 7) tNil)))) (tTup (tCons (tC (.str "name")) (tCons (tVar 7) tNil))) [7]) (gName 6))
  (tSeq (tAsg (tOp (rCatS K) (tVar 6) (tLc (iEnum K (tCons (tOp (rIxT K) (tVar 1) (tC (.int 2))) tNil)) (gTup K 2 (gCons (gName 8) (gCons (gName 7) gNil))) (tTest (tOp (rIn K false) (tVar 7) (tSl (rSlL K) (tOp (rIxT K) (tVar 1) (tC (.int 2))) tNoPart (tPart (tVar 8))))) (tTup (tCons (tC (.str "twice")) (tCons (tVar 7) tNil))) [8, 7])) (gName 6))
  (tRet (tOp (rIxL K) (tOp (rCatS K) (tVar 6) (tLst (tCons (tC .non) tNil))) (tC (.int 0))))))) tNext)
  (tRet (tC .non))))))),
(pss_cons (ps_if (pt_cmpR op_in_seq (pe_ix ix_tup (pv 1) pe_int (fun _ _ => rfl)) (pe_lst (pa_cons pe_str (pa_cons pe_str pa_nil))) (by rfl)) (pss_cons (ps_if (pt_cmpR (op_eqD hr.units) (pe_ix ix_tup (pv 1) (pe_un un_neg pe_int) (fun _ _ => rfl)) (pe_lst pa_nil) (nomark _)) (pss_one (ps_ret (pe_tup (pa_cons pe_str (pa_cons pe_str (pa_cons pe_int pa_nil)))))) pss_nil)
  (pss_cons (ps_if (pt_cmpR op_eq (pe_ix ix_tup (pv 1) pe_int (fun _ _ => rfl)) pe_str (nomark _)) (pss_one (ps_ret pe_non)) pss_nil)
  (pss_cons (ps_if (pt_cmpR op_ne (pv 2) pe_int (nomark _)) (pss_one (ps_ret (pe_tup (pa_cons pe_str (pa_cons pe_str (pa_cons pe_int pa_nil)))))) pss_nil)
  (pss_cons (ps_set (i := 3) sc__law_fields_amiss.nd rfl (.inl rfl) (pe_call (G__law_heard.mono (by omega)) hr (by rfl) T.g__law_heard T.F__law_heard.kp T.b__law_heard .nil pass0 (pa_cons (pv 0) (pa_cons (pe_ix ix_tup (pv 1) pe_int (fun _ _ => rfl)) (pa_cons (pv 2) pa_nil)))))
  (pss_cons (ps_if (pt_cmpR op_isN1 (pv 3) pe_non (nomark _)) (pss_cons (ps_set (i := 4) sc__law_fields_amiss.nd rfl (.inl rfl) (pe_ix ix_tup (pe_dget (hu_of hr) (pe_dget (hu_of hr) (pv 0) pe_str (fun _ _ => rfl)) (pe_ix ix_tup (pv 1) pe_int (fun _ _ => rfl)) (fun _ _ => rfl)) pe_int (fun _ _ => rfl)))
  (pss_cons (ps_set (i := 5) sc__law_fields_amiss.nd rfl (.inl rfl) (pe_and (pe_cmpR op_eq (pe_ix ix_tup (pv 4) pe_int (fun _ _ => rfl)) pe_str (nomark _)) (pe_and (pe_cmpR op_ge (pe_ix ix_tup (pv 4) pe_int (fun _ _ => rfl)) pe_int (nomark _)) (pe_one (pe_cmpR op_le (pe_ix ix_tup (pv 4) pe_int (fun _ _ => rfl)) pe_int (nomark _))))))
  (pss_one (ps_set (i := 3) sc__law_fields_amiss.nd rfl (.inl rfl) (pe_ix ix_list (pe_lst (pa_cons (pe_tup (pa_cons pe_str (pa_cons (pe_ix ix_tup (pv 1) pe_int (fun _ _ => rfl)) pa_nil))) (pa_cons pe_non pa_nil))) (pe_callTy call_int1 (by rfl) T.z_int (by decide +kernel) (pa_cons (pv 5) pa_nil)) (fun _ _ => rfl)))))) pss_nil)
  (pss_one (ps_ret (pv 3)))))))) pss_nil)
  (pss_cons (ps_if (pt_not (pt_val (pe_call (G__law_is_name.mono (by omega)) hr (by rfl) T.g__law_is_name T.F__law_is_name.kp T.b__law_is_name .nil pass0 (pa_cons (pe_ix ix_tup (pv 1) pe_int (fun _ _ => rfl)) pa_nil)))) (pss_one (ps_ret (pe_tup (pa_cons pe_str (pa_cons (pe_ix ix_tup (pv 1) pe_int (fun _ _ => rfl)) pa_nil))))) pss_nil)
  (pss_cons (ps_if (pt_cmpR op_in_seq (pe_ix ix_tup (pv 1) pe_int (fun _ _ => rfl)) (pe_dget (hu_of hr) (pv 0) pe_str (fun _ _ => rfl)) (by rfl)) (pss_one (ps_ret (pe_tup (pa_cons pe_str (pa_cons (pe_ix ix_tup (pv 1) pe_int (fun _ _ => rfl)) pa_nil))))) pss_nil)
  (pss_cons (ps_if (PW.pt (pw_and (pt_cmpR op_eq (pe_ix ix_tup (pv 1) pe_int (fun _ _ => rfl)) pe_str (nomark _)) (pw_and1 (pt_cmpR op_gt (pe_ix ix_tup (pv 1) pe_int (fun _ _ => rfl)) (pe_ix ix_tup (pv 1) pe_int (fun _ _ => rfl)) (nomark _))))) (pss_one (ps_ret (pe_tup (pa_cons pe_str (pa_cons pe_str (pa_cons (pe_ix ix_tup (pv 1) pe_int (fun _ _ => rfl)) pa_nil)))))) pss_nil)
  (pss_cons (ps_if (pt_cmpR op_in_seq (pe_ix ix_tup (pv 1) pe_int (fun _ _ => rfl)) (pe_lst (pa_cons pe_str (pa_cons pe_str pa_nil))) (by rfl)) (pss_cons (ps_if (pt_not (pt_chain op_le op_le pe_int (pe_callB call_len_seq (by rfl) T.z_len (by decide +kernel) (pa_cons (pe_ix ix_tup (pv 1) pe_int (fun _ _ => rfl)) pa_nil)) (pe_dget (hu_of hr) (pe_disp (pps_cons pe_str pe_int (pps_cons pe_str pe_int pps_nil)) (by rfl) (by rfl) (fun z => by cases z) (by decide)) (pe_ix ix_tup (pv 1) pe_int (fun _ _ => rfl)) (fun _ _ => rfl)))) (pss_one (ps_ret (pe_tup (pa_cons pe_str (pa_cons pe_str (pa_cons (pe_callB call_len_seq (by rfl) T.z_len (by decide +kernel) (pa_cons (pe_ix ix_tup (pv 1) pe_int (fun _ _ => rfl)) pa_nil)) pa_nil)))))) pss_nil)
  (pss_cons (ps_setLc (i := 6) (own := [("_law_one", 7)]) (g := (gName 7)) (tt := (tNot (tB (tCall (sp__law_is_name T) [] E0 (tCons (tVar 7) tNil))))) (te := (tTup (tCons (tC (.str "name")) (tCons (tVar 7) tNil)))) rfl sc__law_fields_amiss.nd rfl rfl (sw_true rfl rfl rfl (by decide +kernel)) (pi_list (pe_ix ix_tup (pv 1) pe_int (fun _ _ => rfl))) (blkOk_by (N := ["_law_f", "_law_row", "_law_here", "_law_fault", "_law_count", "_law_is_right", "_law_bad", "_law_one", "_law_k"]) (sc := defScope s__law_fields_amiss) (own := [("_law_one", 7)]) (by decide +kernel)) (fun _ _ _ _ _ => (pg_name (i := 7) sc__law_fields_amiss.nd rfl (.inl rfl))) (fun _ _ _ _ _ => (pts_one (pt_not (pt_val (pe_call (G__law_is_name.mono (by omega)) hr (by rfl) T.g__law_is_name T.F__law_is_name.kp T.b__law_is_name .nil pass0 (pa_cons (pv 7) pa_nil)))))) (fun _ _ _ _ _ => (pe_tup (pa_cons pe_str (pa_cons (pv 7) pa_nil)))))
  (pss_cons (ps_set (i := 6) sc__law_fields_amiss.nd rfl (.inl rfl) (pe_op op_catS (pv 6) (pe_lc (own := [("_law_k", 8), ("_law_one", 7)]) (g := (gTup K 2 (gCons (gName 8) (gCons (gName 7) gNil)))) (tt := (tTest (tOp (rIn K false) (tVar 7) (tSl (rSlL K) (tOp (rIxT K) (tVar 1) (tC (.int 2))) tNoPart (tPart (tVar 8)))))) (te := (tTup (tCons (tC (.str "twice")) (tCons (tVar 7) tNil)))) rfl sc__law_fields_amiss.nd (pi_enum (by rfl) T.z_enumerate (pa_cons (pe_ix ix_tup (pv 1) pe_int (fun _ _ => rfl)) pa_nil)) (blkOk_by (N := ["_law_f", "_law_row", "_law_here", "_law_fault", "_law_count", "_law_is_right", "_law_bad", "_law_one", "_law_k"]) (sc := defScope s__law_fields_amiss) (own := [("_law_k", 8), ("_law_one", 7)]) (by decide +kernel)) (fun _ _ _ _ _ => (pg_tup rfl (pgs_cons (pg_name (i := 8) sc__law_fields_amiss.nd rfl (.inl rfl)) (pgs_cons (pg_name (i := 7) sc__law_fields_amiss.nd rfl (.inl rfl)) pgs_nil)))) (fun _ _ _ _ _ => (pts_one (pt_cmpR op_in_seq (pv 7) (pe_slice sl_list (pe_ix ix_tup (pv 1) pe_int (fun _ _ => rfl)) po_none (po_some (pv 8))) (by rfl)))) (fun _ _ _ _ _ => (pe_tup (pa_cons pe_str (pa_cons (pv 7) pa_nil)))))))
  (pss_one (ps_ret (pe_ix ix_list (pe_op op_catS (pv 6) (pe_lst (pa_cons pe_non pa_nil))) pe_int (fun _ _ => rfl))))))) pss_nil)
  (pss_one (ps_ret pe_non))))))), ?_⟩
    have I0 : fa.rg.I H := still_refl
    have fin : ∀ {v H1} {o : Option Fault}, Go fa.rg H H1 → headFault st here r = o → (Dt K (fun d => d = oF o)).p (fa.rg.off H1) v → Q v H1 := fun {v H1 o} g ho ⟨d, hd, dp⟩ => q v H1 (still_same g) (by rw [ho, ← hd]; exact dp)
    refine w_when (R := fa.rg) (xt_isInn (j := 1) rfl hv0) I0 (fun H1 g1 hb => ?_) (fun H1 g1 hb => ?_)
    · obtain ⟨inn, hinn⟩ := Option.isSome_iff_exists.mp hb.symm
      obtain ⟨pre, hI', _⟩ := Rw.inn_of hinn
      have d1 := dp_up g1.same hv0
      have iok : rowsOk inn ∧ deps inn ≤ 15 := by
        cases r <;> simp only [Rw.inn, Option.some.injEq, reduceCtorEq] at hinn <;> subst hinn
        · exact ⟨hok.1, by have : deps _ + 1 ≤ 15 := hdep; omega⟩
        · exact ⟨hok.2.1, by have : deps _ + 1 ≤ 15 := hdep; omega⟩
      refine w_when (R := fa.rg) (B := fun b => b = inn.isEmpty) (xt_test (x_eqD (K := K) (A := fun d => d = .list (rowsP inn)) (B := fun d => d = .list []) (x_m2 (j := 1) rfl d1 hI' rfl) (x_li ds_nil fun ds al => by cases al; rfl) fun d e hd he => by
        subst hd he
        exact ⟨rows_shp iok.1 (by omega), shp_nil, by rw [eqv_nil]; cases inn <;> rfl⟩)) g1.inv (fun H2 g2 hb2 => ?_) (fun H2 g2 hb2 => ?_)
      · refine w_ret (R := fa.rg) (x_tu (K := K) (P := fun d => d = oF (some (.count "rows" 0))) (ds_cons (x_s (A := fun s => s = "count") rfl) (ds_cons (x_s (A := fun s => s = "rows") rfl) (ds_cons (x_i (A := fun i => i = 0) rfl) ds_nil))) fun ds al => by
          obtain ⟨a, b, c, rfl, ⟨_, rfl, rfl⟩, ⟨_, rfl, rfl⟩, ⟨_, rfl, rfl⟩⟩ := al3 al
          rfl) g2.inv fun v H3 g3 hv => fin ((g1.trans g2).trans g3) ?_ hv
        cases r <;> simp only [Rw.inn, Option.some.injEq, reduceCtorEq] at hinn <;> subst hinn <;> simp only [headFault] <;> rw [← hb2, if_pos rfl]
      have g02 := g1.trans g2
      have d2 := dp_up g02.same hv0
      have dt2 := d2
      rw [Rw.py_tl] at dt2
      refine w_when (R := fa.rg) (B := fun b => b = decide (r.kd = "section")) (xt_test (x_eqS (K := K) (A := fun s => s = r.kd) (B := fun s => s = "section") (x_at (j := 1) (n := 0) rfl dt2 rfl ⟨_, rfl, rfl⟩) (x_s rfl) fun a b ha hb => by rw [ha, hb])) g2.inv (fun H3 g3 hb3 => ?_) (fun H3 g3 hb3 => ?_)
      · obtain ⟨rows, c, rfl⟩ := Rw.kd_sec (of_decide_eq_true hb3.symm)
        cases hinn
        refine s_ret ev_c fun H4 e4 => q _ H4 (Same.trans (still_same (g02.trans g3)) e4) ?_
        simp only [headFault]
        rw [← hb2, if_neg (by decide)]
        exact .non
      obtain ⟨n, rows, c, rfl⟩ : ∃ n rows c, r = .rnd n rows c := by
        cases r with
        | rnd n rows c => exact ⟨_, _, _, rfl⟩
        | sec rows c => exact absurd rfl (of_decide_eq_false hb3.symm)
        | one => cases hinn
        | som => cases hinn
        | number => cases hinn
        | check => cases hinn
      cases hinn
      have d3 := dp_up g3.same d2
      rw [Rw.py] at d3
      have g03 := g02.trans g3
      have hh : headFault st here (.rnd n inn c) = if here ≠ 0 then some (.count "rounds" 2) else countFault st n here := by
        simp only [headFault]
        rw [← hb2, if_neg (by decide)]
      refine w_when (R := fa.rg) (B := fun b => b = !decide ((here : Int) = 0)) (xt_test (x_neI (K := K) (A := fun i => i = (here : Int)) (B := fun i => i = 0) (x_vi (i := 2) rfl rfl) (x_i rfl) fun a b ha hb => by rw [ha, hb])) g3.inv (fun H4 g4 hb4 => ?_) (fun H4 g4 hb4 => ?_)
      · refine w_ret (R := fa.rg) (x_tu (K := K) (P := fun d => d = oF (some (.count "rounds" 2))) (ds_cons (x_s (A := fun s => s = "count") rfl) (ds_cons (x_s (A := fun s => s = "rounds") rfl) (ds_cons (x_i (A := fun i => i = 2) rfl) ds_nil))) fun ds al => by
          obtain ⟨a, b, c, rfl, ⟨_, rfl, rfl⟩, ⟨_, rfl, rfl⟩, ⟨_, rfl, rfl⟩⟩ := al3 al
          rfl) g4.inv fun v H5 g5 hv => fin ((g03.trans g4).trans g5) ?_ hv
        rw [hh, if_pos]
        intro z
        subst z
        cases hb4
      have h0 : here = 0 := by
        by_cases z : here = 0
        · exact z
        · rw [decide_eq_false (by omega : ¬ (here : Int) = 0)] at hb4; cases hb4
      have hh : headFault st here (.rnd n inn c) = countFault st n here := by rw [hh, if_neg (by simp [h0])]
      have d4 := dp_up g4.same d3
      have g04 := g03.trans g4
      refine w_asg (R := fa.rg) (D := Dt K (fun d => d = speakP st n here)) (fun H5 g5 Q' q' => ⟨.ref F, rfl, x_at (K := K) (P := isS fun s => s = n) (j := 1) (n := 1) rfl d4 rfl ⟨_, rfl, rfl⟩ H5 g5 _ fun nv H6 g6 hnv => by
        obtain ⟨s, rfl, hs⟩ := dp_str_of hnv
        subst hs
        exact ⟨.int (here : Int), rfl, S, F, nl, kd, st, kvs, s, here, rfl, fa.go ((g04.trans g5).trans g6), fun v H7 e7 dp => q' v H7 (g6.trans (Go.of g6.inv e7)) ⟨_, rfl, dp⟩⟩⟩) g4.inv fun fv H5 g5 ⟨fd, hfd, fdp⟩ => ?_
      subst hfd
      have g05 := g04.trans g5
      have d5 := dp_up g5.same d4
      refine w_when (R := fa.rg) (B := fun b => b = isNon (speakP st n here)) (xt_test (x_isN (K := K) (A := fun d => d = speakP st n here) (x_d (i := 3) rfl fdp rfl) fun d hd => by rw [hd])) g5.inv (fun H6 g6 hb6 => ?_) (fun H6 g6 hb6 => ?_)
      · cases hs : speak st n here with
        | error f => unfold speakP at hb6; rw [hs] at hb6; cases f <;> cases hb6
        | ok rr =>
        have hget : ∃ k, getA st.asked n = some (rr, k) := by
          unfold speak at hs
          cases z : getA st.asked n with
          | none => rw [z] at hs; cases hs
          | some rk =>
            obtain ⟨r', k'⟩ := rk
            rw [z] at hs
            simp only at hs
            split at hs
            · cases hs; exact ⟨k', rfl⟩
            · cases hs
        obtain ⟨kk, hget⟩ := hget
        have g06 := g05.trans g6
        have d6 := dp_up g6.same d5
        refine w_asg (R := fa.rg) (D := Dt K (fun d => d = rr.py)) (x_ixT (A := fun d => d = .tuple [rr.py, .int (kk : Int)]) (N := fun i => i = 0) (fa.x_knownE g06 (i := 0) rfl (x_at (j := 1) (n := 1) rfl d6 rfl ⟨_, rfl, rfl⟩) hget) (x_i rfl) fun d i hd hi => by subst hi; exact ⟨_, _, hd, atI_nat (j := 0) rfl, rfl⟩) g6.inv fun rv H7 g7 ⟨rd, hrd, rdp⟩ => ?_
        subst hrd
        rw [Rw.py_tl] at rdp
        have g07 := g06.trans g7
        have d7 := dp_up g7.same d6
        refine w_asg (R := fa.rg) (D := Dt K (isB fun b => b = isCount rr)) (x_andV (A := fun b => b = decide (rr.kd = "number")) (B := fun b => b = isCount rr) (x_eqS (K := K) (A := fun s => s = rr.kd) (B := fun s => s = "number") (x_at (j := 4) (n := 0) rfl rdp rfl ⟨_, rfl, rfl⟩) (x_s rfl) fun a b ha hb => by rw [ha, hb]) (fun hk => ?_) (fun hk => by rw [isCount_no (of_decide_eq_false hk.symm)]) (fun b _ hb => hb)) g7.inv fun bv H8 g8 hbv => ?_
        · obtain ⟨m', lo, hi, c', rfl⟩ := Rw.kd_num (of_decide_eq_true hk.symm)
          refine x_andV (A := fun b => b = decide ((0 : Int) ≤ lo)) (B := fun b => b = decide (hi ≤ 4)) (x_cmpI (A := fun i => i = lo) (B := fun i => i = 0) (x_at (j := 4) (n := 2) rfl rdp rfl ⟨_, rfl, rfl⟩) (x_i rfl) fun i j hi hj => by rw [hi, hj]) (fun _ => x_cmpI (A := fun i => i = hi) (B := fun i => i = 4) (x_at (j := 4) (n := 3) rfl rdp rfl ⟨_, rfl, rfl⟩) (x_i rfl) fun i j hi hj => by rw [hi, hj]) (fun hz => ?_) (fun b hz hb => ?_)
          · show false = (decide ((0 : Int) ≤ lo) && decide (hi ≤ 4)); rw [← hz]; rfl
          · show b = (decide ((0 : Int) ≤ lo) && decide (hi ≤ 4)); rw [← hz, hb]; rfl
        · have d8 := dp_up g8.same d7
          refine w_asg1 (R := fa.rg) (D := Dt K (fun d => d = oF (if isCount rr then none else some (.fit n)))) (x_ixL (A := fun d => d = .list [.tuple [.str "fit", .str n], .none]) (N := fun i => i = if isCount rr then 1 else 0) (x_li (ds_cons (x_tu (P := fun d => d = .tuple [.str "fit", .str n]) (ds_cons (x_s (A := fun s => s = "fit") rfl) (ds_cons (x_at (P := isS fun s => s = n) (j := 1) (n := 1) rfl d8 rfl ⟨_, rfl, rfl⟩) ds_nil)) fun ds al => by
            obtain ⟨a, b, rfl, ⟨_, rfl, rfl⟩, ⟨_, rfl, rfl⟩⟩ := al2 al
            rfl) (ds_cons (x_n (K := K)) ds_nil)) fun ds al => by
              obtain ⟨a, b, rfl, rfl, rfl⟩ := al2 al
              rfl) (x_intb (A := fun b => b = isCount rr) (x_var (i := 5) rfl hbv) fun b hb => ⟨_, rfl, by rw [hb]⟩) fun d i hd hi => by
                subst hi
                cases isCount rr with
                | true => exact ⟨_, _, hd, atI_nat (j := 1) rfl, rfl⟩
                | false => exact ⟨_, _, hd, atI_nat (j := 0) rfl, rfl⟩) g8.inv fun v9 H9 g9 h9 => ?_
          refine w_ret (R := fa.rg) (D := Dt K (fun d => d = oF (if isCount rr then none else some (.fit n)))) (x_var (i := 3) rfl h9) g9.inv fun v H10 g10 hv => fin (((g07.trans g8).trans g9).trans g10) ?_ hv
          rw [hh, countFault_ok hs]
      · cases hs : speak st n here with
        | ok rr => unfold speakP at hb6; rw [hs] at hb6; cases hb6
        | error f =>
          have f6 := dp_up g6.same fdp
          unfold speakP at f6
          rw [hs] at f6
          refine w_ret (R := fa.rg) (D := Dt K (fun d => d = oF (some f))) (x_d (i := 3) rfl f6 rfl) g6.inv fun v H7 g7 hv => fin ((g05.trans g6).trans g7) ?_ hv
          rw [hh, countFault_no hs]
    · have hnone : r.inn = none := by
        cases z : r.inn with
        | none => rfl
        | some x => rw [z] at hb; cases hb
      obtain ⟨n, tl, hleaf, htl, hhead, hnok⟩ := Rw.leaf_of hnone
      have hn := hnok hok
      have hd0 := hv0
      rw [Rw.py_tl, htl] at hd0
      have d1 := dp_up g1.same hd0
      have nm : ∀ {H1 : Hp}, Dp K (fa.rg.off H1) v0 (.tuple (.str r.kd :: .str n :: tl)) → EvX fa.rg (tOp (rIxT K) (tVar 1) (tC (.int 1))) [some (.ref F), some v0, some (.int (here : Int)), none, none, none, none, none, none] H1 (Dt K (isS fun s => s = n)) := fun h => x_at (j := 1) (n := 1) rfl h rfl ⟨_, rfl, rfl⟩
      refine w_when (R := fa.rg) (xt_isName T hn.1 (nm d1)) g1.inv (fun H2 g2 hb2 => ?_) (fun H2 g2 hb2 => ?_)
      · refine w_ret (R := fa.rg) (x_tu (K := K) (P := fun d => d = oF (some (.name n))) (ds_cons (x_s (A := fun s => s = "name") rfl) (ds_cons (nm (dp_up g2.same d1)) ds_nil)) fun ds al => by
          obtain ⟨a, b, rfl, ⟨_, rfl, rfl⟩, ⟨_, rfl, rfl⟩⟩ := al2 al
          rfl) g2.inv fun v H3 g3 hv => fin ((g1.trans g2).trans g3) ?_ hv
        rw [hhead]
        unfold leafFault
        rw [if_pos (by simpa using hb2.symm)]
      have g02 := g1.trans g2
      have d2 := dp_up g2.same d1
      have hisn : ¬ isName n = false := by
        intro z
        rw [z] at hb2
        cases hb2
      refine w_when (R := fa.rg) (fa.xt_named g02 (i := 0) rfl (nm d2)) g2.inv (fun H3 g3 hb3 => ?_) (fun H3 g3 hb3 => ?_)
      · refine w_ret (R := fa.rg) (x_tu (K := K) (P := fun d => d = oF (some (.twice n))) (ds_cons (x_s (A := fun s => s = "twice") rfl) (ds_cons (nm (dp_up g3.same d2)) ds_nil)) fun ds al => by
          obtain ⟨a, b, rfl, ⟨_, rfl, rfl⟩, ⟨_, rfl, rfl⟩⟩ := al2 al
          rfl) g3.inv fun v H4 g4 hv => fin ((g02.trans g3).trans g4) ?_ hv
        rw [hhead]
        unfold leafFault
        rw [if_neg hisn, if_pos (of_decide_eq_true hb3.symm)]
      have g03 := g02.trans g3
      have d3 := dp_up g3.same d2
      have hff : headFault st here r = fieldFault r := by
        rw [hhead]
        unfold leafFault
        rw [if_neg hisn, if_neg (of_decide_eq_false hb3.symm)]
      have dt3 := dp_up g03.same hv0
      rw [Rw.py_tl] at dt3
      refine w_when (R := fa.rg) (B := fun b => b = numBad r) (xt_and (A := fun b => b = decide (r.kd = "number")) (B := fun b => b = numBad r) (xt_test (x_eqS (K := K) (A := fun s => s = r.kd) (B := fun s => s = "number") (x_at (j := 1) (n := 0) rfl dt3 rfl ⟨_, rfl, rfl⟩) (x_s rfl) fun a b ha hb => by rw [ha, hb])) (fun hk => ?_) (fun hk => by rw [numBad_no (of_decide_eq_false hk.symm)]) (fun b _ hb => hb)) g3.inv (fun H4 g4 hb4 => ?_) (fun H4 g4 hb4 => ?_)
      · obtain ⟨m', lo, hi, c', rfl⟩ := Rw.kd_num (of_decide_eq_true hk.symm)
        exact xt_test (x_cmpI (A := fun i => i = lo) (B := fun i => i = hi) (x_at (j := 1) (n := 2) rfl dt3 rfl ⟨_, rfl, rfl⟩) (x_at (j := 1) (n := 3) rfl dt3 rfl ⟨_, rfl, rfl⟩) fun i j hi hj => by rw [hi, hj]; rfl)
      · obtain ⟨m', lo, hi, c', rfl, hfa⟩ := fieldFault_num hb4.symm
        have dt4 := dp_up g4.same dt3
        exact w_ret (R := fa.rg) (x_tu (K := K) (P := fun d => d = oF (some (.count "bounds" hi))) (ds_cons (x_s (A := fun s => s = "count") rfl) (ds_cons (x_s (A := fun s => s = "bounds") rfl) (ds_cons (x_at (P := isI fun i => i = hi) (j := 1) (n := 3) rfl dt4 rfl ⟨_, rfl, rfl⟩) ds_nil))) fun ds al => by
          obtain ⟨a, b, c, rfl, ⟨_, rfl, rfl⟩, ⟨_, rfl, rfl⟩, ⟨_, rfl, rfl⟩⟩ := al3 al
          rfl) g4.inv fun v H5 g5 hv => fin ((g03.trans g4).trans g5) (hff.trans hfa) hv
      have g04 := g03.trans g4
      have dt4 := dp_up g4.same dt3
      refine w_when (R := fa.rg) (B := fun b => b = isOpt r) (xt_test (x_in (K := K) (neg := false) (A := fun d => d = .str r.kd) (B := fun d => d = .list [.str "one", .str "some"]) (x_at (j := 1) (n := 0) rfl dt4 rfl rfl) (x_li (ds_cons (x_s (A := fun s => s = "one") rfl) (ds_cons (x_s (A := fun s => s = "some") rfl) ds_nil)) fun ds al => by
        obtain ⟨a, b, rfl, ⟨_, rfl, rfl⟩, ⟨_, rfl, rfl⟩⟩ := al2 al
        rfl) fun d e hd he => ?_)) g4.inv (fun H5 g5 hb5 => ?_) (fun H5 g5 hb5 => ?_)
      · subst hd he
        refine ⟨_, .inl rfl, rfl, rfl, ?_⟩
        cases r <;> simp only [Rw.kd, isOpt] <;> decide
      · obtain ⟨n', os, c', htl', hos, hmost, hfo⟩ := isOpt_of hb5.symm
        obtain ⟨hol, hso⟩ := hos hok
        have g05 := g04.trans g5
        have dt5 := dp_up g5.same dt4
        rw [htl'] at dt5
        have ln : ∀ {H1 : Hp}, Dp K (fa.rg.off H1) v0 (.tuple [.str r.kd, .str n', .list (os.map .str), ocP c']) → EvX fa.rg (tCB (gLenQ K) (tCons (tOp (rIxT K) (tVar 1) (tC (.int 2))) tNil)) [some (.ref F), some v0, some (.int (here : Int)), none, none, none, none, none, none] H1 (Dt K (isI fun i => i = (os.length : Int))) := fun h => x_len (A := fun d => d = .list (os.map .str)) (x_at (j := 1) (n := 2) rfl h rfl rfl) fun d hd => ⟨_, .inl hd, ⟨_, rfl, by rw [List.length_map]⟩⟩
        refine w_when (R := fa.rg) (B := fun b => b = !(decide ((1 : Int) ≤ (os.length : Int)) && decide ((os.length : Int) ≤ mostOf r))) (xt_not (A := fun b => b = (decide ((1 : Int) ≤ (os.length : Int)) && decide ((os.length : Int) ≤ mostOf r))) (xt_test (x_chain (p := fun i j => decide (i ≤ j)) (q := fun i j => decide (i ≤ j)) (x_i rfl) (ln dt5) (x_pick2 (K := K) (k1 := "one") (k2 := "some") (d1 := .int 6) (d2 := .int 4) (P := isI fun i => i = mostOf r) (A := fun s => s = r.kd) (by decide) (fun _ => .int _) (fun _ => .int _) (x_at (j := 1) (n := 0) rfl dt5 rfl ⟨_, rfl, rfl⟩) fun k hk => by
          subst hk
          rcases hmost with ⟨h1, h2⟩ | ⟨h1, h2⟩
          · exact .inl ⟨h1, _, rfl, h2.symm⟩
          · exact .inr ⟨h1, _, rfl, h2.symm⟩))) (fun b hb => by rw [hb])) g5.inv (fun H6 g6 hb6 => ?_) (fun H6 g6 hb6 => ?_)
        · refine w_ret (R := fa.rg) (x_tu (K := K) (P := fun d => d = oF (some (.count "options" os.length))) (ds_cons (x_s (A := fun s => s = "count") rfl) (ds_cons (x_s (A := fun s => s = "options") rfl) (ds_cons (ln (dp_up g6.same dt5)) ds_nil))) fun ds al => by
            obtain ⟨a, b, c, rfl, ⟨_, rfl, rfl⟩, ⟨_, rfl, rfl⟩, ⟨_, rfl, rfl⟩⟩ := al3 al
            rfl) g6.inv fun v H7 g7 hv => fin ((g05.trans g6).trans g7) ?_ hv
          rw [hff, hfo, if_pos]
          rintro ⟨z1, z2⟩
          rw [decide_eq_true (by omega : (1 : Int) ≤ (os.length : Int)), decide_eq_true z2] at hb6
          cases hb6
        have hyes : 1 ≤ os.length ∧ (os.length : Int) ≤ mostOf r := by
          have z : (decide ((1 : Int) ≤ (os.length : Int)) && decide ((os.length : Int) ≤ mostOf r)) = true := by simpa using hb6.symm
          rw [Bool.and_eq_true] at z
          have := of_decide_eq_true z.1
          exact ⟨by omega, of_decide_eq_true z.2⟩
        have g06 := g05.trans g6
        have dt6 := dp_up g6.same dt5
        refine w_asg (R := fa.rg) (x_bads T hol hso rfl (x_at (j := 1) (n := 2) rfl dt6 rfl rfl)) g6.inv fun bv H7 g7 hbv => ?_
        have g07 := g06.trans g7
        have dt7 := dp_up g7.same dt6
        have bl : (badsP os).length ≤ 1000 := by
          unfold badsP
          rw [List.length_map]
          exact Nat.le_trans (List.length_filter_le _ _) hol
        have dl : (dupsP os).length ≤ 1000 := by
          unfold dupsP
          rw [List.length_map]
          exact Nat.le_trans (dupsOf_len _ _) hol
        refine w_asg (R := fa.rg) (D := Dt K (fun d => d = .list (badsP os ++ dupsP os))) (x_catL (A := fun d => d = .list (badsP os)) (B := fun d => d = .list (dupsP os)) (x_var (i := 6) rfl hbv) (x_dups hol rfl rfl dt7) fun d e hd he => ⟨_, _, hd, he, by omega, rfl⟩) g7.inv fun bv2 H8 g8 hbv2 => ?_
        refine w_ret (R := fa.rg) (D := Dt K (fun d => d = oF (optTail os))) (x_ixL (A := fun d => d = .list (badsP os ++ dupsP os ++ [.none])) (N := fun i => i = 0) (x_catL (A := fun d => d = .list (badsP os ++ dupsP os)) (B := fun d => d = .list [.none]) (x_var (i := 6) rfl hbv2) (x_li (ds_cons (x_n (K := K)) ds_nil) fun ds al => by
          cases al with
          | cons h1 t => cases t; subst h1; rfl) fun d e hd he => ⟨_, _, hd, he, by rw [List.length_append]; simp; omega, rfl⟩) (x_i rfl) fun d i hd hi => by
            subst hi
            exact ⟨_, _, hd, atI_nat (j := 0) (opt_tail os), rfl⟩) g8.inv fun v H9 g9 hv => fin ((g07.trans g8).trans g9) ?_ hv
        rw [hff, hfo, if_neg (fun z => z hyes)]
      · refine s_ret ev_c fun H6 e6 => q _ H6 (Same.trans (still_same (g04.trans g5)) e6) ?_
        rw [hff, fieldFault_none hb4.symm hb5.symm]
        exact .non
end SF
namespace SF
open PySem PySem.Spec PyProof.Rows L2 GK Evl LamX
variable {P : Program} {w : World} {K : PySem.W.Frag} {mg : Str → Option Value} {base : Heap}
/-! ### what is kept, by the law -/
theorem w_whenAsg {R : Rg} {σ : L2.St} {H : Hp} {t : TT} {te : TE} {D : Pd} {E : Ends} {tz : TS} {i : Nat} {B : Bool → Prop} {v : V} (h : EvXT R t σ H B) (hI : R.I H) (h1 : ∀ H1, Go R H H1 → B true → EvX R te σ H1 D) (hv : σ[i]? = some (some v)) (h2 : ∀ H1, Go R H H1 → B false → D.p (R.off H1) v)
    (k : ∀ v H1, Go R H H1 → D.p (R.off H1) v → tz E (σ.set i (some v)) H1) : tSeq (tIfS t (tAsg te (gName i)) tNext) tz E σ H := by
  refine w_when h hI (fun H1 g1 hb => ?_) (fun H1 g1 hb => ?_)
  · exact w_asg1 (E := { E with nx := tz E }) (h1 H1 g1 hb) g1.inv fun v H2 g2 hv => k v H2 (g1.trans g2) hv
  · have z := k v H1 g1 (h2 H1 g1 hb)
    have e : σ.set i (some v) = σ := by
      obtain ⟨lt, es⟩ := List.getElem?_eq_some_iff.mp hv
      rw [← es]
      exact List.set_getElem_self lt
    rw [e] at z
    exact z
section
variable {S : List Addr} {H H1 : Hp} {F nl kd : Addr} {st : Stt} {kvs : List (Key × V)} {σ : L2.St} {i j : Nat} {n : Str} {te : TE}
theorem FAt.rounds (h : FAt K S H F nl kd st kvs) {Q : VK} (hi : σ[i]? = some (some (.ref F))) (q : Q (.int (st.rounds : Int)) H) : tDGet (tVar i) (tC (.str "rounds")) σ H Q := by
  refine ⟨.ref F, hi, F, .int (st.rounds : Int), rfl, ?_, q⟩
  have n1 : ("names" : Str) ≠ "rounds" := by decide
  have n2 : ("known" : Str) ≠ "rounds" := by decide
  have k1 : ¬ ((Sum.inr ("names" : Str) : Key), V.ref nl).1 = Sum.inr ("rounds" : Str) := fun z => n1 (Sum.inr.inj z)
  have k2 : ¬ ((Sum.inr ("known" : Str) : Key), V.ref kd).1 = Sum.inr ("rounds" : Str) := fun z => n2 (Sum.inr.inj z)
  have z := DGet.k (k := (Sum.inr ("rounds" : Str) : Key)) h.atF
  rw [valV_neg k1, valV_neg k2, valV_pos rfl] at z
  exact z
theorem FAt.names (h : FAt K S H F nl kd st kvs) {Q : VK} (hi : σ[i]? = some (some (.ref F))) (q : Q (.ref nl) H) : tDGet (tVar i) (tC (.str "names")) σ H Q := by
  refine ⟨.ref F, hi, F, .ref nl, rfl, ?_, q⟩
  have z := DGet.k (k := (Sum.inr ("names" : Str) : Key)) h.atF
  rw [valV_pos rfl] at z
  exact z
theorem FAt.app (h : FAt K S H F nl kd st kvs) (n : Str) : FAt K S (upd H nl (.lst (st.named.map V.str ++ [.str n]))) F nl kd { st with named := st.named ++ [n] } kvs where
  mF := h.mF
  mn := h.mn
  mk_ := h.mk_
  n1 := h.n1
  n2 := h.n2
  n3 := h.n3
  dm := fun a ha => by
    by_cases e : a = nl
    · exact ⟨_, by rw [e]; exact upd_same⟩
    · obtain ⟨o, ho⟩ := h.dm a ha; exact ⟨o, by rw [upd_ne e]; exact ho⟩
  atF := by rw [upd_ne h.n1]; exact h.atF
  atn := by rw [upd_same, List.map_append]; rfl
  atk := by rw [upd_ne h.n3.symm]; exact h.atk
  pr := by rw [offS_upd h.mn]; exact h.pr
theorem FAt.wk (h : FAt K S H F nl kd st kvs) {H0 H' : Hp} (e : Same (offS [F, nl, kd] H0) (offS [F, nl, kd] H')) : Same (offS S H0) (offS S H') := fun c o z => by
  obtain ⟨h1, h2⟩ := offS_some.mp z
  refine offS_some.mpr ⟨h1, (offS_some.mp (e c o (offS_some.mpr ⟨fun m => ?_, h2⟩))).2⟩
  simp only [List.mem_cons, List.not_mem_nil, or_false] at m
  rcases m with rfl | rfl | rfl
  · exact h1 h.mF
  · exact h1 h.mn
  · exact h1 h.mk_
theorem FAt.new (h : FAt K S H F nl kd st kvs) (ok : SttOk st) (hn : n ∉ st.named) : valV kvs (Sum.inr n) = none := by
  rcases askd_get (n := n) h.pr with ⟨_, z⟩ | ⟨r', k', v, z1, _, _⟩
  · exact z
  · rw [getA_none fun a ha e => hn (by rw [← e]; exact ok.sub a ha)] at z1
    cases z1
theorem FAt.put (h : FAt K S H F nl kd st kvs) {v : V} {r : Rw} {here : Nat} (hn : valV kvs (Sum.inr n) = none) (hv : Dp K (offS S H) v (.tuple [r.py, .int (here : Int)])) : FAt K S (upd H kd (.dK (putK kvs (Sum.inr n) v))) F nl kd { st with asked := st.asked ++ [(n, r, here)] } (kvs ++ [(Sum.inr n, v)]) where
  mF := h.mF
  mn := h.mn
  mk_ := h.mk_
  n1 := h.n1
  n2 := h.n2
  n3 := h.n3
  dm := fun a ha => by
    by_cases e : a = kd
    · exact ⟨_, by rw [e]; exact upd_same⟩
    · obtain ⟨o, ho⟩ := h.dm a ha; exact ⟨o, by rw [upd_ne e]; exact ho⟩
  atF := by rw [upd_ne h.n2]; exact h.atF
  atn := by rw [upd_ne h.n3]; exact h.atn
  atk := by rw [upd_same, put_end hn]
  pr := by rw [offS_upd h.mk_]; exact pd_app' h.pr (.cons ⟨rfl, hv⟩ .nil)
theorem FAt.round (h : FAt K S H F nl kd st kvs) : FAt K S (upd H F (.dK (putK [((Sum.inr "names" : Key), V.ref nl), (Sum.inr "known", .ref kd), (Sum.inr "rounds", .int (st.rounds : Int))] (Sum.inr "rounds") (.int ((st.rounds : Int) + 1))))) F nl kd { st with rounds := st.rounds + 1 } kvs where
  mF := h.mF
  mn := h.mn
  mk_ := h.mk_
  n1 := h.n1
  n2 := h.n2
  n3 := h.n3
  dm := fun a ha => by
    by_cases e : a = F
    · exact ⟨_, by rw [e]; exact upd_same⟩
    · obtain ⟨o, ho⟩ := h.dm a ha; exact ⟨o, by rw [upd_ne e]; exact ho⟩
  atF := by
    have n1 : ("names" : Str) ≠ "rounds" := by decide
    have n2 : ("known" : Str) ≠ "rounds" := by decide
    have k1 : ¬ (Sum.inr ("names" : Str) : Key) = Sum.inr ("rounds" : Str) := fun z => n1 (Sum.inr.inj z)
    have k2 : ¬ (Sum.inr ("known" : Str) : Key) = Sum.inr ("rounds" : Str) := fun z => n2 (Sum.inr.inj z)
    rw [upd_same]
    simp [putK, k1, k2]
  atn := by rw [upd_ne h.n1.symm]; exact h.atn
  atk := by rw [upd_ne h.n2.symm]; exact h.atk
  pr := by rw [offS_upd h.mF]; exact h.pr
end
theorem Rw.kd_check {r : Rw} (h : r.kd = "check") : ∃ n m c, r = .check n m c := by
  cases r with
  | check n m c => exact ⟨_, _, _, rfl⟩
  | one => exact absurd (show ("one" : Str) = "check" from h) (by decide)
  | som => exact absurd (show ("some" : Str) = "check" from h) (by decide)
  | number => exact absurd (show ("number" : Str) = "check" from h) (by decide)
  | rnd => exact absurd (show ("rounds" : Str) = "check" from h) (by decide)
  | sec => exact absurd (show ("section" : Str) = "check" from h) (by decide)
def mustL (r : Rw) : List (Option Cnd) := match r with | .check _ m _ => [some m] | _ => []
theorem mustL_no {r : Rw} (h : r.kd ≠ "check") : mustL r = [] := by
  cases r with
  | check n m c => exact absurd rfl h
  | one => rfl
  | som => rfl
  | number => rfl
  | rnd => rfl
  | sec => rfl
theorem mustL_len (r : Rw) : (mustL r).length ≤ 1 := by cases r <;> simp [mustL]
theorem mustL_ok {r : Rw} (h : r.ok) : ∀ c ∈ mustL r, ocOk c := by
  cases r with
  | check n m c => intro x hx; simp only [mustL, List.mem_singleton] at hx; subst hx; exact ⟨h.2.1, h.2.2.1⟩
  | one => intro x hx; cases hx
  | som => intro x hx; cases hx
  | number => intro x hx; cases hx
  | rnd => intro x hx; cases hx
  | sec => intro x hx; cases hx
theorem atF_conds (st : Stt) (here : Nat) (r : Rw) (h : headFault st here r = none) : atFault st here r = condsFault st here (r.wh :: mustL r) := by
  unfold atFault
  rw [h]
  exact condsF_eq st here r
theorem atF_head {st : Stt} {here : Nat} {r : Rw} {f : Fault} (h : headFault st here r = some f) : atFault st here r = some f := by
  unfold atFault
  rw [h]
theorem isNon_oF (o : Option Fault) : isNon (oF o) = o.isNone := by
  cases o with
  | none => rfl
  | some f => cases f <;> rfl
abbrev R0 (H : Hp) : Rg := still [] H (fun _ h => nomatch h)
/-! ### _law_amiss -/
def spAmiss (K : PySem.W.Frag) (m : Nat) (go : Stt → List Rw → Nat → Except Fault Stt) : Sp := fun vs H Q _ => ∃ (S : List Addr) (F nl kd : Addr) (st : Stt) (kvs : List (Key × V)) (rows : List Rw) (v : V) (here : Nat), vs = [.ref F, v, .int (here : Int)] ∧ FAt K S H F nl kd st kvs ∧ Dp K (offS S H) v (.list (rowsP rows)) ∧ (∀ r ∈ rows, r.ok ∧ r.dep < m) ∧ m ≤ 15 ∧ SttOk st ∧ st.named.length + cnts rows ≤ 90000 ∧
  (∀ st' kvs' H', go st rows here = .ok st' → Same (offS [F, nl, kd] H) (offS [F, nl, kd] H') → FAt K S H' F nl kd st' kvs' → Q .non H') ∧ (∀ f v H', go st rows here = .error f → Same (offS [F, nl, kd] H) (offS [F, nl, kd] H') → Dp K (offS S H') v f.py → Q v H')
abbrev sp__law_amiss (T : Txt K mg) (m : Nat) : Sp := spAmiss K m (looks m)
theorem at_neg1 {α : Type} (xs : List α) (x : α) : atI (xs ++ [x]) (-1) = some x := by
  unfold atI ixN
  rw [if_neg (by decide), if_pos (by simp; omega)]
  have : (-1 + ((xs ++ [x]).length : Int)).toNat = xs.length := by rw [List.length_append]; simp; omega
  simp only [Option.bind_some, this]
  rw [List.getElem?_append_right (Nat.le_refl _), Nat.sub_self]
  rfl
theorem amiss_body (T : Txt K mg) (sp' : Sp) (k m : Nat) (go : Stt → List Rw → Nat → Except Fault Stt) (G__law_amiss : FnOk P w K mg base CX0 (k + 6) T.a__law_amiss T.d__law_amiss ["_law_f", "_law_rows_here", "_law_here"] sp')
    (hgo : ∀ st rows h st', SttOk st → go st rows h = .ok st' → SttOk st' ∧ st'.named.length ≤ st.named.length + cnts rows)
    (hc : ∀ m', m = m' + 1 → ∀ vs H Q E, spAmiss K m' go vs H Q E → sp' vs H Q E) : FnOk P w K mg base CX0 (k + 7) T.a__law_amiss T.d__law_amiss ["_law_f", "_law_rows_here", "_law_here"] (spAmiss K m (fun st rows here => looksL go here st rows)) := by
  have G__law_fields_amiss : FnOk P w K mg base CX0 2 T.a__law_fields_amiss T.d__law_fields_amiss ["_law_f", "_law_row", "_law_here"] (sp__law_fields_amiss T) := ok__law_fields_amiss T
  have G__law_conditions_amiss : FnOk P w K mg base CX0 6 T.a__law_conditions_amiss T.d__law_conditions_amiss ["_law_f", "_law_conds", "_law_here"] (sp__law_conditions_amiss T) := ok__law_conditions_amiss T
  refine T.F__law_amiss.ok sc__law_amiss (fun vs H Q E h => ?_) (fun cdv A outer s H vs Q E hr h => ?_)
  · obtain ⟨S, F, nl, kd, st, kvs, rows, v, here, rfl, _⟩ := h
    rfl
  · obtain ⟨S, F, nl, kd, st, kvs, rows, v0, here, rfl, fa, hv0, hrows, hm, ok, hz, kok, kno⟩ := h
    refine ⟨(tSeq (tFor (iList K (tVar 1)) (gName 3)
  (tSeq (tAsg (tCall (sp__law_fields_amiss T) [] E0 (tCons (tVar 0) (tCons (tVar 3) (tCons (tVar 2) tNil)))) (gName 4))
  (tSeq (tAsg (tIf (tTest (tOp rEq (tOp (rIxT K) (tVar 3) (tC (.int 0))) (tC (.str "check")))) (tLst (tCons (tOp (rIxT K) (tVar 3) (tC (.int 2))) tNil)) (tLst tNil)) (gName 5))
  (tSeq (tIfS (tTest (tOp rIsN (tVar 4) (tC .non))) (tAsg (tCall (sp__law_conditions_amiss T) [] E0 (tCons (tVar 0) (tCons (tOp (rCatS K) (tLst (tCons (tOp (rIxT K) (tVar 3) (tUn (rU fun i => .int (-i)) (tC (.int 1)))) tNil)) (tVar 5)) (tCons (tVar 2) tNil)))) (gName 4)) tNext)
  (tSeq (tIfS (tTest (tOp rNotN (tVar 4) (tC .non))) (tRet (tVar 4)) tNext)
  (tSeq (tAsg (tVar 2) (gName 6))
  (tSeq (tIfS (tTest (tOp rEq (tOp (rIxT K) (tVar 3) (tC (.int 0))) (tC (.str "rounds")))) (tSeq (sDPut (tVar 0) (tC (.str "rounds")) (tOp (rI0 fun i j => .int (i + j)) (tDGet (tVar 0) (tC (.str "rounds"))) (tC (.int 1))))
  (tAsg (tDGet (tVar 0) (tC (.str "rounds"))) (gName 6))) tNext)
  (tIfS (tTest (tOp (rIn K false) (tOp (rIxT K) (tVar 3) (tC (.int 0))) (tLst (tCons (tC (.str "section")) (tCons (tC (.str "rounds")) tNil))))) (tSeq (tAsg (tCall sp' [] E0 (tCons (tVar 0) (tCons (tOp (rIxT K) (tVar 3) (tUn (rU fun i => .int (-i)) (tC (.int 2)))) (tCons (tVar 6) tNil)))) (gName 4))
  (tIfS (tTest (tOp rNotN (tVar 4) (tC .non))) (tRet (tVar 4)) tNext)) (tSeq (tDrop (tBM K "list" rAppend (tDGet (tVar 0) (tC (.str "names"))) (tCons (tOp (rIxT K) (tVar 3) (tC (.int 1))) tNil)))
  (tIfS (tTest (tOp rNe (tOp (rIxT K) (tVar 3) (tC (.int 0))) (tC (.str "check")))) (sDPut (tDGet (tVar 0) (tC (.str "known"))) (tOp (rIxT K) (tVar 3) (tC (.int 1))) (tTup (tCons (tVar 3) (tCons (tVar 2) tNil)))) tNext))))))))))
  (tRet (tC .non))),
(pss_cons (ps_for PassesOwn.never rfl (pi_list (pv 1)) (pg_name (i := 3) sc__law_amiss.nd rfl (.inl rfl))
  (pss_cons (ps_set (i := 4) sc__law_amiss.nd rfl (.inl rfl) (pe_call (G__law_fields_amiss.mono (by omega)) hr (by rfl) T.g__law_fields_amiss T.F__law_fields_amiss.kp T.b__law_fields_amiss .nil pass0 (pa_cons (pv 0) (pa_cons (pv 3) (pa_cons (pv 2) pa_nil)))))
  (pss_cons (ps_set (i := 5) sc__law_amiss.nd rfl (.inl rfl) (pe_ifExp (pt_cmpR op_eq (pe_ix ix_tup (pv 3) pe_int (fun _ _ => rfl)) pe_str (nomark _)) (pe_lst (pa_cons (pe_ix ix_tup (pv 3) pe_int (fun _ _ => rfl)) pa_nil)) (pe_lst pa_nil)))
  (pss_cons (ps_if (pt_cmpR op_isN1 (pv 4) pe_non (nomark _)) (pss_one (ps_set (i := 4) sc__law_amiss.nd rfl (.inl rfl) (pe_call (G__law_conditions_amiss.mono (by omega)) hr (by rfl) T.g__law_conditions_amiss T.F__law_conditions_amiss.kp T.b__law_conditions_amiss .nil pass0 (pa_cons (pv 0) (pa_cons (pe_op op_catS (pe_lst (pa_cons (pe_ix ix_tup (pv 3) (pe_un un_neg pe_int) (fun _ _ => rfl)) pa_nil)) (pv 5)) (pa_cons (pv 2) pa_nil)))))) pss_nil)
  (pss_cons (ps_if (pt_cmpR op_notN1 (pv 4) pe_non (nomark _)) (pss_one (ps_ret (pv 4))) pss_nil)
  (pss_cons (ps_set (i := 6) sc__law_amiss.nd rfl (.inl rfl) (pv 2))
  (pss_cons (ps_if (pt_cmpR op_eq (pe_ix ix_tup (pv 3) pe_int (fun _ _ => rfl)) pe_str (nomark _)) (pss_cons (ps_dput (hu_of hr) (pv 0) pe_str (pe_op op_add (pe_dget (hu_of hr) (pv 0) pe_str (fun _ _ => rfl)) pe_int) rfl)
  (pss_one (ps_set (i := 6) sc__law_amiss.nd rfl (.inl rfl) (pe_dget (hu_of hr) (pv 0) pe_str (fun _ _ => rfl))))) pss_nil)
  (pss_one (ps_if (pt_cmpR op_in_seq (pe_ix ix_tup (pv 3) pe_int (fun _ _ => rfl)) (pe_lst (pa_cons pe_str (pa_cons pe_str pa_nil))) (by rfl)) (pss_cons (ps_set (i := 4) sc__law_amiss.nd rfl (.inl rfl) (pe_call (G__law_amiss.mono (by omega)) hr (by rfl) T.g__law_amiss T.F__law_amiss.kp T.b__law_amiss .nil pass0 (pa_cons (pv 0) (pa_cons (pe_ix ix_tup (pv 3) (pe_un un_neg pe_int) (fun _ _ => rfl)) (pa_cons (pv 6) pa_nil)))))
  (pss_one (ps_if (pt_cmpR op_notN1 (pv 4) pe_non (nomark _)) (pss_one (ps_ret (pv 4))) pss_nil))) (pss_cons (ps_expr (pe_bm PySem.F.plainAttrs_list PySem.F.slot_list_append PySem.F.type_list_append mt_append (pe_dget (hu_of hr) (pv 0) pe_str (fun _ _ => rfl)) (pa_cons (pe_ix ix_tup (pv 3) pe_int (fun _ _ => rfl)) pa_nil)))
  (pss_one (ps_if (pt_cmpR op_ne (pe_ix ix_tup (pv 3) pe_int (fun _ _ => rfl)) pe_str (nomark _)) (pss_one (ps_dput (hu_of hr) (pe_dget (hu_of hr) (pv 0) pe_str (fun _ _ => rfl)) (pe_ix ix_tup (pv 3) pe_int (fun _ _ => rfl)) (pe_tup (pa_cons (pv 3) (pa_cons (pv 2) pa_nil))) rfl)) pss_nil))))))))))))
  (pss_one (ps_ret pe_non))), ?_⟩
    obtain ⟨a, xs, rfl, hs, hxs⟩ := dp_lst hv0
    refine q_seq ?_
    refine ⟨.ref a, rfl, a, rfl, ⟨xs, sq_mono (offS_same _ _) hs⟩, ?_⟩
    let Pv : Nat → L2.St → Hp → Prop := fun i σ' H' => ∃ st1 kvs1, looksL go here st (rows.take i) = .ok st1 ∧ Same (offS [F, nl, kd] H) (offS [F, nl, kd] H') ∧ FAt K S H' F nl kd st1 kvs1 ∧ ∃ y3 y4 y5 y6 : Option V, σ' = [some (.ref F), some (.ref a), some (.int (here : Int)), y3, y4, y5, y6]
    refine for_list (K := K) (a := a) (xs := xs) Pv ⟨st, kvs, rfl, Same.refl _, fa, _, _, _, _, rfl⟩ (fun i σ' H' _ ⟨_, _, _, e, _⟩ => sq_mono ((fa.wk e).trans (offS_same _ _)) hs) (fun i x σ' H' hx p => ?_) (fun σ' H' p => ?_)
    · obtain ⟨st1, kvs1, hl1, e, fa1, y3, y4, y5, y6, rfl⟩ := p
      obtain ⟨d, hdi, hdx⟩ := dpAll_getV (dpAll_up (fa.wk e) hxs) hx
      rw [rowsP_map, List.getElem?_map] at hdi
      obtain ⟨r, hri, rfl⟩ := Option.map_eq_some_iff.mp hdi
      have mem := List.mem_of_getElem? hri
      obtain ⟨rok, rdep⟩ := hrows r mem
      obtain ⟨ok1, hz1⟩ := looksL_ok hgo ok hl1
      have hsp := cnts_split hri
      have nx := looksL_at hri hl1
      have rc := cnt_pos r
      have bad : ∀ {f : Fault} {v : V} {H3 : Hp}, step go here st1 r = .error f → Same (offS [F, nl, kd] H') (offS [F, nl, kd] H3) → Dp K (offS S H3) v f.py → Q v H3 := fun {f v H3} hf s3 dp => kno f v H3 (nx.1 f hf) (e.trans s3) dp
      have I0 : fa1.rg.I H' := still_refl
      refine w_asg (R := fa1.rg) (D := Dt K (fun d => d = oF (headFault st1 here r))) (fun H2 g2 Q' q' => ⟨.ref F, rfl, x, rfl, .int (here : Int), rfl, S, F, nl, kd, st1, kvs1, r, x, here, rfl, fa1.go g2, dp_up g2.same hdx, rok, by omega, fun v H3 e3 dp => q' v H3 (Go.of g2.inv e3) ⟨_, rfl, dp⟩⟩) I0 fun fv H2 g2 ⟨fd, hfd, fdp⟩ => ?_
      subst hfd
      have d2 := dp_up g2.same hdx
      have dt2 := d2
      rw [Rw.py_tl] at dt2
      refine w_asg (R := fa1.rg) (D := Dt K (fun d => d = .list ((mustL r).map ocP))) (x_if (B := fun b => b = decide (r.kd = "check")) (xt_test (x_eqS (K := K) (A := fun s => s = r.kd) (B := fun s => s = "check") (x_at (j := 3) (n := 0) rfl dt2 rfl ⟨_, rfl, rfl⟩) (x_s rfl) fun a b ha hb => by rw [ha, hb])) (fun hb => ?_) (fun hb => ?_)) g2.inv fun mv H3 g3 ⟨md, hmd, mdp⟩ => ?_
      · obtain ⟨n, m', c, rfl⟩ := Rw.kd_check (of_decide_eq_true hb.symm)
        exact x_li (ds_cons (x_at (K := K) (P := fun d => d = m'.py) (j := 3) (n := 2) rfl dt2 rfl rfl) ds_nil) fun ds al => by
          cases al with
          | cons h1 t => cases t; subst h1; rfl
      · exact x_li ds_nil fun ds al => by
          cases al
          rw [mustL_no (of_decide_eq_false hb.symm)]
          rfl
      subst hmd
      have g03 := g2.trans g3
      have f3 := dp_up g3.same fdp
      have d3 := dp_up g03.same hdx
      refine w_whenAsg (R := fa1.rg) (i := 4) (v := fv) (B := fun b => b = (headFault st1 here r).isNone) (D := Dt K (fun d => d = oF (atFault st1 here r))) (xt_test (x_isN (K := K) (A := fun d => d = oF (headFault st1 here r)) (x_d (i := 4) rfl f3 rfl) fun d hd => by rw [hd, isNon_oF])) g3.inv (fun H4 g4 hb => ?_) rfl (fun H4 g4 hb => ?_) fun av H4 g4 ⟨ad, had, adp⟩ => ?_
      · have hhf : headFault st1 here r = none := by
          cases z : headFault st1 here r with
          | none => rfl
          | some f => rw [z] at hb; cases hb
        have d4 := dp_up g4.same d3
        rw [Rw.py_mid] at d4
        have m4 := dp_up g4.same mdp
        rw [atF_conds st1 here r hhf]
        intro H5 g5 Q' q'
        refine ⟨.ref F, rfl, x_catL (K := K) (P := fun d => d = .list ((r.wh :: mustL r).map ocP)) (A := fun d => d = .list [ocP r.wh]) (B := fun d => d = .list ((mustL r).map ocP)) (x_li (ds_cons (x_ixT (K := K) (P := fun d => d = ocP r.wh) (A := fun d => d = .tuple ((.str r.kd :: r.mid) ++ [ocP r.wh])) (N := fun i => i = -1) (x_d (i := 3) rfl d4 rfl) (x_neg (K := K) (A := fun i => i = 1) (x_i rfl) fun i hi => ⟨_, rfl, by rw [hi]⟩) fun d i hd hi => by subst hi; exact ⟨_, _, hd, at_neg1 _ _, rfl⟩) ds_nil) fun ds al => by
          cases al with
          | cons h1 t => cases t; subst h1; rfl) (x_d (i := 5) rfl m4 rfl) (fun d e hd he => ⟨_, _, hd, he, by rw [List.length_map]; have := mustL_len r; simp only [List.length_cons, List.length_nil]; omega, rfl⟩) H5 g5 _ fun cv H6 g6 ⟨cd, hcd, cdp⟩ => ⟨.int (here : Int), rfl, S, F, nl, kd, st1, kvs1, r.wh :: mustL r, cv, here, rfl, fa1.go (((g03.trans g4).trans g5).trans g6), by rw [← hcd]; exact cdp, fun c hc => ?_, fun v H7 e7 dp => q' v H7 (g6.trans (Go.of g6.inv e7)) ⟨_, rfl, dp⟩⟩⟩
        rcases List.mem_cons.mp hc with z | z
        · subst z; exact Rw.wh_ok rok
        · exact mustL_ok rok c z
      · cases z : headFault st1 here r with
        | none => rw [z] at hb; cases hb
        | some f =>
          refine ⟨_, rfl, ?_⟩
          rw [atF_head z, ← z]
          exact dp_up g4.same f3
      subst had
      have g04 := g03.trans g4
      refine w_when (R := fa1.rg) (B := fun b => b = !(atFault st1 here r).isNone) (xt_test (x_notN (K := K) (A := fun d => d = oF (atFault st1 here r)) (x_d (i := 4) rfl adp rfl) fun d hd => by rw [hd, isNon_oF])) g4.inv (fun H5 g5 hb => ?_) (fun H5 g5 hb => ?_)
      · cases z : atFault st1 here r with
        | none => rw [z] at hb; cases hb
        | some f =>
          rw [z] at adp
          refine s_ret (ev_var rfl) fun H6 e6 => ?_
          exact bad (by unfold step; rw [z]) (offS_mono ((still_same (g04.trans g5)).trans e6)) (dp_up (g5.same.trans (offS_mono e6)) adp)
      have haf : atFault st1 here r = none := by
        cases z : atFault st1 here r with
        | none => rfl
        | some f => rw [z] at hb; cases hb
      have hhf : headFault st1 here r = none := by
        cases z : headFault st1 here r with
        | none => rfl
        | some f => rw [atF_head z] at haf; cases haf
      have g05 := g04.trans g5
      refine w_asg (R := fa1.rg) (D := Dt K (isI fun i => i = (here : Int))) (x_vi (i := 2) rfl rfl) g5.inv fun hv H6 g6 hhv => ?_
      obtain ⟨_, rfl, rfl⟩ := dp_int_of hhv
      have g06 := g05.trans g6
      have d6 := dp_up g06.same hdx
      have dt6 := d6
      rw [Rw.py_tl] at dt6
      have fa6 := fa1.go g06
      -- the rows within
      have call : ∀ (H4 : Hp) (st2 : Stt) (kvs2 : List (Key × V)) (inside : Nat) (inn : List Rw) (D : Ends), r.inn = some inn → Same (offS [F, nl, kd] H') (offS [F, nl, kd] H4) → FAt K S H4 F nl kd st2 kvs2 → SttOk st2 → st2.named.length = st1.named.length → step go here st1 r = go st2 inn inside → D.nx = Pv (i + 1) → D.rt = Q →
          (tSeq (tAsg (tCall sp' [] E0 (tCons (tVar 0) (tCons (tOp (rIxT K) (tVar 3) (tUn (rU fun i => .int (-i)) (tC (.int 2)))) (tCons (tVar 6) tNil)))) (gName 4))
            (tIfS (tTest (tOp rNotN (tVar 4) (tC .non))) (tRet (tVar 4)) tNext)) D [some (.ref F), some (.ref a), some (.int (here : Int)), some x, some av, some mv, some (.int (inside : Int))] H4 := fun H4 st2 kvs2 inside inn D hinn s4 fa4 ok2 hn2 hst hD hR => by
        obtain ⟨pre, hI', _⟩ := Rw.inn_of hinn
        have I4 : fa4.rg.I H4 := still_refl
        have d4 : Dp K (fa4.rg.off H4) x r.py := dp_up (fa1.wk s4) hdx
        have hcn : cnts inn + 1 = r.cnt ∧ (∀ q ∈ inn, q.ok ∧ q.dep + 1 ≤ r.dep) := by
          cases r <;> simp only [Rw.inn, Option.some.injEq, reduceCtorEq] at hinn <;> subst hinn
          · exact ⟨by simp only [Rw.cnt], fun q hq => ⟨rowsOk_iff.mp rok.1 q hq, by simp only [Rw.dep]; have := deps_mem hq; omega⟩⟩
          · exact ⟨by simp only [Rw.cnt], fun q hq => ⟨rowsOk_iff.mp rok.2.1 q hq, by simp only [Rw.dep]; have := deps_mem hq; omega⟩⟩
        obtain ⟨m', rfl⟩ := Nat.exists_eq_succ_of_ne_zero (show m ≠ 0 by omega)
        refine ⟨.ref F, rfl, (x_m2 (P := fun d => d = .list (rowsP inn)) (j := 3) rfl d4 hI' rfl) H4 (Go.refl I4) _ fun iv H5 g5 ⟨id', hid, idp⟩ => ⟨.int (inside : Int), rfl, hc m' rfl _ _ _ _ ⟨S, F, nl, kd, st2, kvs2, inn, iv, inside, rfl, fa4.go g5, by rw [← hid]; exact idp, fun q hq => ⟨(hcn.2 q hq).1, by have := (hcn.2 q hq).2; omega⟩, by omega, ok2, by omega, fun st' kvs' H6 hgo' s6 fa6 => ?_, fun f v H6 hf s6 dp6 => ?_⟩⟩⟩
        · refine w_when1 (R := R0 H6) (B := fun b => b = false) (xt_test (x_notN (K := K) (A := fun d => d = .none) (x_d (i := 4) rfl .non rfl) fun d hd => by rw [hd]; rfl)) still_refl (fun H7 g7 hb => by cases hb) (fun H7 g7 _ => ?_)
          rw [hD]
          exact ⟨st', kvs', nx.2 st' (by rw [hst]; exact hgo'), ((e.trans s4).trans ((offS_mono (still_same g5)).trans s6)).trans (offS_mono (still_same g7)), fa6.up (still_same g7), _, _, _, _, rfl⟩
        · refine w_when1 (R := R0 H6) (B := fun b => b = true) (xt_test (x_notN (K := K) (A := fun d => d = f.py) (x_d (i := 4) rfl (dp_up (fun a o h => offS_some.mpr ⟨List.not_mem_nil, (offS_some.mp h).2⟩) dp6) rfl) fun d hd => by rw [hd]; cases f <;> rfl)) still_refl (fun H7 g7 _ => ?_) (fun H7 g7 hb => by cases hb)
          refine s_ret (ev_var rfl) fun H8 e8 => ?_
          rw [hR]
          have e68 := (still_same g7).trans e8
          exact bad (by rw [hst]; exact hf) (s4.trans ((offS_mono (still_same g5)).trans (s6.trans (offS_mono e68)))) (dp_up (offS_mono e68) dp6)
      have tR : ∀ {H1 : Hp} {y : Option V}, Dp K (fa1.rg.off H1) x (.tuple (.str r.kd :: r.tl)) → EvXT fa1.rg (tTest (tOp rEq (tOp (rIxT K) (tVar 3) (tC (.int 0))) (tC (.str "rounds")))) [some (.ref F), some (.ref a), some (.int (here : Int)), some x, some av, some mv, y] H1 (fun b => b = decide (r.kd = "rounds")) := fun h => xt_test (x_eqS (K := K) (A := fun s => s = r.kd) (B := fun s => s = "rounds") (x_at (j := 3) (n := 0) rfl h rfl ⟨_, rfl, rfl⟩) (x_s rfl) fun a b ha hb => by rw [ha, hb])
      refine w_when (R := fa1.rg) (tR dt6) g6.inv (fun H7 g7 hb => ?_) (fun H7 g7 hb => ?_)
      · obtain ⟨n, inn, c, rfl⟩ := Rw.kd_rnd (of_decide_eq_true hb.symm)
        have g07 := g06.trans g7
        have fa7 := fa1.go g07
        refine q_seq ?_
        refine fa7.rounds (i := 0) rfl ⟨_, _, rfl, rfl, .ref F, rfl, F, _, rfl, DPut.k (k := (Sum.inr ("rounds" : Str) : Key)) fa7.atF (show 3 < sizeLine by decide), ?_⟩
        have fa8 := fa7.round
        have s78 : Same (offS [F, nl, kd] H7) (offS [F, nl, kd] (upd H7 F (.dK (putK [((Sum.inr "names" : Key), V.ref nl), (Sum.inr "known", .ref kd), (Sum.inr "rounds", .int (st1.rounds : Int))] (Sum.inr "rounds") (.int ((st1.rounds : Int) + 1)))))) := by
          rw [offS_upd (by simp)]
          exact Same.refl _
        generalize upd H7 F (.dK (putK [((Sum.inr "names" : Key), V.ref nl), (Sum.inr "known", .ref kd), (Sum.inr "rounds", .int (st1.rounds : Int))] (Sum.inr "rounds") (.int ((st1.rounds : Int) + 1)))) = H8 at fa8 s78 ⊢
        refine fa8.rounds (i := 0) rfl ?_
        refine w_if1 (R := fa8.rg) (xt_isInn (j := 3) rfl (dp_up (g07.same.trans (fa1.wk s78)) hdx)) still_refl (fun H9 g9 hb9 => ?_) (fun H9 g9 hb9 => by cases hb9)
        exact call H9 { st1 with rounds := st1.rounds + 1 } kvs1 (st1.rounds + 1) inn _ rfl (((offS_mono (still_same g07)).trans s78).trans (offS_mono (still_same g9))) (fa8.go g9) ⟨ok1.nd, ok1.sub, ok1.le⟩ rfl (by unfold step; rw [haf]) rfl rfl
      · have g07 := g06.trans g7
        have d7 := dp_up g07.same hdx
        refine w_if1 (R := fa1.rg) (xt_isInn (j := 3) rfl d7) g7.inv (fun H8 g8 hb8 => ?_) (fun H8 g8 hb8 => ?_)
        · obtain ⟨inn, hinn⟩ := Option.isSome_iff_exists.mp hb8.symm
          have hst : step go here st1 r = go st1 inn here := by
            unfold step
            rw [haf]
            cases r with
            | sec rows c => cases hinn; rfl
            | rnd n rows c => exact absurd rfl (of_decide_eq_false hb.symm)
            | one => cases hinn
            | som => cases hinn
            | number => cases hinn
            | check => cases hinn
          exact call H8 st1 kvs1 here inn _ hinn (offS_mono (still_same (g07.trans g8))) (fa1.go (g07.trans g8)) ok1 rfl hst rfl rfl
        · have hnone : r.inn = none := by
            cases z : r.inn with
            | none => rfl
            | some y => rw [z] at hb8; cases hb8
          obtain ⟨n, tl, hleaf, htl, hhead, hnok⟩ := Rw.leaf_of hnone
          have hnew : n ∉ st1.named := by
            intro z
            rw [hhead] at hhf
            unfold leafFault at hhf
            by_cases y : isName n = false
            · rw [if_pos y] at hhf; cases hhf
            · rw [if_neg y, if_pos z] at hhf; cases hhf
          have hst : step go here st1 r = .ok (keep st1 here r) := by
            unfold step
            rw [haf]
            cases r with
            | sec rows c => cases hnone
            | rnd n rows c => cases hnone
            | one => rfl
            | som => rfl
            | number => rfl
            | check => rfl
          have hkp : keep st1 here r = if r.kd = "check" then { st1 with named := st1.named ++ [n] } else { st1 with named := st1.named ++ [n], asked := st1.asked ++ [(n, r, here)] } := by
            cases r <;> simp only [Rw.leaf, Option.some.injEq, reduceCtorEq] at hleaf <;> subst hleaf <;> rfl
          have g08 := g07.trans g8
          have d8 := dp_up g08.same hdx
          have dl8 := d8
          rw [Rw.py_tl, htl] at dl8
          have fa8 := fa1.go g08
          have nm : ∀ {R : Rg} {H1 : Hp}, Dp K (R.off H1) x (.tuple (.str r.kd :: .str n :: tl)) → EvX R (tOp (rIxT K) (tVar 3) (tC (.int 1))) [some (.ref F), some (.ref a), some (.int (here : Int)), some x, some av, some mv, some (.int (here : Int))] H1 (Dt K (isS fun s => s = n)) := fun h => x_at (j := 3) (n := 1) rfl h rfl ⟨_, rfl, rfl⟩
          refine q_seq ?_
          refine fa8.names (i := 0) rfl ⟨.inl ⟨rfl, _, SqL.of fa8.atn⟩, (nm (R := fa8.rg) dl8) H8 (Go.refl still_refl) _ fun nv H9 g9 hnv => ?_⟩
          obtain rfl : nv = .str n := by
            obtain ⟨s, h1, h2⟩ := dp_str_of hnv
            rw [h1, h2]
          have fa9 := fa8.go g9
          have nlen : st1.named.length + 1 ≤ 90000 := by omega
          refine ⟨nl, _, _, rfl, rfl, fa9.atn, sz_lt (by rw [List.length_map]; omega), ?_⟩
          have hvn := fa9.new ok1 hnew
          have fa10 := fa9.app n
          have s910 : Same (offS [F, nl, kd] H9) (offS [F, nl, kd] (upd H9 nl (.lst (st1.named.map V.str ++ [.str n])))) := by
            rw [offS_upd (by simp)]
            exact Same.refl _
          generalize upd H9 nl (.lst (st1.named.map V.str ++ [.str n])) = H10 at fa10 s910 ⊢
          have s10 : Same (offS [F, nl, kd] H') (offS [F, nl, kd] H10) := (offS_mono ((still_same g08).trans (still_same g9))).trans s910
          have d10 : Dp K (fa10.rg.off H10) x r.py := dp_up (fa1.wk s10) hdx
          have dl10 := d10
          rw [Rw.py_tl, htl] at dl10
          have done : ∀ {H11 : Hp} {st2 : Stt} {kvs2 : List (Key × V)}, Same (offS [F, nl, kd] H10) (offS [F, nl, kd] H11) → FAt K S H11 F nl kd st2 kvs2 → keep st1 here r = st2 → Pv (i + 1) [some (.ref F), some (.ref a), some (.int (here : Int)), some x, some av, some mv, some (.int (here : Int))] H11 := fun {H11 st2 kvs2} s11 fa11 hk => ⟨st2, kvs2, nx.2 st2 (by rw [hst, hk]), (e.trans s10).trans s11, fa11, _, _, _, _, rfl⟩
          refine w_when1 (R := fa10.rg) (B := fun b => b = !decide (r.kd = "check")) (xt_test (x_neS (K := K) (A := fun s => s = r.kd) (B := fun s => s = "check") (x_at (j := 3) (n := 0) rfl dl10 rfl ⟨_, rfl, rfl⟩) (x_s rfl) fun a b ha hb => by rw [ha, hb])) still_refl (fun H11 g11 hb11 => ?_) (fun H11 g11 hb11 => ?_)
          · have d11 := dp_up g11.same d10
            refine (x_tu (K := K) (R := fa10.rg) (P := fun d => d = .tuple [r.py, .int (here : Int)]) (ds_cons (x_d (P := fun d => d = r.py) (i := 3) rfl d11 rfl) (ds_cons (x_vi (A := fun i => i = (here : Int)) (i := 2) rfl rfl) ds_nil)) (fun ds al => by
              obtain ⟨a, b, rfl, rfl, ⟨_, rfl, rfl⟩⟩ := al2 al
              rfl)) H11 (Go.refl g11.inv) _ fun tv H12 g12 ⟨td, htd, tdp⟩ => ?_
            subst htd
            have fa12 := fa10.go (g11.trans g12)
            refine fa12.known (i := 0) rfl ((nm (R := fa10.rg) (dp_up (g11.trans g12).same dl10)) H12 (Go.refl g12.inv) _ fun nv H13 g13 hnv => ?_)
            obtain rfl : nv = .str n := by
              obtain ⟨s, h1, h2⟩ := dp_str_of hnv
              rw [h1, h2]
            have fa13 := fa10.go ((g11.trans g12).trans g13)
            have kl : kvs1.length = st1.asked.length := pd_len fa13.pr
            have al := ok1.le
            refine ⟨kd, _, rfl, DPut.k (k := (Sum.inr n : Key)) fa13.atk (sz_lt (by omega)), ?_⟩
            refine done (st2 := { st1 with named := st1.named ++ [n], asked := st1.asked ++ [(n, r, here)] }) ?_ (fa13.put (r := r) (here := here) hvn (dp_up g13.same tdp)) (by rw [hkp, if_neg]; intro z; rw [decide_eq_true z] at hb11; cases hb11)
            rw [offS_upd (by simp)]
            exact offS_mono (still_same ((g11.trans g12).trans g13))
          · have hk : r.kd = "check" := by
              by_cases z : r.kd = "check"
              · exact z
              · rw [decide_eq_false z] at hb11
                cases hb11
            exact done (offS_mono (still_same g11)) (fa10.go g11) (by rw [hkp, if_pos hk])
    · obtain ⟨st1, kvs1, hl1, e, fa1, y3, y4, y5, y6, rfl⟩ := p
      have hlen : xs.length = rows.length := by rw [dpAll_len hxs, rowsP_len]
      rw [hlen, List.take_length] at hl1
      exact kok st1 kvs1 H' hl1 e fa1
theorem ok__law_amiss (T : Txt K mg) : ∀ m, FnOk P w K mg base CX0 (m + 7) T.a__law_amiss T.d__law_amiss ["_law_f", "_law_rows_here", "_law_here"] (sp__law_amiss T m)
  | 0 => by
    have z := amiss_body (P := P) (w := w) (base := base) T (fun _ _ _ _ => False) 0 0 (looks 0) (ok_none fun _ _ _ _ h => h) (looks_ok 0) (fun m' e => by omega)
    exact ⟨fun vs H Q E h => z.len vs H Q E (conv h), fun A outer s H args us vs Q E hr e0 hb hv h => z.run A outer s H args us vs Q E hr e0 hb hv (conv h)⟩
  | m + 1 => amiss_body T (sp__law_amiss T m) (m + 1) (m + 1) (looks m) (ok__law_amiss T m) (looks_ok m) fun m' e vs H Q E h => by
    have : m' = m := by omega
    subst this
    exact h
where
  conv {T : Txt K mg} {vs : List V} {H : Hp} {Q : VK} {E : XK} (h : sp__law_amiss T 0 vs H Q E) : spAmiss K 0 (fun st rows here => looksL (looks 0) here st rows) vs H Q E := by
    obtain ⟨S, F, nl, kd, st, kvs, rows, v, here, e, fa, hv, hrows, hm, ok, hz, k1, k2⟩ := h
    have : rows = [] := by
      cases rows with
      | nil => rfl
      | cons r rs => exact absurd (hrows r List.mem_cons_self).2 (Nat.not_lt_zero _)
    subst this
    exact ⟨S, F, nl, kd, st, kvs, [], v, here, e, fa, hv, hrows, hm, ok, hz, k1, k2⟩
end SF
namespace SF
open PySem PySem.Spec PyProof.Rows L2 GK Evl LamX
variable {P : Program} {w : World} {K : PySem.W.Frag} {mg : Str → Option Value} {base : Heap}
/-! ### _law_due -/
def duePre (rows : List Rw) (ds : List PyData) : Prop := ds = [.list (rowsP rows)] ∧ (∀ r ∈ rows, r.ok ∧ r.dep < 12) ∧ cnts rows ≤ 20000
def sp__law_due (T : Txt K mg) : Sp := fun vs H Q E => ∃ rows, spP K (duePre rows) (fun _ d => d = duePy (due rows)) vs H Q E
theorem ask_keysD {H : Hp} : ∀ {kvs : List (Key × V)} {as : List (Str × Rw × Nat)}, Paired (askD K H) kvs as → kvs.map (fun kv => kV kv.1) = (as.map (·.1)).map V.str
  | _, _, .nil => rfl
  | _, _, .cons r t => by rw [List.map_cons, List.map_cons, List.map_cons, ask_keysD t, r.1]; rfl
theorem tup_tru {H : Hp} {v : V} {d : PyData} {ds : List PyData} (h : Dp K H v (.tuple (d :: ds))) : TruV K v H true := by
  obtain ⟨a, vs, rfl, hs, hds⟩ := dp_tup h
  refine .inr (.inl ⟨vs, hs, ?_⟩)
  cases hds with
  | cons _ _ => rfl
theorem fault_tru {H : Hp} {v : V} {f : Fault} (h : Dp K H v f.py) : TruV K v H true := by
  cases f <;> exact tup_tru h
theorem ok__law_due (T : Txt K mg) : FnOk P w K mg base CX0 20 T.a__law_due T.d__law_due ["_law_rows_here"] (sp__law_due T) := by
  have G__law_all : FnOk P w K mg base CX0 13 T.a__law_all T.d__law_all ["_law_rows_here"] (sp__law_all T 12) := ok__law_all T 12
  have G__law_amiss : FnOk P w K mg base CX0 19 T.a__law_amiss T.d__law_amiss ["_law_f", "_law_rows_here", "_law_here"] (sp__law_amiss T 12) := ok__law_amiss T 12
  refine T.F__law_due.ok sc__law_due (fun vs H Q E h => ?_) (fun cdv A outer s H vs Q E hr h => ?_)
  · obtain ⟨rows, S, ds, _, hd, ⟨rfl, _⟩, _⟩ := h
    rw [dpAll_len hd]
    rfl
  · obtain ⟨rows, S, ds, dm, hd, ⟨rfl, hrows, hz⟩, q⟩ := h
    cases hd with
    | cons hd t =>
    cases t
    rename_i v0
    refine ⟨(tSeq (tAsg (tCB (gLenQ K) (tCons (tCall (sp__law_all T 12) [] E0 (tCons (tVar 0) tNil)) tNil)) (gName 1))
  (tSeq (tAsg (tDisp [((tC (.str "names")), (tLst tNil)), ((tC (.str "known")), tDNewK), ((tC (.str "rounds")), (tC (.int 0)))]) (gName 2))
  (tSeq (tAsg (tTup (tCons (tC (.str "count")) (tCons (tC (.str "rows")) (tCons (tVar 1) tNil)))) (gName 3))
  (tSeq (tIfS (tTest (tChain (rI0 fun i j => .bl (decide (i ≤ j))) (rI0 fun i j => .bl (decide (i ≤ j))) (tC (.int 1)) (tVar 1) (tC (.int 40)))) (tAsg (tCall (sp__law_amiss T 12) [] E0 (tCons (tVar 2) (tCons (tVar 0) (tCons (tC (.int 0)) tNil)))) (gName 3)) tNext)
  (tRet (tOrT K (tVar 3) (tTup (tCons (tC (.str "told")) (tCons (tCB rListD (tCons (tDGet (tVar 2) (tC (.str "known"))) tNil)) tNil))))))))),
(pss_cons (ps_set (i := 1) sc__law_due.nd rfl (.inl rfl) (pe_callB call_len_seq (by rfl) T.z_len (by decide +kernel) (pa_cons (pe_call (G__law_all.mono (by omega)) hr (by rfl) T.g__law_all T.F__law_all.kp T.b__law_all .nil pass0 (pa_cons (pv 0) pa_nil)) pa_nil)))
  (pss_cons (ps_set (i := 2) sc__law_due.nd rfl (.inl rfl) (pe_disp (pps_cons pe_str (pe_lst pa_nil) (pps_cons pe_str pe_dnewK (pps_cons pe_str pe_int pps_nil))) (by rfl) (by rfl) (fun z => by cases z) (by decide)))
  (pss_cons (ps_set (i := 3) sc__law_due.nd rfl (.inl rfl) (pe_tup (pa_cons pe_str (pa_cons pe_str (pa_cons (pv 1) pa_nil)))))
  (pss_cons (ps_if (pt_chain op_le op_le pe_int (pv 1) pe_int) (pss_one (ps_set (i := 3) sc__law_due.nd rfl (.inl rfl) (pe_call (G__law_amiss.mono (by omega)) hr (by rfl) T.g__law_amiss T.F__law_amiss.kp T.b__law_amiss .nil pass0 (pa_cons (pv 2) (pa_cons (pv 0) (pa_cons pe_int pa_nil)))))) pss_nil)
  (pss_one (ps_ret (pe_orT (pv 3) (pe_one (pe_tup (pa_cons pe_str (pa_cons (pe_callTy (call_list_dK rfl) (by rfl) T.z_list (by decide +kernel) (pa_cons (pe_dget (hu_of hr) (pv 2) pe_str (fun _ _ => rfl)) pa_nil)) pa_nil))))))))))), ?_⟩
    let R : Rg := still S H dm
    have I0 : R.I H := still_refl
    have hdep : deps rows ≤ 12 := deps_le fun r hr => by have := (hrows r hr).2; omega
    refine w_asg (R := R) (D := Dt K (isI fun i => i = (cnts rows : Int))) (x_len (A := fun d => d = .list (rowsP (allR rows))) (x_pureI (K := K) (Pre := allPre 12 rows) (Post := fun _ d => d = .list (rowsP (allR rows))) (Ps := [fun d => d = .list (rowsP rows)]) (fun vs H Q E h => ⟨rows, h⟩) (ds_cons (x_d (i := 0) rfl hd rfl) ds_nil) (fun ds al => by
      cases al with
      | cons h1 t => cases t; exact ⟨by rw [h1], hdep, hz⟩) (fun _ d _ h => h)) fun d hd => ⟨_, .inl hd, ⟨_, rfl, by rw [rowsP_len, allR_len]⟩⟩) I0 fun v1 H1 g1 hv1 => ?_
    obtain ⟨_, rfl, rfl⟩ := dp_int_of hv1
    have d1 := dp_up g1.same hd
    have s01 := still_same g1
    refine q_seq ?_
    refine fun F nF => ⟨by show 0 ≤ sizeLine; decide, fun nl nn => fun kd nk => ⟨?_, [(Sum.inr "names", .ref nl), (Sum.inr "known", .ref kd), (Sum.inr "rounds", .int 0)], rfl, by simp, ?_⟩⟩
    · have n1 : F ≠ nl := ne_of_none upd_same nn
      have fF2 : (upd (upd H1 F (.dK [])) nl (.lst [])) F = some (.dK []) := by rw [upd_ne n1]; exact upd_same
      have n2 : F ≠ kd := ne_of_none fF2 nk
      rw [upd_ne n2]
      exact fF2
    have n1 : F ≠ nl := ne_of_none upd_same nn
    have fF2 : (upd (upd H1 F (.dK [])) nl (.lst [])) F = some (.dK []) := by rw [upd_ne n1]; exact upd_same
    have n2 : F ≠ kd := ne_of_none fF2 nk
    have n3 : nl ≠ kd := ne_of_none upd_same nk
    have nn1 : H1 nl = none := Same.free (same_new nF) nn
    have nk1 : H1 kd = none := Same.free (Same.trans (same_new nF) (same_new nn)) nk
    have s12 : Same H1 (upd (upd (upd (upd H1 F (.dK [])) nl (.lst [])) kd (.dK [])) F (.dK (mergeK [] [((Sum.inr "names" : Key), V.ref nl), (Sum.inr "known", .ref kd), (Sum.inr "rounds", .int 0)]))) := same_mut (Same.trans (Same.trans (same_new nF) (same_new nn)) (same_new nk)) nF
    have aF : (upd (upd (upd (upd H1 F (.dK [])) nl (.lst [])) kd (.dK [])) F (.dK (mergeK [] [((Sum.inr "names" : Key), V.ref nl), (Sum.inr "known", .ref kd), (Sum.inr "rounds", .int 0)]))) F = some (.dK [((Sum.inr "names" : Key), V.ref nl), (Sum.inr "known", .ref kd), (Sum.inr "rounds", .int 0)]) := by
      have k1 : ¬ (Sum.inr ("names" : Str) : Key) = Sum.inr ("rounds" : Str) := fun z => absurd (Sum.inr.inj z) (by decide)
      have k2 : ¬ (Sum.inr ("known" : Str) : Key) = Sum.inr ("rounds" : Str) := fun z => absurd (Sum.inr.inj z) (by decide)
      have k3 : ¬ (Sum.inr ("names" : Str) : Key) = Sum.inr ("known" : Str) := fun z => absurd (Sum.inr.inj z) (by decide)
      rw [upd_same]
      simp [mergeK, putK, k1, k2, k3]
    have an : (upd (upd (upd (upd H1 F (.dK [])) nl (.lst [])) kd (.dK [])) F (.dK (mergeK [] [((Sum.inr "names" : Key), V.ref nl), (Sum.inr "known", .ref kd), (Sum.inr "rounds", .int 0)]))) nl = some (.lst []) := by rw [upd_ne n1.symm, upd_ne n3]; exact upd_same
    have ak : (upd (upd (upd (upd H1 F (.dK [])) nl (.lst [])) kd (.dK [])) F (.dK (mergeK [] [((Sum.inr "names" : Key), V.ref nl), (Sum.inr "known", .ref kd), (Sum.inr "rounds", .int 0)]))) kd = some (.dK []) := by rw [upd_ne n2.symm]; exact upd_same
    generalize (upd (upd (upd (upd H1 F (.dK [])) nl (.lst [])) kd (.dK [])) F (.dK (mergeK [] [((Sum.inr "names" : Key), V.ref nl), (Sum.inr "known", .ref kd), (Sum.inr "rounds", .int 0)]))) = H2 at s12 aF an ak ⊢
    have s12' : Same (offS S H1) (offS (F :: nl :: kd :: S) H2) := fun c o hc => by
      obtain ⟨h1, h2⟩ := offS_some.mp hc
      refine offS_some.mpr ⟨fun m => ?_, s12 _ _ h2⟩
      simp only [List.mem_cons] at m
      rcases m with rfl | rfl | rfl | m
      · rw [nF] at h2; cases h2
      · rw [nn1] at h2; cases h2
      · rw [nk1] at h2; cases h2
      · exact h1 m
    have fa : FAt K (F :: nl :: kd :: S) H2 F nl kd ⟨[], [], 0⟩ [] := ⟨by simp, by simp, by simp, n1, n2, n3, fun c hc => by
      simp only [List.mem_cons] at hc
      rcases hc with rfl | rfl | rfl | m
      · exact ⟨_, aF⟩
      · exact ⟨_, an⟩
      · exact ⟨_, ak⟩
      · obtain ⟨o, ho⟩ := dm c m
        exact ⟨o, s12 _ _ (s01 _ _ ho)⟩, aF, an, ak, .nil⟩
    have d2 := dp_up s12' d1
    have s02 : Same H H2 := s01.trans s12
    refine w_asg (R := fa.rg) (D := Dt K (fun d => d = (Fault.count "rows" (cnts rows : Int)).py)) (x_tu (ds_cons (x_s (A := fun s => s = "count") rfl) (ds_cons (x_s (A := fun s => s = "rows") rfl) (ds_cons (x_vi (A := fun i => i = (cnts rows : Int)) (i := 1) rfl rfl) ds_nil))) fun ds al => by
      obtain ⟨a, b, c, rfl, ⟨_, rfl, rfl⟩, ⟨_, rfl, rfl⟩, ⟨_, rfl, rfl⟩⟩ := al3 al
      rfl) still_refl fun cv H3 g3 ⟨cd, hcd, cdp⟩ => ?_
    subst hcd
    have sub : ∀ {H' : Hp}, Same (offS (F :: nl :: kd :: S) H') (offS S H') := offS_sub fun c hc => by simp [hc]
    -- a fault is told
    have fault : ∀ {f : Fault} {v : V} {H4 : Hp} {D : Ends}, due rows = .error f → Same H H4 → Dp K (offS (F :: nl :: kd :: S) H4) v f.py → D.rt = Q → (tRet (tOrT K (tVar 3) (tTup (tCons (tC (.str "told")) (tCons (tCB rListD (tCons (tDGet (tVar 2) (tC (.str "known"))) tNil)) tNil))))) D [some v0, some (.int (cnts rows : Int)), some (.ref F), some v] H4 := fun {f v H4 D} hf s4 dp hD => by
      refine ⟨v, rfl, true, fault_tru (dp_up (offS_same _ _) dp), iteT ?_⟩
      rw [hD]
      exact q v _ H4 s4 rfl (by rw [hf]; exact dp_up sub dp)
    refine w_when (R := fa.rg) (B := fun b => b = (decide ((1 : Int) ≤ (cnts rows : Int)) && decide ((cnts rows : Int) ≤ 40))) (xt_test (x_chain (K := K) (p := fun i j => decide (i ≤ j)) (q := fun i j => decide (i ≤ j)) (x_i rfl) (x_vi (i := 1) rfl rfl) (x_i rfl))) g3.inv (fun H4 g4 hb => ?_) (fun H4 g4 hb => ?_)
    · have hl : 1 ≤ cnts rows ∧ cnts rows ≤ 40 := by
        have b' := hb.symm
        rw [Bool.and_eq_true] at b'
        have h1 := of_decide_eq_true b'.1
        have h2 := of_decide_eq_true b'.2
        exact ⟨by omega, by omega⟩
      have dno : ∀ f, looks 12 ⟨[], [], 0⟩ rows 0 = .error f → due rows = .error f := fun f h => by unfold due; rw [if_pos hl, h]
      have dok : ∀ st, looks 12 ⟨[], [], 0⟩ rows 0 = .ok st → due rows = .ok (st.asked.map (·.1)) := fun st h => by unfold due; rw [if_pos hl, h]
      have fa4 := fa.go (g3.trans g4)
      have s04 : Same H H4 := s02.trans (still_same (g3.trans g4))
      have old : ∀ {H5 : Hp}, Same (offS [F, nl, kd] H4) (offS [F, nl, kd] H5) → Same H H5 := fun {H5} s5 c o hc => by
        have c1 := s01 _ _ hc
        refine (offS_some.mp (s5 c o (offS_some.mpr ⟨fun m => ?_, s04 _ _ hc⟩))).2
        simp only [List.mem_cons, List.not_mem_nil, or_false] at m
        rcases m with rfl | rfl | rfl
        · rw [nF] at c1; cases c1
        · rw [nn1] at c1; cases c1
        · rw [nk1] at c1; cases c1
      refine ⟨.ref F, rfl, v0, rfl, F :: nl :: kd :: S, F, nl, kd, ⟨[], [], 0⟩, [], rows, v0, 0, rfl, fa4, dp_up (g3.trans g4).same d2, hrows, by omega, ⟨by simp, by simp, by simp⟩, by simp; omega, fun st' kvs' H5 hl5 s5 fa5 => ?_, fun f v H5 hl5 s5 dp5 => ?_⟩
      · have s05 := old s5
        refine ⟨.non, rfl, false, rfl, iteF ?_⟩
        refine fa5.known (i := 2) rfl ⟨kd, kvs', rfl, fa5.atk, fun l nl' => ⟨by show 2 ≤ sizeLine; decide, fun t nt => ?_⟩⟩
        have e5 : Same H5 (upd H5 l (.lst (kvs'.map fun kv => kV kv.1))) := same_new nl'
        have e6 : Same (upd H5 l (.lst (kvs'.map fun kv => kV kv.1))) (upd (upd H5 l (.lst (kvs'.map fun kv => kV kv.1))) t (.tup [.str "told", .ref l])) := same_new nt
        have sS : ∀ {c : Addr} {H6 : Hp}, Same H H6 → H6 c = none → c ∉ S := fun {c H6} s6 n m => by
          obtain ⟨o, ho⟩ := dm c m
          rw [s6 _ _ ho] at n
          cases n
        refine q _ _ _ ((s05.trans e5).trans e6) rfl ?_
        rw [dok st' hl5]
        refine .tup (SqT.of (offS_some.mpr ⟨sS (s05.trans e5) nt, upd_same⟩)) (.cons (.str _) (.cons (.lst (xs := (st'.asked.map (·.1)).map V.str) (SqL.of (offS_some.mpr ⟨sS s05 nl', e6 _ _ (by rw [← ask_keysD fa5.pr]; exact upd_same)⟩)) (dp_strs _)) .nil))
      · exact fault (dno f hl5) (old s5) dp5 rfl
    · have df : due rows = .error (.count "rows" (cnts rows : Int)) := by
        unfold due
        rw [if_neg]
        intro h
        have h1 : decide ((1 : Int) ≤ cnts rows) = true := decide_eq_true (by omega)
        have h2 : decide ((cnts rows : Int) ≤ 40) = true := decide_eq_true (by omega)
        rw [h1, h2] at hb
        cases hb
      exact fault df (s02.trans (still_same (g3.trans g4))) (dp_up g4.same cdp) rfl
end SF
/-! xs != ys, two lists of the very same objects. -/
namespace GK
open PySem PySem.Spec PyProof.Rows L2 LamX Evl
def rNeS (K : PySem.W.Frag) : R2 := fun x y H Q => ∃ (a b : Addr) (ps : List Addr), x = .ref a ∧ y = .ref b ∧ SqL K H a (ps.map V.ref) ∧ SqL K H b (ps.map V.ref) ∧ Q (.bl false) H
theorem refs_of : ∀ {ps : List Addr} {us : List Value}, Vals (ps.map V.ref) us → us = ps.map Value.ref
  | [], _, .nil => rfl
  | p :: ps, _, .cons r t => by rw [refs_of t, show _ = Value.ref p from r]; rfl
theorem op_neS {X : Cx} (hu : X.A.units + 64 < cLine) : OpR X (compareOp .NotEq) (rNeS X.K) := by
  intro pins s σ H x y v u Q I rx ry h
  obtain ⟨a, b, ps, rfl, rfl, ha, hb, q⟩ := h
  cases rx
  cases ry
  obtain ⟨its, rv, hl, hz⟩ := I.list ha
  obtain ⟨its2, rv2, hl2, hz2⟩ := I.list hb
  have e1 := refs_of rv
  have e2 := refs_of rv2
  subst e1 e2
  refine SeqAt.RcNeAt.lists (A := X.A) (s := s) (e := fun _ => true) hl.isList hl2.isList rfl (by omega) (fun j h1 h2 => SeqAt.EqAt.same _) X.prog X.w _ _ ?_
  refine ⟨.bl false, H, I, ?_, q⟩
  rw [show ((List.range (ps.map Value.ref).toArray.size).all fun _ => true) = true from List.all_eq_true.mpr fun _ _ => rfl]
  rfl
end GK
namespace SF
open PySem PySem.Spec PyProof.Rows L2 GK Evl LamX
variable {P : Program} {w : World} {K : PySem.W.Frag} {mg : Str → Option Value} {base : Heap}
/-! ### _law_said: the suite of except -/
theorem ev_isXi {i : Nat} {xa D dd : Addr} {fs : List (Str × V)} {c : V} {cv : Value} {b : Bool} {σ : L2.St} {H : Hp} (hσ : σ[i]? = some (some (.ref xa))) (hd : H dd = some (.xd fs)) (C : ExcC K D) (hcv : ∀ u, RelV c u → u = cv) (hk : PySem.W.kitOne K (.ref D) cv = some b) :
    Ev (tCB (rIsX K xa (.ref D) (some dd)) (tCons (tVar i) (tCons (tC c) tNil))) σ H (.bl b) := fun H1 e Q q =>
  ⟨.ref xa, hσ, D, dd, fs, c, cv, b, rfl, rfl, e _ _ hd, C, rfl, hcv, hk, q H1 (Same.refl _)⟩
theorem ev_xfi {i : Nat} {xa D dd : Addr} {fs : List (Str × V)} {f : Str} {v : V} {σ : L2.St} {H : Hp} (hσ : σ[i]? = some (some (.ref xa))) (hd : H dd = some (.xd fs)) (hl : fs.lookup f = some v) :
    Ev (tXf xa (.ref D) (some dd) D f (tVar i)) σ H v := fun H1 e Q q => ⟨.ref xa, hσ, rfl, rfl, dd, fs, v, rfl, e _ _ hd, hl, q H1 (Same.refl _)⟩
theorem ev_cntBi {i : Nat} {p : Addr} {bs : List Bool} {σ : L2.St} {H : Hp} (hσ : σ[i]? = some (some (.ref p))) (hp : H p = some (.lst (bs.map V.bl))) : Ev (tBM K "list" (rCntB K) (tVar i) (tCons (tC (.bl true)) tNil)) σ H (.int (bs.count true : Nat)) := fun H1 e Q q =>
  ⟨.ref p, hσ, .inl ⟨rfl, _, SqL.of (e _ _ hp)⟩, p, bs, true, rfl, rfl, SqL.of (e _ _ hp), q H1 (Same.refl _)⟩
theorem dp_bools {H : Hp} : ∀ {bs : List Bool}, DpAll K H (bs.map V.bl) (bs.map PyData.bool)
  | [] => .nil
  | b :: bs => .cons (.bl b) dp_bools
theorem eqv_bb (a b : Bool) : PyData.eqv (.bool a) (.bool b) = (a == b) := by cases a <;> cases b <;> rfl
theorem ev_indexB {i j : Nat} {p : Addr} {bs : List Bool} {σ : L2.St} {H : Hp} (hσ : σ[i]? = some (some (.ref p))) (hp : H p = some (.lst (bs.map V.bl))) (hs : SeqAt.shaped (.list (bs.map PyData.bool)) = true) (hj : bs[j]? = some true) (hno : ∀ m < j, bs[m]? = some false) : Ev (tBM K "list" (rIndexD K) (tVar i) (tCons (tC (.bl true)) tNil)) σ H (.int (j : Nat)) := fun H1 e Q q =>
  ⟨.ref p, hσ, .inl ⟨rfl, _, SqL.of (e _ _ hp)⟩, p, .bl true, .bool true, bs.map .bool, j, .bool true, rfl, rfl, .lst (SqL.of (e _ _ hp)) dp_bools, .bl true, hs, rfl, by rw [List.getElem?_map, hj]; rfl, by rw [eqv_bb]; rfl, fun m z' hm hz => by
    rw [List.getElem?_map, hno m hm] at hz
    cases hz
    rw [eqv_bb]
    rfl, q H1 (Same.refl _)⟩
def tNameOf (T : Txt K mg) (xa : Addr) (xc : Value) (xd : Option Addr) : TE := tAlt (tXf xa xc xd T.C_NoName "name" (tVar 4)) (tAlt (tXf xa xc xd T.C_Twice "name" (tVar 4)) (tAlt (tXf xa xc xd T.C_NoQuestion "name" (tVar 4)) (tXf xa xc xd T.C_NoFit "name" (tVar 4))))
def saidEnd (T : Txt K mg) (xa : Addr) (xc : Value) (xd : Option Addr) : TS := tRet (tIf (tTest (tOp rEq (tVar 6) (tC (.str "count")))) (tTup (tCons (tVar 6) (tCons (tXf xa xc xd T.C_BadCount "what" (tVar 4)) (tCons (tXf xa xc xd T.C_BadCount "count" (tVar 4)) tNil)))) (tTup (tCons (tVar 6) (tCons (tNameOf T xa xc xd) tNil))))
def saidSuite (T : Txt K mg) (xa : Addr) (xc : Value) (xd : Option Addr) : TS := (tSeq (tAsg (tLst (tCons (tCB (rIsX K xa xc xd) (tCons (tVar 4) (tCons (tC (.ref T.C_BadCount)) tNil))) (tCons (tCB (rIsX K xa xc xd) (tCons (tVar 4) (tCons (tC (.ref T.C_NoName)) tNil))) (tCons (tCB (rIsX K xa xc xd) (tCons (tVar 4) (tCons (tC (.ref T.C_Twice)) tNil))) (tCons (tCB (rIsX K xa xc xd) (tCons (tVar 4) (tCons (tC (.ref T.C_NoQuestion)) tNil))) tNil))))) (gName 5))
  (tSeq (tDrop (tBM K "list" rAppend (tVar 5) (tCons (tCB (rIsX K xa xc xd) (tCons (tVar 4) (tCons (tC (.ref T.C_NoFit)) tNil))) tNil)))
  (tSeq (tIfS (tOr (tTest (tOp rNe (tBM K "list" (rCntB K) (tVar 5) (tCons (tC (.bl true)) tNil)) (tC (.int 1)))) (tOr (tNot (tB (tCB (rIsX K xa xc xd) (tCons (tVar 4) (tCons (tC (.ty "ValueError")) tNil))))) (tTest (tOp (rNeS K) (tVar 1) (tVar 2))))) (tRet (tTup (tCons (tC (.str "several")) tNil))) tNext)
  (tSeq (tAsg (tOp (rIxL K) (tLst (tCons (tC (.str "count")) (tCons (tC (.str "name")) (tCons (tC (.str "twice")) (tCons (tC (.str "question")) (tCons (tC (.str "fit")) tNil)))))) (tBM K "list" (rIndexD K) (tVar 5) (tCons (tC (.bl true)) tNil))) (gName 6))
  (saidEnd T xa xc xd)))))
theorem said_suite {T : Txt K mg} {D dd xa lh lk : Addr} {ps : List Addr} {fs : List (Str × V)} {H : Hp} {D2 : Ends} {a0 a3 a5 a6 a7 : Option V} {b1 b2 b3 b4 b5 : Bool} {j : Nat} {wd : Str} (hd : H dd = some (.xd fs)) (C : ExcC K D) (k1 : PySem.W.kitOne K (.ref D) (.ref T.C_BadCount) = some b1) (k2 : PySem.W.kitOne K (.ref D) (.ref T.C_NoName) = some b2)
    (k3 : PySem.W.kitOne K (.ref D) (.ref T.C_Twice) = some b3) (k4 : PySem.W.kitOne K (.ref D) (.ref T.C_NoQuestion) = some b4) (k5 : PySem.W.kitOne K (.ref D) (.ref T.C_NoFit) = some b5) (kv : PySem.W.kitOne K (.ref D) (.type "ValueError") = some true) (one : [b1, b2, b3, b4, b5].count true = 1)
    (hj : [b1, b2, b3, b4, b5][j]? = some true) (hno : ∀ m < j, [b1, b2, b3, b4, b5][m]? = some false) (hw : [V.str "count", .str "name", .str "twice", .str "question", .str "fit"][j]? = some (.str wd)) (h1 : H lh = some (.lst (ps.map V.ref))) (h2 : H lk = some (.lst (ps.map V.ref)))
    (k : ∀ p H3, Same H H3 → saidEnd T xa (.ref D) (some dd) D2 [a0, some (.ref lh), some (.ref lk), a3, some (.ref xa), some (.ref p), some (.str wd), a7] H3) : saidSuite T xa (.ref D) (some dd) D2 [a0, some (.ref lh), some (.ref lk), a3, some (.ref xa), a5, a6, a7] H := by
  unfold saidSuite
  have own : ∀ C' : Addr, ∀ u, RelV (V.ref C') u → u = Value.ref C' := fun _ _ r => r
  refine q_asgL (el_lst (ea_cons (ev_isXi (K := K) rfl hd C (own _) k1) (ea_cons (ev_isXi (K := K) rfl hd C (own _) k2) (ea_cons (ev_isXi (K := K) rfl hd C (own _) k3) (ea_cons (ev_isXi (K := K) rfl hd C (own _) k4) ea_nil)))) (by simp)) fun p H1 hp e1 hp1 => ?_
  have e1 : Same H H1 := e1
  refine q_seq ?_
  refine ⟨.ref p, rfl, .inl ⟨rfl, _, SqL.of hp1⟩, (ev_isXi (K := K) rfl (e1 _ _ hd) C (own _) k5) H1 (Same.refl _) _ fun H2 e2 => ⟨p, _, .bl b5, rfl, rfl, e2 _ _ hp1, sz_lt (by simp), ?_⟩⟩
  have np : ∀ {c : Addr} {o : HO}, H c = some o → c ≠ p := fun h z => by rw [← z, h] at hp; cases hp
  have s3 : Same H (upd H2 p (.lst ([.bl b1, .bl b2, .bl b3, .bl b4] ++ [.bl b5]))) := fun c o h => by rw [upd_ne (np h)]; exact e2 _ _ (e1 _ _ h)
  have p3 : (upd H2 p (.lst ([.bl b1, .bl b2, .bl b3, .bl b4] ++ [.bl b5]))) p = some (.lst ([b1, b2, b3, b4, b5].map V.bl)) := upd_same
  generalize upd H2 p (.lst ([.bl b1, .bl b2, .bl b3, .bl b4] ++ [.bl b5])) = H3 at s3 p3 ⊢
  have eS : Ev (tOp (rNeS K) (tVar 1) (tVar 2)) [a0, some (.ref lh), some (.ref lk), a3, some (.ref xa), some (.ref p), a6, a7] H3 (.bl false) := fun H4 e4 Q q => ⟨.ref lh, rfl, .ref lk, rfl, lh, lk, ps, rfl, rfl, SqL.of (e4 _ _ (s3 _ _ h1)), SqL.of (e4 _ _ (s3 _ _ h2)), q H4 (Same.refl _)⟩
  refine q_when (b := false) (et_is (et_or (et_test (ev_neS (ev_cntBi (K := K) (i := 5) (p := p) (bs := [b1, b2, b3, b4, b5]) rfl p3) ev_c rfl)) fun _ => et_or (et_not (et_B (ev_isXi (K := K) (i := 4) (c := .ty "ValueError") (cv := .type "ValueError") rfl (s3 _ _ hd) C (fun _ r => r) kv))) fun _ => et_test eS) (by rw [one]; rfl)) (fun z => by cases z) (fun _ H4 e4 => ?_)
  have e4 : Same H3 H4 := e4
  refine q_seq ?_
  have el := el_lst (σ := [a0, some (.ref lh), some (.ref lk), a3, some (.ref xa), some (.ref p), a6, a7]) (H := H4) (ea_cons (ev_c (v := .str "count")) (ea_cons (ev_c (v := .str "name")) (ea_cons (ev_c (v := .str "twice")) (ea_cons (ev_c (v := .str "question")) (ea_cons (ev_c (v := .str "fit")) ea_nil))))) (by simp)
  show tOp (rIxL K) _ _ _ H4 _
  refine el H4 (Same.refl _) _ fun l H5 nl e5 hl => ?_
  have e5 : Same H4 H5 := e5
  refine (ev_indexB (K := K) (i := 5) (j := j) (bs := [b1, b2, b3, b4, b5]) rfl (e5 _ _ (e4 _ _ p3)) (by rfl) hj hno) H5 (Same.refl _) _ fun H6 e6 => ?_
  have e6 : Same H5 H6 := e6
  refine ⟨l, _, (j : Nat), .str wd, rfl, rfl, SqL.of (e6 _ _ hl), atI_nat hw, ?_⟩
  exact k p H6 (s3.trans (e4.trans (e5.trans e6)))
theorem s_tup {σ : L2.St} {H : Hp} {ta : TA} {xs : List V} {Q : VK} (h : EvA ta σ H xs) (hl : xs.length ≤ 100000) (k : ∀ p H1, H p = none → Same H H1 → H1 p = some (.tup xs) → Q (.ref p) H1) : tTup ta σ H Q :=
  (eu_tup h hl) H (Same.refl _) _ fun p H1 hp e1 h1 => k p H1 hp e1 h1
theorem said_fault {T : Txt K mg} {f : Fault} {dd xa lh lk : Addr} {ps : List Addr} {H : Hp} {D2 : Ends} {a0 a3 a5 a6 a7 : Option V} (hd : H dd = some (.xd f.fs)) (h1 : H lh = some (.lst (ps.map V.ref))) (h2 : H lk = some (.lst (ps.map V.ref)))
    (q : ∀ p H3, H p = none → Same H H3 → (∀ S : List Addr, p ∉ S → Dp K (offS S H3) (.ref p) f.py) → D2.rt (.ref p) H3) : saidSuite T xa (.ref (f.cls T)) (some dd) D2 [a0, some (.ref lh), some (.ref lk), a3, some (.ref xa), a5, a6, a7] H := by
  have nameCase : ∀ {D p : Addr} {H3 : Hp} {wd s : Str}, wd ≠ "count" → H3 dd = some (.xd [("name", .str s)]) → (D = T.C_NoName ∨ D = T.C_Twice ∨ D = T.C_NoQuestion ∨ D = T.C_NoFit) → (∀ t H4, H3 t = none → Same H3 H4 → H4 t = some (.tup [.str wd, .str s]) → D2.rt (.ref t) H4) → saidEnd T xa (.ref D) (some dd) D2 [a0, some (.ref lh), some (.ref lk), a3, some (.ref xa), some (.ref p), some (.str wd), a7] H3 := fun {D p H3 wd s} hw hd3 hD k => by
    unfold saidEnd
    refine s_give ?_
    refine (et_test (ev_eqS (ev_var (i := 6) rfl) ev_c rfl)) H3 (Same.refl _) _ fun H4 e4 => ?_
    have e4 : Same H3 H4 := e4
    rw [GK.dec_str, decide_eq_false hw]
    refine iteF ?_
    have en : Ev (tNameOf T xa (.ref D) (some dd)) [a0, some (.ref lh), some (.ref lk), a3, some (.ref xa), some (.ref p), some (.str wd), a7] H4 (.str s) := fun H5 e5 Q' q' => by
      have z : ∀ C : Addr, D = C → tXf xa (.ref D) (some dd) C "name" (tVar 4) [a0, some (.ref lh), some (.ref lk), a3, some (.ref xa), some (.ref p), some (.str wd), a7] H5 Q' := fun C e => by
        subst e
        exact (ev_xfi (i := 4) rfl (e4 _ _ hd3) rfl) H5 e5 Q' q'
      rcases hD with e | e | e | e
      · exact .inl (z _ e)
      · exact .inr (.inl (z _ e))
      · exact .inr (.inr (.inl (z _ e)))
      · exact .inr (.inr (.inr (z _ e)))
    exact s_tup (ea_cons (ev_var (i := 6) rfl) (ea_cons en ea_nil)) (by simp) fun t H5 nt e5 ht => k t H5 (Same.free e4 nt) (e4.trans e5) ht
  have told : ∀ {wd s : Str} {H3 : Hp}, Same H H3 → f.py = .tuple [.str wd, .str s] → ∀ t H4, H3 t = none → Same H3 H4 → H4 t = some (.tup [.str wd, .str s]) → D2.rt (.ref t) H4 := fun {wd s H3} s3 hf t H4 nt e4 ht => q t H4 (Same.free s3 nt) (s3.trans e4) fun S nS => by rw [hf]; exact .tup (SqT.of (offS_some.mpr ⟨nS, ht⟩)) (.cons (.str _) (.cons (.str _) .nil))
  cases f with
  | count what n =>
    refine said_suite (T := T) (j := 0) (wd := "count") hd T.xc_BadCount T.ki_BadCount_BadCount T.ki_BadCount_NoName T.ki_BadCount_Twice T.ki_BadCount_NoQuestion T.ki_BadCount_NoFit T.kv_BadCount rfl rfl (fun m hm => by omega) rfl h1 h2 fun p H3 s3 => ?_
    unfold saidEnd
    refine s_give ?_
    refine (et_test (ev_eqS (ev_var (i := 6) rfl) ev_c rfl)) H3 (Same.refl _) _ fun H4 e4 => ?_
    have e4 : Same H3 H4 := e4
    rw [GK.dec_str]
    refine iteT ?_
    have hd4 := e4 _ _ (s3 _ _ hd)
    exact s_tup (ea_cons (ev_var (i := 6) rfl) (ea_cons (ev_xfi (i := 4) rfl hd4 rfl) (ea_cons (ev_xfi (i := 4) rfl hd4 rfl) ea_nil))) (by simp) fun t H5 nt e5 ht => q t H5 (Same.free (s3.trans e4) nt) ((s3.trans e4).trans e5) fun S nS => .tup (SqT.of (offS_some.mpr ⟨nS, ht⟩)) (.cons (.str _) (.cons (.str _) (.cons (.int _) .nil)))
  | name s =>
    exact said_suite (T := T) (j := 1) (wd := "name") hd T.xc_NoName T.ki_NoName_BadCount T.ki_NoName_NoName T.ki_NoName_Twice T.ki_NoName_NoQuestion T.ki_NoName_NoFit T.kv_NoName rfl rfl (fun m hm => by (obtain rfl : m = 0 := by omega); rfl) rfl h1 h2 fun p H3 s3 => nameCase (by decide) (s3 _ _ hd) (.inl rfl) (told s3 rfl)
  | twice s =>
    exact said_suite (T := T) (j := 2) (wd := "twice") hd T.xc_Twice T.ki_Twice_BadCount T.ki_Twice_NoName T.ki_Twice_Twice T.ki_Twice_NoQuestion T.ki_Twice_NoFit T.kv_Twice rfl rfl (fun m hm => by (obtain rfl | rfl : m = 0 ∨ m = 1 := by omega) <;> rfl) rfl h1 h2 fun p H3 s3 => nameCase (by decide) (s3 _ _ hd) (.inr (.inl rfl)) (told s3 rfl)
  | question s =>
    exact said_suite (T := T) (j := 3) (wd := "question") hd T.xc_NoQuestion T.ki_NoQuestion_BadCount T.ki_NoQuestion_NoName T.ki_NoQuestion_Twice T.ki_NoQuestion_NoQuestion T.ki_NoQuestion_NoFit T.kv_NoQuestion rfl rfl (fun m hm => by (obtain rfl | rfl | rfl : m = 0 ∨ m = 1 ∨ m = 2 := by omega) <;> rfl) rfl h1 h2 fun p H3 s3 => nameCase (by decide) (s3 _ _ hd) (.inr (.inr (.inl rfl))) (told s3 rfl)
  | fit s =>
    exact said_suite (T := T) (j := 4) (wd := "fit") hd T.xc_NoFit T.ki_NoFit_BadCount T.ki_NoFit_NoName T.ki_NoFit_Twice T.ki_NoFit_NoQuestion T.ki_NoFit_NoFit T.kv_NoFit rfl rfl (fun m hm => by (obtain rfl | rfl | rfl | rfl : m = 0 ∨ m = 1 ∨ m = 2 ∨ m = 3 := by omega) <;> rfl) rfl h1 h2 fun p H3 s3 => nameCase (by decide) (s3 _ _ hd) (.inr (.inr (.inr rfl))) (told s3 rfl)
end SF
namespace SF
open PySem PySem.Spec PyProof.Rows L2 GK Evl LamX
variable {P : Program} {w : World} {K : PySem.W.Frag} {mg : Str → Option Value} {base : Heap}
/-! ### _law_said -/
theorem rows_refs {T : Txt K mg} {H : Hp} : ∀ {us : List V} {rows : List Rw}, RowsO T H us rows → ∃ ps : List Addr, us = ps.map V.ref
  | _, _, .nil => ⟨[], rfl⟩
  | _, _, .cons h t => by
    obtain ⟨ps, rfl⟩ := rows_refs t
    cases h with
    | one => exact ⟨_ :: ps, rfl⟩
    | som => exact ⟨_ :: ps, rfl⟩
    | number => exact ⟨_ :: ps, rfl⟩
    | check => exact ⟨_ :: ps, rfl⟩
    | sec => exact ⟨_ :: ps, rfl⟩
    | rnd => exact ⟨_ :: ps, rfl⟩
theorem eh_fault (T : Txt K mg) (f : Fault) : PySem.W.exmOne K (.ref (f.cls T)) (.ref T.C_HallError) = some true := by
  cases f
  · exact T.eh_BadCount
  · exact T.eh_NoName
  · exact T.eh_Twice
  · exact T.eh_NoQuestion
  · exact T.eh_NoFit
def sp__law_said (T : Txt K mg) : Sp := fun vs H Q E => ∃ rows, spP K (duePre rows) (fun _ d => d = duePy (due rows)) vs H Q E
theorem ok__law_said (T : Txt K mg) : FnOk P w K mg base CX0 23 T.a__law_said T.d__law_said ["_law_rows_here"] (sp__law_said T) := by
  have G__law_made_row : FnOk P w K mg base CX0 19 T.a__law_made_row T.d__law_made_row ["_law_row"] (sp__law_made_row T 11) := ok__law_made_row T 11
  have G_Form_new : FnOk P w K mg base (L2.CX P w) 21 T.a_Form_new T.d_Form_new ["self", "rows"] (sp_Form_new T) := ok_Form_new T
  have G_Form_outline : FnOk P w K mg base CX0 1 T.a_Form_outline T.d_Form_outline ["self"] (sp_Form_outline T) := ok_Form_outline T
  have G_Form_names : FnOk P w K mg base CX0 1 T.a_Form_names T.d_Form_names ["self"] (sp_Form_names T) := ok_Form_names T
  refine T.F__law_said.ok sc__law_said (fun vs H Q E h => ?_) (fun cdv A outer s H vs Q E hr h => ?_)
  · obtain ⟨rows, S, ds, _, hd, ⟨rfl, _⟩, _⟩ := h
    rw [dpAll_len hd]
    rfl
  · obtain ⟨rows, S, ds, dm, hd, ⟨rfl, hrows, hz⟩, q⟩ := h
    cases hd with
    | cons hd t =>
    cases t
    rename_i v0
    refine ⟨(tSeq (tAsg (tLc (iList K (tVar 0)) (gName 7) tYes (tCall (sp__law_made_row T 11) [] E0 (tCons (tVar 7) tNil)) [7]) (gName 1))
  (tSeq (tAsg (tCB (gListOf K) (tCons (tVar 1) tNil)) (gName 2))
  (tSeq (tTryAs K (.ref T.C_HallError) 4 (fun W => (tAsg (tMakeS T.C_Form (sp_Form_new T) [] (WE W) (tCons (tVar 1) tNil)) (gName 3))) (fun xa xc xd => (tSeq (tAsg (tLst (tCons (tCB (rIsX K xa xc xd) (tCons (tVar 4) (tCons (tC (.ref T.C_BadCount)) tNil))) (tCons (tCB (rIsX K xa xc xd) (tCons (tVar 4) (tCons (tC (.ref T.C_NoName)) tNil))) (tCons (tCB (rIsX K xa xc xd) (tCons (tVar 4) (tCons (tC (.ref T.C_Twice)) tNil))) (tCons (tCB (rIsX K xa xc xd) (tCons (tVar 4) (tCons (tC (.ref T.C_NoQuestion)) tNil))) tNil))))) (gName 5))
  (tSeq (tDrop (tBM K "list" rAppend (tVar 5) (tCons (tCB (rIsX K xa xc xd) (tCons (tVar 4) (tCons (tC (.ref T.C_NoFit)) tNil))) tNil)))
  (tSeq (tIfS (tOr (tTest (tOp rNe (tBM K "list" (rCntB K) (tVar 5) (tCons (tC (.bl true)) tNil)) (tC (.int 1)))) (tOr (tNot (tB (tCB (rIsX K xa xc xd) (tCons (tVar 4) (tCons (tC (.ty "ValueError")) tNil))))) (tTest (tOp (rNeS K) (tVar 1) (tVar 2))))) (tRet (tTup (tCons (tC (.str "several")) tNil))) tNext)
  (tSeq (tAsg (tOp (rIxL K) (tLst (tCons (tC (.str "count")) (tCons (tC (.str "name")) (tCons (tC (.str "twice")) (tCons (tC (.str "question")) (tCons (tC (.str "fit")) tNil)))))) (tBM K "list" (rIndexD K) (tVar 5) (tCons (tC (.bl true)) tNil))) (gName 6))
  (tRet (tIf (tTest (tOp rEq (tVar 6) (tC (.str "count")))) (tTup (tCons (tVar 6) (tCons (tXf xa xc xd T.C_BadCount "what" (tVar 4)) (tCons (tXf xa xc xd T.C_BadCount "count" (tVar 4)) tNil)))) (tTup (tCons (tVar 6) (tCons (tNameOf T xa xc xd) tNil)))))))))))
  (tSeq (tIfS (tOr (tTest (tOp (rNeS K) (tMeth T.C_Form "outline" (sp_Form_outline T) [] E0 (tVar 3) tNil) (tVar 2))) (tOr (tTest (tOp (rNeS K) (tVar 1) (tVar 2))) (tTest (tOp rNe (tCB (gLenQ K) (tCons (tMeth T.C_Form "outline" (sp_Form_outline T) [] E0 (tVar 3) tNil) tNil)) (tCB (gLenQ K) (tCons (tVar 0) tNil)))))) (tRet (tTup (tCons (tC (.str "outline")) tNil))) tNext)
  (tRet (tTup (tCons (tC (.str "told")) (tCons (tMeth T.C_Form "names" (sp_Form_names T) [] E0 (tVar 3) tNil) tNil)))))))),
(pss_cons (ps_setLc (i := 1) (own := [("_law_row", 7)]) (g := (gName 7)) (tt := tYes) (te := (tCall (sp__law_made_row T 11) [] E0 (tCons (tVar 7) tNil))) rfl sc__law_said.nd rfl rfl (sw_true rfl rfl rfl (by decide +kernel)) (pi_list (pv 0)) (blkOk_by (N := ["_law_rows_here", "_law_handed", "_law_kept", "_law_form_here", "e", "_law_kinds", "_law_word", "_law_row"]) (sc := defScope s__law_said) (own := [("_law_row", 7)]) (by decide +kernel)) (fun _ _ _ _ _ => (pg_name (i := 7) sc__law_said.nd rfl (.inl rfl))) (fun _ _ _ _ _ => pts_nil) (fun _ _ _ _ _ => (pe_call (G__law_made_row.mono (by omega)) hr (by rfl) T.g__law_made_row T.F__law_made_row.kp T.b__law_made_row .nil pass0 (pa_cons (pv 7) pa_nil))))
  (pss_cons (ps_set (i := 2) sc__law_said.nd rfl (.inl rfl) (pe_callTy call_list_of (by rfl) T.z_list (by decide +kernel) (pa_cons (pv 1) pa_nil)))
  (pss_cons (ps_tryAs (i := 4) rfl rfl sc__law_said.nd rfl rfl ⟨by rfl, by decide, .inl T.gx_HallError⟩ (fun W pn xe tk _ => (pss_one (ps_set (i := 3) sc__law_said.nd rfl (.inl rfl) (pe_makeS T.M_Form (G_Form_new.mono (by omega)) hr (by rfl) T.gc_Form T.b_Form_new .nil (fun σ => passAt tk σ) (pa_cons (pv 1) pa_nil))))) (fun xa oe xc xd pn hz hf => (pss_cons (ps_set (i := 5) sc__law_said.nd rfl (.inl rfl) (pe_lst (pa_cons (pe_callB (call_isX hz hf) (by rfl) T.z_isinstance (by decide +kernel) (pa_cons (pv 4) (pa_cons (pe_glob (by rfl) T.gx_BadCount rfl) pa_nil))) (pa_cons (pe_callB (call_isX hz hf) (by rfl) T.z_isinstance (by decide +kernel) (pa_cons (pv 4) (pa_cons (pe_glob (by rfl) T.gx_NoName rfl) pa_nil))) (pa_cons (pe_callB (call_isX hz hf) (by rfl) T.z_isinstance (by decide +kernel) (pa_cons (pv 4) (pa_cons (pe_glob (by rfl) T.gx_Twice rfl) pa_nil))) (pa_cons (pe_callB (call_isX hz hf) (by rfl) T.z_isinstance (by decide +kernel) (pa_cons (pv 4) (pa_cons (pe_glob (by rfl) T.gx_NoQuestion rfl) pa_nil))) pa_nil))))))
  (pss_cons (ps_expr (pe_bm PySem.F.plainAttrs_list PySem.F.slot_list_append PySem.F.type_list_append mt_append (pv 5) (pa_cons (pe_callB (call_isX hz hf) (by rfl) T.z_isinstance (by decide +kernel) (pa_cons (pv 4) (pa_cons (pe_glob (by rfl) T.gx_NoFit rfl) pa_nil))) pa_nil)))
  (pss_cons (ps_if (PW.pt (pw_or (pt_cmpR op_ne (pe_bm PySem.F.plainAttrs_list PySem.F.slot_list_count PySem.F.type_list_count mt_countB (pv 5) (pa_cons pe_bl pa_nil)) pe_int (nomark _)) (pw_or (pt_not (pt_val (pe_callB (call_isX hz hf) (by rfl) T.z_isinstance (by decide +kernel) (pa_cons (pv 4) (pa_cons (pe_bltn (by rfl) T.z_ValueError (by decide +kernel) rfl) pa_nil))))) (pw_or1 (pt_cmpR (op_neS hr.units) (pv 1) (pv 2) (nomark _)))))) (pss_one (ps_ret (pe_tup (pa_cons pe_str pa_nil)))) pss_nil)
  (pss_cons (ps_set (i := 6) sc__law_said.nd rfl (.inl rfl) (pe_ix ix_list (pe_lst (pa_cons pe_str (pa_cons pe_str (pa_cons pe_str (pa_cons pe_str (pa_cons pe_str pa_nil)))))) (pe_bm PySem.F.plainAttrs_list PySem.F.slot_list_index PySem.F.type_list_index (mt_indexD (have z := hr65 hr; z)) (pv 5) (pa_cons pe_bl pa_nil)) (fun _ _ => rfl)))
  (pss_one (ps_ret (pe_ifExp (pt_cmpR op_eq (pv 6) pe_str (nomark _)) (pe_tup (pa_cons (pv 6) (pa_cons (pe_xf T.xf_BadCount T.nx_BadCount_what hz hf (pv 4)) (pa_cons (pe_xf T.xf_BadCount T.nx_BadCount_count hz hf (pv 4)) pa_nil)))) (pe_tup (pa_cons (pv 6) (pa_cons (pe_alt (pe_xf T.xf_NoName T.nx_NoName_name hz hf (pv 4)) (pe_alt (pe_xf T.xf_Twice T.nx_Twice_name hz hf (pv 4)) (pe_alt (pe_xf T.xf_NoQuestion T.nx_NoQuestion_name hz hf (pv 4)) (pe_xf T.xf_NoFit T.nx_NoFit_name hz hf (pv 4))))) pa_nil))))))))))))
  (pss_cons (ps_if (PW.pt (pw_or (pt_cmpR (op_neS hr.units) (pe_meth0 (pv 3) T.cl_Form T.m_Form_outline (G_Form_outline.mono (by omega)) hr T.b_Form_outline .nil pass0 ) (pv 2) (nomark _)) (pw_or (pt_cmpR (op_neS hr.units) (pv 1) (pv 2) (nomark _)) (pw_or1 (pt_cmpR op_ne (pe_callB call_len_seq (by rfl) T.z_len (by decide +kernel) (pa_cons (pe_meth0 (pv 3) T.cl_Form T.m_Form_outline (G_Form_outline.mono (by omega)) hr T.b_Form_outline .nil pass0 ) pa_nil)) (pe_callB call_len_seq (by rfl) T.z_len (by decide +kernel) (pa_cons (pv 0) pa_nil)) (nomark _)))))) (pss_one (ps_ret (pe_tup (pa_cons pe_str pa_nil)))) pss_nil)
  (pss_one (ps_ret (pe_tup (pa_cons pe_str (pa_cons (pe_meth0 (pv 3) T.cl_Form T.m_Form_names (G_Form_names.mono (by omega)) hr T.b_Form_names .nil pass0 ) pa_nil))))))))), ?_⟩
    have hdH : Dp K H v0 (.list (rowsP rows)) := dp_up (offS_same _ _) hd
    refine q_seq ?_
    refine (en_rows T (sp' := sp__law_made_row T 11) (m := 11) (j := 7) (te := tVar 0) (u := v0) (fun _ _ _ _ h => h) (ev_var rfl) hdH (fun r hr => (hrows r hr).1) (fun r hr => Nat.le_of_lt_succ (hrows r hr).2) (show cnts rows ≤ 90000 by omega) (fun x => rfl) (fun x => rfl)) H (Same.refl _) _ fun hv H1 e1 hhv => ?_
    obtain ⟨lh, us, rfl, hl, hpd⟩ := hhv
    obtain ⟨hlf, hl1⟩ := dif_some.mp hl
    have hro : RowsO T (dif H H1) us rows := RowsO.of hpd
    have hlen := pd_len hpd
    obtain ⟨ps, rfl⟩ := rows_refs hro
    rw [List.length_map] at hlen
    refine q_asgL (el_listOf (K := K) (ev_var (i := 1) rfl) (.inl (SqL.of hl1))) fun lk H2 nk e2 hk => ?_
    have e2 : Same H1 H2 := e2
    have e02 := e1.trans e2
    have hl2 := e2 _ _ hl1
    refine q_seq ?_
    refine ⟨.ref lh, rfl, fun x dx nx ndx ne => ?_⟩
    have e3 : Same H2 (upd (upd H2 dx (.own x)) x (.ins T.C_Form dx [])) := Same.trans (same_new ndx) (same_new (by rw [upd_ne ne.symm]; exact nx))
    have nlx : lh ≠ x := ne_of_none hl2 nx
    have s3 : Same (dif H H1) (off x (upd (upd H2 dx (.own x)) x (.ins T.C_Form dx []))) := fun c o hc => by
      obtain ⟨h1, h2⟩ := dif_some.mp hc
      have c2 := e2 _ _ h2
      exact off_some.mpr ⟨ne_of_none c2 nx, e3 _ _ c2⟩
    have back : ∀ {H' : Hp}, (∀ b o, (upd (upd H2 dx (.own x)) x (.ins T.C_Form dx [])) b = some o → b ≠ x → H' b = some o) → Same H2 H' := fun kp c o hc => kp c o (e3 _ _ hc) (ne_of_none hc nx)
    have nS : ∀ {c : Addr} {H6 : Hp}, Same H H6 → H6 c = none → c ∉ S := fun {c H6} s6 n m => by
      obtain ⟨o, ho⟩ := dm c m
      rw [s6 _ _ ho] at n
      cases n
    refine ⟨x, dx, lh, ps.map V.ref, rows, rfl, upd_same, SqL.of (off_some.mpr ⟨nlx, e3 _ _ hl2⟩), hro.up s3, fun r hr => (hrows r hr).2, rowsOk_iff.mpr fun r hr => (hrows r hr).1, by omega, fun ns hns H' kp FO => ⟨rfl, ?_⟩, fun f hf dd H' kp ndd hdd => ?_⟩
    · have s2 : Same H2 H' := back kp
      have s0 : Same H H' := e02.trans s2
      obtain ⟨l0, d0, t0, st, ⟨⟨dx', ob⟩, _, _⟩, _, _⟩ := FO.ex
      obtain ⟨a0, xs0, rfl, hs0, hxs0⟩ := dp_lst hdH
      have hx0 : xs0.length = rows.length := by rw [dpAll_len hxs0, rowsP_len]
      have out : EvL (tMeth T.C_Form "outline" (sp_Form_outline T) [] E0 (tVar 3) tNil) [some (.ref a0), some (.ref lh), some (.ref lk), some (.ref x), none, none, none, none] H' (ps.map V.ref) := fun H4 e4 Q' q' => ⟨.ref x, rfl, x, dx', _, rfl, e4 _ _ ob, rfl, x, _, ns, rfl, FO.up e4, fun l H5 nl e5 hl5 => q' l H5 nl e5 hl5⟩
      have E1 : Ev (tOp (rNeS K) (tMeth T.C_Form "outline" (sp_Form_outline T) [] E0 (tVar 3) tNil) (tVar 2)) [some (.ref a0), some (.ref lh), some (.ref lk), some (.ref x), none, none, none, none] H' (.bl false) := fun H4 e4 Q' q' => out H4 e4 _ fun l H5 nl e5 hl5 => ⟨.ref lk, rfl, l, lk, ps, rfl, rfl, SqL.of hl5, SqL.of (e5 _ _ (e4 _ _ (s2 _ _ hk))), q' H5 e5⟩
      have E2 : Ev (tOp (rNeS K) (tVar 1) (tVar 2)) [some (.ref a0), some (.ref lh), some (.ref lk), some (.ref x), none, none, none, none] H' (.bl false) := fun H4 e4 Q' q' => ⟨.ref lh, rfl, .ref lk, rfl, lh, lk, ps, rfl, rfl, SqL.of (e4 _ _ (s2 _ _ hl2)), SqL.of (e4 _ _ (s2 _ _ hk)), q' H4 (Same.refl _)⟩
      have N1 : Ev (tCB (gLenQ K) (tCons (tMeth T.C_Form "outline" (sp_Form_outline T) [] E0 (tVar 3) tNil) tNil)) [some (.ref a0), some (.ref lh), some (.ref lk), some (.ref x), none, none, none, none] H' (.int (ps.length : Int)) := fun H4 e4 Q' q' => out H4 e4 _ fun l H5 nl e5 hl5 => ⟨l, _, rfl, .inl (SqL.of hl5), by rw [List.length_map]; exact q' H5 e5⟩
      have N2 : Ev (tCB (gLenQ K) (tCons (tVar 0) tNil)) [some (.ref a0), some (.ref lh), some (.ref lk), some (.ref x), none, none, none, none] H' (.int (xs0.length : Int)) := ev_lenS (K := K) (ev_var rfl) (.inl (sq_mono s0 hs0))
      refine q_when (b := false) (et_is (et_or (et_test E1) fun _ => et_or (et_test E2) fun _ => et_test (ev_neS N1 N2 rfl)) (by rw [hx0, hlen, decide_eq_true rfl]; rfl)) (fun z => by cases z) (fun _ H4 e4 => ?_)
      have e4 : Same H' H4 := e4
      refine ⟨.ref x, rfl, x, dx', _, rfl, e4 _ _ ob, rfl, x, _, ns, rfl, FO.up e4, fun l H5 nl e5 hl5 => ⟨by show 2 ≤ sizeLine; decide, fun t nt => ?_⟩⟩
      have s4 := s0.trans e4
      have s5 := s4.trans e5
      have e6 : Same H5 (upd H5 t (.tup [.str "told", .ref l])) := same_new nt
      refine q _ _ _ (s5.trans e6) rfl ?_
      rw [hns]
      exact .tup (SqT.of (offS_some.mpr ⟨nS s5 nt, upd_same⟩)) (.cons (.str _) (.cons (.lst (xs := ns.map V.str) (SqL.of (offS_some.mpr ⟨nS s4 nl, e6 _ _ hl5⟩)) (dp_strs _)) .nil))
    · have s2 : Same H2 H' := back kp
      have s0 : Same H H' := e02.trans s2
      refine ⟨true, eh_fault T f, fun _ xa nxa => ?_, fun z => by cases z⟩
      refine said_fault (f := f) hdd (s2 _ _ hl2) (s2 _ _ hk) fun p H3 np s3' dp => ?_
      show Q (.ref p) H3
      exact q _ _ H3 (s0.trans s3') rfl (by rw [hf]; exact dp S (nS s0 np))
end SF
namespace SF
open PySem PySem.Spec PyProof.Rows L2 GK Evl LamX
/-! ### the texts of what is due -/
def Fault.strs : Fault → List Str
  | .count what _ => [what]
  | .name s => [s]
  | .twice s => [s]
  | .question s => [s]
  | .fit s => [s]
def Fault.sk (f : Fault) : Prop := ∀ s ∈ f.strs, PyData.strOk s = true
theorem sk1 {f : Fault} {s : Str} (h : f.strs = [s]) (hs : PyData.strOk s = true) : f.sk := fun x hx => by
  rw [h, List.mem_singleton] at hx
  subst hx
  exact hs
theorem py_shp {a s : Str} {rest : List PyData} (ha : PyData.strOk a = true) (hs : PyData.strOk s = true) (hr : rest = [] ∨ ∃ n, rest = [.int n]) : SeqAt.shaped (.tuple (.str a :: .str s :: rest)) = true := by
  rcases hr with rfl | ⟨n, rfl⟩
  · exact shp (by simp [PyData.canLay0, PyData.canLayAll0, ha, hs]) (by simp [PyData.depth, PyData.depthAll])
  · exact shp (by simp [PyData.canLay0, PyData.canLayAll0, ha, hs]) (by simp [PyData.depth, PyData.depthAll])
theorem fault_shp {f : Fault} (h : f.sk) : SeqAt.shaped f.py = true := by
  cases f with
  | count what n => exact py_shp (by decide +kernel) (h what (by simp [Fault.strs])) (.inr ⟨n, rfl⟩)
  | name s => exact py_shp (by decide +kernel) (h s (by simp [Fault.strs])) (.inl rfl)
  | twice s => exact py_shp (by decide +kernel) (h s (by simp [Fault.strs])) (.inl rfl)
  | question s => exact py_shp (by decide +kernel) (h s (by simp [Fault.strs])) (.inl rfl)
  | fit s => exact py_shp (by decide +kernel) (h s (by simp [Fault.strs])) (.inl rfl)
theorem say_ok : ∀ {c : Cnd}, c.ok → ∀ s ∈ says c, sOk s.1 := fun {c} => by
  induction c with
  | is n o => intro h s hs; simp only [says, List.mem_singleton] at hs; subst hs; exact h.1
  | has n o => intro h s hs; simp only [says, List.mem_singleton] at hs; subst hs; exact h.1
  | abv n k => intro h s hs; simp only [says, List.mem_singleton] at hs; subst hs; exact h
  | blw n k => intro h s hs; simp only [says, List.mem_singleton] at hs; subst hs; exact h
  | not c ih => intro h s hs; exact ih h s hs
  | both a b ia ib =>
    intro h s hs
    rcases List.mem_append.mp (show s ∈ says a ++ says b from hs) with z | z
    · exact ia h.1 s z
    · exact ib h.2 s z
  | either a b ia ib =>
    intro h s hs
    rcases List.mem_append.mp (show s ∈ says a ++ says b from hs) with z | z
    · exact ia h.1 s z
    · exact ib h.2 s z
theorem speak_err {st : Stt} {n : Str} {here : Nat} {f : Fault} (h : speak st n here = .error f) : f = .question n := by
  unfold speak at h
  cases z : getA st.asked n with
  | none => rw [z] at h; cases h; rfl
  | some rk =>
    obtain ⟨r, k⟩ := rk
    rw [z] at h
    simp only at h
    split at h
    · cases h
    · cases h; rfl
theorem say_sk {st : Stt} {here : Nat} {s : Say} {f : Fault} (hs : sOk s.1) (h : sayFault st here s = some f) : f.sk := by
  unfold sayFault at h
  cases z : speak st s.1 here with
  | error g =>
    rw [z] at h
    cases h
    rw [speak_err z]
    exact sk1 rfl hs.2
  | ok r =>
    rw [z] at h
    simp only at h
    split at h
    · cases h
    · cases h; exact sk1 rfl hs.2
theorem fs_mem {α β : Type} {f : α → Option β} : ∀ {xs : List α} {y : β}, xs.findSome? f = some y → ∃ x ∈ xs, f x = some y
  | [], y, h => by cases h
  | x :: xs, y, h => by
    rw [List.findSome?_cons] at h
    cases z : f x with
    | some w =>
      rw [z] at h
      cases h
      exact ⟨x, List.mem_cons_self, z⟩
    | none =>
      rw [z] at h
      obtain ⟨x', h1, h2⟩ := fs_mem h
      exact ⟨x', List.mem_cons_of_mem _ h1, h2⟩
theorem cond_sk {st : Stt} {here : Nat} {c : Cnd} {f : Fault} (hc : c.ok) (h : condFault st here c = some f) : f.sk := by
  obtain ⟨s, h1, h2⟩ := fs_mem h
  exact say_sk (say_ok hc s h1) h2
theorem dup_mem : ∀ {xs seen : List Str} {s : Str}, firstDup seen xs = some s → s ∈ xs
  | [], _, _, h => by cases h
  | x :: xs, seen, s, h => by
    rw [firstDup] at h
    split at h
    · cases h; exact List.mem_cons_self
    · exact List.mem_cons_of_mem _ (dup_mem h)
theorem opt_sk {most : Nat} {os : List Str} {f : Fault} (hs : ∀ s ∈ os, sOk s) (h : optFault most os = some f) : f.sk := by
  unfold optFault at h
  split at h
  · cases h; exact sk1 rfl (by decide +kernel)
  · unfold optTail at h
    cases z : firstBad os with
    | some s =>
      rw [z] at h
      cases h
      exact sk1 rfl (hs s (List.mem_of_find?_eq_some z)).2
    | none =>
      rw [z] at h
      cases y : firstDup [] os with
      | none => rw [y] at h; cases h
      | some s =>
        rw [y] at h
        cases h
        exact sk1 rfl (hs s (dup_mem y)).2
theorem field_sk {r : Rw} {f : Fault} (hr : r.ok) (h : fieldFault r = some f) : f.sk := by
  cases r with
  | one n os c => exact opt_sk hr.2.2.1 h
  | som n os c => exact opt_sk hr.2.2.1 h
  | number n lo hi c =>
    have h : (if lo > hi then some (Fault.count "bounds" hi) else none) = some f := h
    split at h
    · cases h; exact sk1 rfl (by decide +kernel)
    · cases h
  | check => cases h
  | sec => cases h
  | rnd => cases h
theorem leaf_sk {st : Stt} {n : Str} {r : Rw} {f : Fault} (hn : sOk n) (hr : r.ok) (h : leafFault st n r = some f) : f.sk := by
  unfold leafFault at h
  split at h
  · cases h; exact sk1 rfl hn.2
  · split at h
    · cases h; exact sk1 rfl hn.2
    · exact field_sk hr h
theorem head_sk {st : Stt} {here : Nat} {r : Rw} {f : Fault} (hr : r.ok) (h : headFault st here r = some f) : f.sk := by
  cases r with
  | one n os c => exact leaf_sk hr.1 hr h
  | som n os c => exact leaf_sk hr.1 hr h
  | number n lo hi c => exact leaf_sk hr.1 hr h
  | check n m c => exact leaf_sk hr.1 hr h
  | sec rows c =>
    have h : (if rows.isEmpty then some (Fault.count "rows" 0) else none) = some f := h
    split at h
    · cases h; exact sk1 rfl (by decide +kernel)
    · cases h
  | rnd n rows c =>
    have h : (if rows.isEmpty then some (Fault.count "rows" 0) else if here ≠ 0 then some (.count "rounds" 2) else countFault st n here) = some f := h
    split at h
    · cases h; exact sk1 rfl (by decide +kernel)
    · split at h
      · cases h; exact sk1 rfl (by decide +kernel)
      · unfold countFault at h
        cases z : speak st n here with
        | error g =>
          rw [z] at h
          cases h
          rw [speak_err z]
          exact sk1 rfl hr.1.2
        | ok q =>
          rw [z] at h
          simp only at h
          split at h
          · cases h
          · cases h; exact sk1 rfl hr.1.2
theorem conds_ok {r : Rw} (hr : r.ok) : ∀ c ∈ r.conds, c.ok := by
  intro c hc
  unfold Rw.conds at hc
  rcases List.mem_append.mp hc with z | z
  · have hw := Rw.wh_ok hr
    cases e : r.wh with
    | none => rw [e] at z; cases z
    | some c' =>
      rw [e] at z hw
      rw [show (some c').toList = [c'] from rfl, List.mem_singleton] at z
      subst z
      exact hw.1
  · cases r with
    | check n m c' =>
      rw [List.mem_singleton] at z
      subst z
      exact hr.2.1
    | one => cases z
    | som => cases z
    | number => cases z
    | sec => cases z
    | rnd => cases z
theorem at_sk {st : Stt} {here : Nat} {r : Rw} {f : Fault} (hr : r.ok) (h : atFault st here r = some f) : f.sk := by
  unfold atFault at h
  cases z : headFault st here r with
  | some g =>
    rw [z] at h
    cases h
    exact head_sk hr z
  | none =>
    rw [z] at h
    obtain ⟨c, h1, h2⟩ := fs_mem h
    exact cond_sk (conds_ok hr c h1) h2
def AskOk (st : Stt) : Prop := ∀ a ∈ st.asked, PyData.strOk a.1 = true
def Fine (e : Except Fault Stt) : Prop := match e with
  | .error f => f.sk
  | .ok st => AskOk st
theorem step_fine {go : Stt → List Rw → Nat → Except Fault Stt} {here : Nat} {st : Stt} {r : Rw} (hgo : ∀ st rows h, (∀ r ∈ rows, r.ok) → AskOk st → Fine (go st rows h)) (hr : r.ok) (hs : AskOk st) : Fine (step go here st r) := by
  unfold step
  cases z : atFault st here r with
  | some f => exact at_sk hr z
  | none =>
    have app : ∀ (n : Str) (q : Rw), sOk n → AskOk { st with named := st.named ++ [n], asked := st.asked ++ [(n, q, here)] } := fun n q hn a ha => by
      rcases List.mem_append.mp ha with y | y
      · exact hs a y
      · rw [List.mem_singleton] at y
        subst y
        exact hn.2
    cases r with
    | sec rows c => exact hgo st rows here (rowsOk_iff.mp hr.1) hs
    | rnd n rows c => exact hgo { st with rounds := st.rounds + 1 } rows _ (rowsOk_iff.mp hr.2.1) hs
    | one n os c => exact app n _ hr.1
    | som n os c => exact app n _ hr.1
    | number n lo hi c => exact app n _ hr.1
    | check n m c => exact hs
theorem looksL_fine {go : Stt → List Rw → Nat → Except Fault Stt} (hgo : ∀ st rows h, (∀ r ∈ rows, r.ok) → AskOk st → Fine (go st rows h)) {here : Nat} : ∀ {rows : List Rw} {st : Stt}, (∀ r ∈ rows, r.ok) → AskOk st → Fine (looksL go here st rows)
  | [], st, _, h => h
  | r :: rs, st, hr, h => by
    rw [looksL]
    have z := step_fine (here := here) hgo (hr r List.mem_cons_self) h
    cases e : step go here st r with
    | error f => rw [e] at z; exact z
    | ok st' =>
      rw [e] at z
      exact looksL_fine hgo (fun x hx => hr x (List.mem_cons_of_mem _ hx)) z
theorem looks_fine : ∀ (m : Nat) (st : Stt) (rows : List Rw) (here : Nat), (∀ r ∈ rows, r.ok) → AskOk st → Fine (looks m st rows here)
  | 0, st, rows, here, _, h => h
  | m + 1, st, rows, here, hr, h => looksL_fine (looks_fine m) hr h
theorem due_shp {rows : List Rw} (h : ∀ r ∈ rows, r.ok) : SeqAt.shaped (duePy (due rows)) = true := by
  unfold due
  split
  · have z := looks_fine 12 ⟨[], [], 0⟩ rows 0 h (fun a ha => by cases ha)
    cases e : looks 12 ⟨[], [], 0⟩ rows 0 with
    | error f => rw [e] at z; exact fault_shp z
    | ok st =>
      rw [e] at z
      have z : AskOk st := z
      have l := strs_lay (ss := st.asked.map (·.1)) fun s hs => by
        obtain ⟨a, ha, rfl⟩ := List.mem_map.mp hs
        exact z a ha
      refine shp ?_ ?_
      · simp only [duePy, PyData.canLay0, PyData.canLayAll0, l.1, Bool.and_true]
        decide +kernel
      · simp only [duePy, PyData.depth, PyData.depthAll, l.2]
        decide
  · exact fault_shp (f := .count "rows" (cnts rows : Int)) (sk1 (s := "rows") rfl (by decide +kernel))
end SF
namespace SF
open PySem PySem.Spec PyProof.Rows L2 GK Evl LamX
variable {P : Program} {w : World} {K : PySem.W.Frag} {mg : Str → Option Value} {base : Heap}
/-! ### the law -/
def cc (i : Nat) : Nat := 2001 * 2 ^ i - 1
theorem cc_succ (i : Nat) : 2 * cc i + 1 = cc (i + 1) := by
  unfold cc
  rw [Nat.pow_succ]
  have : 1 ≤ 2 ^ i := Nat.one_le_two_pow
  omega
theorem cc_le (i : Nat) : cc i ≤ cc (i + 1) := by
  have := cc_succ i
  omega
theorem cnts_le {b : Nat} : ∀ {rows : List Rw}, (∀ r ∈ rows, r.cnt ≤ b) → cnts rows ≤ rows.length * b
  | [], _ => by simp [cnts]
  | r :: rs, h => by
    have h1 := cnts_le (rows := rs) fun x hx => h x (List.mem_cons_of_mem _ hx)
    have h2 := h r List.mem_cons_self
    rw [cnts, List.length_cons, Nat.succ_mul]
    omega
theorem drawn_sz {d : PyData} (h : drawnP d) : rowsD (cc 0) 3 100 d := by
  obtain ⟨rows, rfl, hl, hr⟩ := h
  refine ⟨rows, rfl, fun r h => (hr r h).ok, ?_, fun r h => (hr r h).dep, fun r h => (hr r h).wid⟩
  have h1 : cnts rows ≤ rows.length * 40 := cnts_le fun r h => (hr r h).cnt
  have h2 : cc 0 = 2000 := rfl
  omega
theorem big_sz {d : PyData} (h : rowsD 200 1 0 d) : rowsD (cc 0) 3 100 d := by
  obtain ⟨rows, rfl, hz⟩ := h
  exact ⟨rows, rfl, hz.mono (by decide) (by omega) (by omega)⟩
/-- names of rows that are neither sections nor rounds -/
def leafD (d : PyData) : Bool := match d with
  | .tuple (.str k :: _) => !decide (k ∈ [("section" : Str), "rounds"])
  | _ => false
theorem leafD_py (r : Rw) : leafD r.py = !decide (r.kd ∈ [("section" : Str), "rounds"]) := by
  rw [Rw.py_tl]
  rfl
theorem leafD_inn {r : Rw} (h : leafD r.py = true) : r.inn = none := by
  rw [leafD_py] at h
  cases r with
  | one => rfl
  | som => rfl
  | number => rfl
  | check => rfl
  | sec => exact absurd h (show ¬ (!decide (("section" : Str) ∈ [("section" : Str), "rounds"])) = true by decide)
  | rnd => exact absurd h (show ¬ (!decide (("rounds" : Str) ∈ [("section" : Str), "rounds"])) = true by decide)
theorem cut_memV {xs : List V} {lo hi : Option Int} {x : V} (h : x ∈ cutV xs lo hi) : x ∈ xs := List.mem_of_mem_drop (List.mem_of_mem_take h)
def evQ (d : PyData) : Prop := ∃ ss : List Str, ss.length ≤ 5000 ∧ (∀ s ∈ ss, sOk s) ∧ d = .list (ss.map .str)
theorem pd_names {f : PyData → Bool} : ∀ {ds es : List PyData}, Paired (fun (e d : PyData) => ∃ s, e = .str s ∧ sOk s) es ds → ∃ ss : List Str, es = ss.map .str ∧ ss.length = ds.length ∧ ∀ s ∈ ss, sOk s
  | [], _, h => by cases h; exact ⟨[], rfl, rfl, fun s hs => by cases hs⟩
  | d :: ds, _, h => by
    cases h with
    | cons r t =>
      obtain ⟨ss, rfl, h2, h3⟩ := pd_names (f := f) t
      obtain ⟨s, rfl, hs⟩ := r
      exact ⟨s :: ss, rfl, by rw [List.length_cons, List.length_cons, h2], fun x hx => by
        rcases List.mem_cons.mp hx with z | z
        · subst z; exact hs
        · exact h3 x z⟩
section
variable {R : Rg} {σ : L2.St} {H : Hp} {v : V}
theorem x_every (T : Txt K mg) {rows : List Rw} {c d l : Nat} (hlen : σ.length = 8) (h4 : σ[4]? = some (some v)) (hv : Dp K (R.off H) v (.list (rowsP rows))) (hz : Sz c d l rows) (hc : c ≤ 5000) (hd : d ≤ 12) :
    EvX R (tLc (iList K (tCall (sp__law_all T 12) [] E0 (tCons (tVar 4) tNil))) (gName 7) (tTest (tOp (rIn K true) (tOp (rIxT K) (tVar 7) (tC (.int 0))) (tLst (tCons (tC (.str "section")) (tCons (tC (.str "rounds")) tNil))))) (tOp (rIxT K) (tVar 7) (tC (.int 1))) [7]) σ H (Dt K evQ) := by
  have at7 : ∀ x, ((wipe σ [7]).set 7 (some x))[7]? = some (some x) := fun x => by
    rw [List.getElem?_set_self]
    rw [wipe_length, hlen]
    decide
  have hw : ∀ x, wipe ((wipe σ [7]).set 7 (some x)) [7] = wipe σ [7] := fun x => by
    show ((σ.set 7 none).set 7 (some x)).set 7 none = σ.set 7 none
    rw [List.set_set, List.set_set]
  have hcn := hz.cnt
  have hdep : deps rows ≤ 12 := deps_le fun r hr => Nat.le_trans (hz.dep r hr) hd
  have of : ∀ {i : Nat} {e : PyData}, (rowsP (allR rows))[i]? = some e → ∃ r : Rw, r.ok ∧ e = r.py := fun {i e} hi => by
    rw [rowsP_map, List.getElem?_map] at hi
    obtain ⟨r, hr, rfl⟩ := Option.map_eq_some_iff.mp hi
    exact ⟨r, allR_ok rows (rowsOk_iff.mpr hz.ok) r (List.mem_of_getElem? hr), rfl⟩
  refine x_lc (A := fun d => d = .list (rowsP (allR rows))) (L := fun ds => ds = rowsP (allR rows)) (f := leafD) (E := fun d e => ∃ s, e = .str s ∧ sOk s)
    (x_pureI (K := K) (Pre := allPre 12 rows) (Post := fun _ d => d = .list (rowsP (allR rows))) (Ps := [fun d => d = .list (rowsP rows)]) (fun vs H Q E h => ⟨rows, h⟩) (ds_cons (x_d (i := 4) h4 hv rfl) ds_nil) (fun ds al => by
      cases al with
      | cons h1 t => cases t; exact ⟨by rw [h1], hdep, by omega⟩) (fun _ d _ h => h))
    (fun d hd => ⟨_, hd, by rw [rowsP_len, allR_len]; omega, rfl⟩) hw (fun p acc H1 np hI sm ds i d x hL hi hx => ?_) (fun p acc H1 np hI sm ds i d x hL hi hf hx => ?_) (fun ds es hL pd => ?_)
  · subst hL
    obtain ⟨r, hr, rfl⟩ := of hi
    have hx' := hx
    rw [Rw.py_tl] at hx'
    refine xt_test (x_in (K := K) (neg := true) (A := fun d => d = .str r.kd) (B := fun d => d = .list ([("section" : Str), "rounds"].map .str)) (x_at (j := 7) (n := 0) (at7 _) hx' rfl rfl) (x_li (ds_cons (x_s (A := fun s => s = "section") rfl) (ds_cons (x_s (A := fun s => s = "rounds") rfl) ds_nil)) fun ds al => by
      obtain ⟨a, b, rfl, ⟨_, rfl, rfl⟩, ⟨_, rfl, rfl⟩⟩ := al2 al
      rfl) fun d e hd he => ?_)
    subst hd he
    refine ⟨_, .inl rfl, rfl, flat_strs, ?_⟩
    rw [leafD_py, any_str]
    rfl
  · subst hL
    obtain ⟨r, hr, rfl⟩ := of hi
    obtain ⟨n, tl, hleaf, htl, _, hnok⟩ := Rw.leaf_of (leafD_inn hf)
    have hx' := hx
    rw [Rw.py_tl, htl] at hx'
    exact x_at (j := 7) (n := 1) (at7 _) hx' rfl ⟨n, rfl, hnok hr⟩
  · subst hL
    obtain ⟨ss, rfl, h2, h3⟩ := pd_names (f := leafD) pd
    refine ⟨ss, ?_, h3, rfl⟩
    have := List.length_filter_le leafD (rowsP (allR rows))
    rw [rowsP_len, allR_len] at this
    omega
end
def spSpoilt (T : Txt K mg) : Sp := fun vs H Q E => sp__law_spoilt T 3 vs H Q E ∨ sp__law_spoilt T 4 vs H Q E
def sp_law (K : PySem.W.Frag) : Sp := fun vs H Q _ => ∃ (a : Addr) (ns : List Int), vs = [.ref a] ∧ SqL K H a (ns.map V.int) ∧ ns.length ≤ 63 ∧ ∀ H', Q (.bl true) H'
theorem ok_law (T : Txt K mg) : FnOk P w K mg base CX0 24 T.a_law T.d_law ["_law_script"] (sp_law K) := by
  have G__law_source : FnOk P w K mg base CX0 1 T.a__law_source T.d__law_source ["_law_cell"] (sp__law_source T) := ok__law_source T
  have G__law_take : FnOk P w K mg base CX0 1 T.a__law_take T.d__law_take ["_law_source_here", "_law_many"] (sp__law_take T) := ok__law_take T
  have G__law_big : FnOk P w K mg base CX0 2 T.a__law_big T.d__law_big ["_law_source_here"] (sp__law_big T) := ok__law_big T
  have G__law_form : FnOk P w K mg base CX0 12 T.a__law_form T.d__law_form ["_law_source_here", "_law_many"] (sp__law_form T) := ok__law_form T
  have G__law_all : FnOk P w K mg base CX0 13 T.a__law_all T.d__law_all ["_law_rows_here"] (sp__law_all T 12) := ok__law_all T 12
  have G__law_spoilt : FnOk P w K mg base CX0 9 T.a__law_spoilt T.d__law_spoilt ["_law_source_here", "_law_rows_here", "_law_every"] (spSpoilt T) := ok_orX ((ok__law_spoilt T 3).mono (by omega)) (ok__law_spoilt T 4)
  have G__law_said : FnOk P w K mg base CX0 23 T.a__law_said T.d__law_said ["_law_rows_here"] (sp__law_said T) := ok__law_said T
  have G__law_due : FnOk P w K mg base CX0 20 T.a__law_due T.d__law_due ["_law_rows_here"] (sp__law_due T) := ok__law_due T
  refine T.F_law.ok sc_law (fun vs H Q E h => ?_) (fun cdv A outer s H vs Q E hr h => ?_)
  · obtain ⟨a, ns, rfl, _⟩ := h
    rfl
  · obtain ⟨a, ns, rfl, hs, hl, q⟩ := h
    refine ⟨(tSeq (tFor (iList K (tSl (rSlL K) (tOp (rCatS K) (tVar 0) (tLst (tCons (tC (.int 0)) tNil))) tNoPart (tPart (tC (.int 6))))) (gName 1)
  (tSeq (tAsg (tCall (sp__law_source T) [] E0 (tCons (tVar 1) tNil)) (gName 2))
  (tSeq (tAsg (tCall (sp__law_take T) [] E0 (tCons (tVar 2) (tCons (tC (.int 6)) tNil))) (gName 3))
  (tSeq (tAsg (tIf (tTest (tOp rEq (tVar 3) (tC (.int 5)))) (tCall (sp__law_big T) [] E0 (tCons (tVar 2) tNil)) (tCall (sp__law_form T) [] E0 (tCons (tVar 2) (tCons (tC (.int 7)) tNil)))) (gName 4))
  (tSeq (tFor (iRng1 (tCons (tOp (rI (fun _ j => 0 < j) fun i j => .int (i % j)) (tVar 3) (tC (.int 3))) tNil)) (gName 5)
  (tSeq (tAsg (tLc (iList K (tCall (sp__law_all T 12) [] E0 (tCons (tVar 4) tNil))) (gName 7) (tTest (tOp (rIn K true) (tOp (rIxT K) (tVar 7) (tC (.int 0))) (tLst (tCons (tC (.str "section")) (tCons (tC (.str "rounds")) tNil))))) (tOp (rIxT K) (tVar 7) (tC (.int 1))) [7]) (gName 6))
  (tIfS (tAnd (tTest (tOp (rNeD K) (tVar 4) (tLst tNil))) (tTest (tOp (rNeD K) (tVar 6) (tLst tNil)))) (tAsg (tCall (spSpoilt T) [] E0 (tCons (tVar 2) (tCons (tVar 4) (tCons (tVar 6) tNil)))) (gName 4)) tNext)))
  (tIfS (tOr (tTest (tOp (rNeD K) (tCall (sp__law_said T) [] E0 (tCons (tVar 4) tNil)) (tCall (sp__law_due T) [] E0 (tCons (tVar 4) tNil)))) (tTest (tOp (rNeD K) (tCall (sp__law_said T) [] E0 (tCons (tVar 4) tNil)) (tCall (sp__law_due T) [] E0 (tCons (tVar 4) tNil))))) (tRet (tC (.bl false))) tNext))))))
  (tRet (tOp (rEqD K) (tCall (sp__law_said T) [] E0 (tCons (tLst tNil) tNil)) (tTup (tCons (tC (.str "count")) (tCons (tC (.str "rows")) (tCons (tC (.int 0)) tNil))))))),
(pss_cons (ps_for PassesOwn.never rfl (pi_list (pe_slice sl_list (pe_op op_catS (pv 0) (pe_lst (pa_cons pe_int pa_nil))) po_none (po_some pe_int))) (pg_name (i := 1) sc_law.nd rfl (.inl rfl))
  (pss_cons (ps_set (i := 2) sc_law.nd rfl (.inl rfl) (pe_call (G__law_source.mono (by omega)) hr (by rfl) T.g__law_source T.F__law_source.kp T.b__law_source .nil pass0 (pa_cons (pv 1) pa_nil)))
  (pss_cons (ps_set (i := 3) sc_law.nd rfl (.inl rfl) (pe_call (G__law_take.mono (by omega)) hr (by rfl) T.g__law_take T.F__law_take.kp T.b__law_take .nil pass0 (pa_cons (pv 2) (pa_cons pe_int pa_nil))))
  (pss_cons (ps_set (i := 4) sc_law.nd rfl (.inl rfl) (pe_ifExp (pt_cmpR op_eq (pv 3) pe_int (nomark _)) (pe_call (G__law_big.mono (by omega)) hr (by rfl) T.g__law_big T.F__law_big.kp T.b__law_big .nil pass0 (pa_cons (pv 2) pa_nil)) (pe_call (G__law_form.mono (by omega)) hr (by rfl) T.g__law_form T.F__law_form.kp T.b__law_form .nil pass0 (pa_cons (pv 2) (pa_cons pe_int pa_nil)))))
  (pss_cons (ps_for PassesOwn.never rfl (pi_range1 (by rfl) T.z_range (pa_cons (pe_op op_mod (pv 3) pe_int) pa_nil)) (pg_name (i := 5) sc_law.nd rfl (.inl rfl))
  (pss_cons (ps_setLc (i := 6) (own := [("_law_row", 7)]) (g := (gName 7)) (tt := (tTest (tOp (rIn K true) (tOp (rIxT K) (tVar 7) (tC (.int 0))) (tLst (tCons (tC (.str "section")) (tCons (tC (.str "rounds")) tNil)))))) (te := (tOp (rIxT K) (tVar 7) (tC (.int 1)))) rfl sc_law.nd rfl rfl (sw_true rfl rfl rfl (by decide +kernel)) (pi_list (pe_call (G__law_all.mono (by omega)) hr (by rfl) T.g__law_all T.F__law_all.kp T.b__law_all .nil pass0 (pa_cons (pv 4) pa_nil))) (blkOk_by (N := ["_law_script", "_law_cell", "_law_source_here", "_law_way", "_law_rows_here", "_law_turn", "_law_every", "_law_row"]) (sc := defScope s_law) (own := [("_law_row", 7)]) (by decide +kernel)) (fun _ _ _ _ _ => (pg_name (i := 7) sc_law.nd rfl (.inl rfl))) (fun _ _ _ _ _ => (pts_one (pt_cmpR op_notIn_seq (pe_ix ix_tup (pv 7) pe_int (fun _ _ => rfl)) (pe_lst (pa_cons pe_str (pa_cons pe_str pa_nil))) (by rfl)))) (fun _ _ _ _ _ => (pe_ix ix_tup (pv 7) pe_int (fun _ _ => rfl))))
  (pss_one (ps_if (PW.pt (pw_and (pt_cmpR (op_neD hr.units) (pv 4) (pe_lst pa_nil) (nomark _)) (pw_and1 (pt_cmpR (op_neD hr.units) (pv 6) (pe_lst pa_nil) (nomark _))))) (pss_one (ps_set (i := 4) sc_law.nd rfl (.inl rfl) (pe_call (G__law_spoilt.mono (by omega)) hr (by rfl) T.g__law_spoilt T.F__law_spoilt.kp T.b__law_spoilt .nil pass0 (pa_cons (pv 2) (pa_cons (pv 4) (pa_cons (pv 6) pa_nil)))))) pss_nil))))
  (pss_one (ps_if (PW.pt (pw_or (pt_cmpR (op_neD hr.units) (pe_call (G__law_said.mono (by omega)) hr (by rfl) T.g__law_said T.F__law_said.kp T.b__law_said .nil pass0 (pa_cons (pv 4) pa_nil)) (pe_call (G__law_due.mono (by omega)) hr (by rfl) T.g__law_due T.F__law_due.kp T.b__law_due .nil pass0 (pa_cons (pv 4) pa_nil)) (nomark _)) (pw_or1 (pt_cmpR (op_neD hr.units) (pe_call (G__law_said.mono (by omega)) hr (by rfl) T.g__law_said T.F__law_said.kp T.b__law_said .nil pass0 (pa_cons (pv 4) pa_nil)) (pe_call (G__law_due.mono (by omega)) hr (by rfl) T.g__law_due T.F__law_due.kp T.b__law_due .nil pass0 (pa_cons (pv 4) pa_nil)) (nomark _))))) (pss_one (ps_ret pe_bl)) pss_nil)))))))
  (pss_one (ps_ret (pe_cmpR (op_eqD hr.units) (pe_call (G__law_said.mono (by omega)) hr (by rfl) T.g__law_said T.F__law_said.kp T.b__law_said .nil pass0 (pa_cons (pe_lst pa_nil) pa_nil)) (pe_tup (pa_cons pe_str (pa_cons pe_str (pa_cons pe_int pa_nil)))) (nomark _))))), ?_⟩
    refine q_seq ?_
    have lst := el_catS (K := K) (σ := L2.start ["_law_script", "_law_cell", "_law_source_here", "_law_way", "_law_rows_here", "_law_turn", "_law_every", "_law_row"] [.ref a]) (ta := tVar 0) (tb := tLst (tCons (tC (.int 0)) tNil)) (H := H) (ev_var rfl) hs (el_lst (ea_cons ev_c ea_nil) (by simp)) (by simp; omega)
    have cut := el_slN (K := K) (lo := none) (hi := some 6) lst eo_none (eo_some (te := tC (.int 6)) ev_c)
    refine cut H (Same.refl _) _ fun l Hl hl0 eHl hll => ?_
    refine ⟨l, rfl, ⟨_, SqL.of hll⟩, for_list (K := K) (xs := cutV (ns.map V.int ++ [V.int 0]) none (some 6)) (fun i σ' H' => Same Hl H' ∧ ∃ y1 y2 y3 y4 y5 y6 : Option V, σ' = [some (.ref a), y1, y2, y3, y4, y5, y6, none])
      ⟨Same.refl _, _, _, _, _, _, _, rfl⟩ (fun i σ' H' _ p => SqL.of (p.1 _ _ hll)) (fun i x σ' H0 hx p => ?_) (fun σ' H0 p => ?_)⟩
    · obtain ⟨sl, y1, y2, y3, y4, y5, y6, rfl⟩ := p
      obtain ⟨n, rfl⟩ : ∃ n, x = V.int n := by
        rcases List.mem_append.mp (cut_memV (List.mem_of_getElem? hx)) with z | z
        · obtain ⟨n, _, e⟩ := List.mem_map.mp z
          exact ⟨n, e.symm⟩
        · exact ⟨0, List.mem_singleton.mp z⟩
      show (tSeq _ _) _ [some (.ref a), some (.int n), y2, y3, y4, y5, y6, none] H0
      refine q_set (t_call (ea_cons (ev_var rfl) ea_nil) fun H0' e0' => ⟨n, rfl, fun r H1 e1 hr0 hR => ?_⟩)
      have e01 : Same H0 H1 := Same.trans e0' e1
      have hr00 : H0 r = none := Same.free e0' hr0
      have dm : ∀ c ∈ [r], ∃ o, H1 c = some o := fun c hc => by
        rw [List.mem_singleton] at hc
        subst hc
        obtain ⟨u, b, z, ho⟩ := hR
        exact ⟨_, ho⟩
      let R : Rg := draw [r] r H1 dm (by simp)
      have d : Drw R r := drw_draw
      have I0 : R.I H1 := draw_refl hR
      refine w_asg (R := R) (D := Dt K (isI fun k => 0 ≤ k ∧ k < 6)) (x_draw (N := fun k => k = 6) d (i := 2) rfl (x_i rfl) (fun n hn => by omega) (fun n k hn h0 h1 => ⟨h0, by omega⟩)) I0 fun wv H2 g2 hwv => ?_
      obtain ⟨way, rfl, w0, w6⟩ := dp_int_of hwv
      refine w_asg (R := R) (D := Dt K (rowsD (cc 0) 3 100)) (x_if (B := fun b => b = decide (way = 5)) (xt_test (x_eqI (K := K) (A := fun i => i = way) (B := fun i => i = 5) (x_vi (i := 3) rfl rfl) (x_i rfl) fun a b ha hb => by rw [ha, hb])) (fun _ => x_drawn (K := K) d (i := 2) rfl ds_nil (fun ds al => by cases al; rfl) fun ds e al h => big_sz h) (fun _ => x_drawn (K := K) d (i := 2) rfl (ds_cons (x_i (A := fun i => i = 7) rfl) ds_nil) (fun ds al => by
        cases al with
        | cons h1 t =>
          cases t
          obtain ⟨i, rfl, rfl⟩ := h1
          exact ⟨7, rfl, by omega, by omega⟩) fun ds e al h => drawn_sz h)) g2.inv fun rv H3 g3 ⟨rd, ⟨rows0, hrd, sz0⟩, rdp⟩ => ?_
      subst hrd
      have g13 : Go R H1 H3 := g2.trans g3
      refine w_forR (R := R) (A := fun k => 0 ≤ k ∧ k ≤ 2) (x_IC (K := K) (C := fun _ j => 0 < j) (g := fun i j => i % j) (A := fun i => i = way) (B := fun j => j = 3) (x_vi (i := 3) rfl rfl) (x_i rfl) fun i j hi hj => ⟨by omega, ⟨_, rfl, by subst hj; omega⟩⟩) g3.inv (fun k hk => ⟨hk.1, by omega⟩)
        (fun _ k i σ' H' => Go R H1 H' ∧ ∃ (rows : List Rw) (v4 : V) (y5 y6 : Option V), σ' = [some (.ref a), some (.int n), some (.ref r), some (.int way), some v4, y5, y6, none] ∧ Dp K (R.off H') v4 (.list (rowsP rows)) ∧ Sz (cc i) (3 + i) (100 + 6 * i) rows)
        (fun H4 k hk g4 => ⟨g13.trans g4, rows0, rv, _, _, rfl, dp_up g4.same rdp, sz0⟩) (fun H4 k hk g4 i σ' H' hi p => ?_) (fun H4 k hk g4 σ' H' p => ?_)
      · obtain ⟨g, rows, v4, y5, y6, rfl, dp4, sz⟩ := p
        have hi2 : i = 0 ∨ i = 1 := by omega
        have hci : cc i ≤ 5000 := by rcases hi2 with rfl | rfl <;> decide
        show (tSeq _ _) _ [some (.ref a), some (.int n), some (.ref r), some (.int way), some v4, some (.int (i : Int)), y6, none] H'
        refine w_asg (R := R) (D := Dt K evQ) (x_every T rfl rfl dp4 sz hci (by omega)) g.inv fun ev H5 g5 ⟨ed, ⟨ss, hss1, hss2, hed⟩, edp⟩ => ?_
        subst hed
        have dp5 := dp_up g5.same dp4
        have ss_shp : SeqAt.shaped (.list (ss.map .str)) = true := by
          have l := strs_lay (ss := ss) fun s hs => (hss2 s hs).2
          exact shp (by simp only [PyData.canLay0]; exact l.1) (by simp only [PyData.depth, l.2]; decide)
        refine w_when1 (R := R) (B := fun b => b = (!rows.isEmpty && !ss.isEmpty)) (xt_and (A := fun b => b = !rows.isEmpty) (B := fun b => b = !ss.isEmpty) (xt_test (x_neD (K := K) (A := fun d => d = .list (rowsP rows)) (B := fun d => d = .list []) (x_d (i := 4) rfl dp5 rfl) (x_li ds_nil fun ds al => by cases al; rfl) fun d e hd he => by
          subst hd he
          exact ⟨sz.shp (by omega), shp_nil, by rw [eqv_nil]; cases rows <;> rfl⟩)) (fun _ => xt_test (x_neD (K := K) (A := fun d => d = .list (ss.map .str)) (B := fun d => d = .list []) (x_d (i := 6) rfl edp rfl) (x_li ds_nil fun ds al => by cases al; rfl) fun d e hd he => by
          subst hd he
          exact ⟨ss_shp, shp_nil, by rw [eqv_nil]; cases ss <;> rfl⟩)) (fun h => by rw [← h]; rfl) (fun b ha hb => by rw [← ha, hb]; rfl)) g5.inv (fun H6 g6 hb => ?_) (fun H6 g6 hb => ?_)
        · have hne : rows ≠ [] ∧ ss ≠ [] := by
            constructor
            · intro z; subst z; cases hb
            · intro z; subst z; cases rows <;> cases hb
          have dp6 := dp_up g6.same dp5
          have edp6 := dp_up g6.same edp
          refine w_asg1 (R := R) (D := Dt K (rowsD (cc (i + 1)) (3 + (i + 1)) (100 + 6 * (i + 1)))) (x_drawnI (K := K) (Pre := spoiltPre (3 + i) (cc i) (100 + 6 * i)) (Post := fun _ d => rowsD (2 * cc i + 1) (3 + i + 1) (100 + 6 * i + 6) d) (Ps := [fun d => d = .list (rowsP rows), fun d => d = .list (ss.map .str)]) (fun vs H Q E h => ?_) d (i := 2) rfl (ds_cons (x_d (i := 4) rfl dp6 rfl) (ds_cons (x_d (i := 6) rfl edp6 rfl) ds_nil)) (fun ds al => ?_) (fun ds e al h => ?_)) g6.inv fun nv H7 g7 ⟨nd, ⟨rows', hnd, sz'⟩, ndp⟩ => ?_
          · rcases hi2 with rfl | rfl
            · exact .inl ⟨_, _, h⟩
            · exact .inr ⟨_, _, h⟩
          · obtain ⟨e1, e2, rfl, h1, h2⟩ := al2 al
            subst h1 h2
            exact ⟨rows, _, rfl, hne.1, ⟨ss, hne.2, hss1, hss2, rfl⟩, sz, by omega, by omega, by omega⟩
          · rw [← cc_succ]
            exact h
          · subst hnd
            exact ⟨((g.trans g5).trans g6).trans g7, rows', nv, _, _, rfl, ndp, sz'⟩
        · exact ⟨(g.trans g5).trans g6, rows, v4, _, _, rfl, dp_up g6.same dp5, sz.mono (cc_le i) (by omega) (by omega)⟩
      · obtain ⟨g, rows, v4, y5, y6, rfl, dp4, sz⟩ := p
        have hk2 : k.toNat ≤ 2 := by omega
        have hcc : cc k.toNat ≤ 20000 := by
          have : k.toNat = 0 ∨ k.toNat = 1 ∨ k.toNat = 2 := by omega
          rcases this with z | z | z <;> rw [z] <;> decide
        have hcn := sz.cnt
        have pre : duePre rows [.list (rowsP rows)] := ⟨rfl, fun r hr => ⟨sz.ok r hr, by have := sz.dep r hr; omega⟩, by omega⟩
        have dshp := due_shp sz.ok
        have one : ∀ {H5 : Hp}, Go R H' H5 → EvXT R (tTest (tOp (rNeD K) (tCall (sp__law_said T) [] E0 (tCons (tVar 4) tNil)) (tCall (sp__law_due T) [] E0 (tCons (tVar 4) tNil)))) [some (.ref a), some (.int n), some (.ref r), some (.int way), some v4, y5, y6, none] H5 (fun b => b = false) := fun {H5} g5 =>
          xt_test (x_neD (K := K) (A := fun d => d = duePy (due rows)) (B := fun d => d = duePy (due rows)) (x_pureI (K := K) (Pre := duePre rows) (Post := fun _ d => d = duePy (due rows)) (Ps := [fun d => d = .list (rowsP rows)]) (fun vs H Q E h => ⟨rows, h⟩) (ds_cons (x_d (i := 4) rfl (dp_up g5.same dp4) rfl) ds_nil) (fun ds al => by
            cases al with
            | cons h1 t => cases t; rw [h1]; exact pre) (fun _ d _ h => h)) (x_pureI (K := K) (Pre := duePre rows) (Post := fun _ d => d = duePy (due rows)) (Ps := [fun d => d = .list (rowsP rows)]) (fun vs H Q E h => ⟨rows, h⟩) (ds_cons (x_d (i := 4) rfl (dp_up g5.same dp4) rfl) ds_nil) (fun ds al => by
            cases al with
            | cons h1 t => cases t; rw [h1]; exact pre) (fun _ d _ h => h)) fun d e hd he => by
              subst hd he
              exact ⟨dshp, dshp, by rw [eqv_same dshp]; rfl⟩)
        refine w_when1 (R := R) (B := fun b => b = false) (xt_or (A := fun b => b = false) (B := fun b => b = false) (one (Go.refl g.inv)) (fun _ => one (Go.refl g.inv)) (fun h => h) (fun b _ h => h)) g.inv (fun H5 g5 hb => by cases hb) (fun H5 g5 _ => ?_)
        have f := draw_fr (g.trans g5)
        refine ⟨sl.trans fun c o hc => ?_, _, _, _, _, _, _, rfl⟩
        have ncr : c ≠ r := fun z => by rw [z, hr00] at hc; cases hc
        exact (off_some.mp (f.same c o (off_some.mpr ⟨ncr, e01 _ _ hc⟩))).2
    · obtain ⟨sl, y1, y2, y3, y4, y5, y6, rfl⟩ := p
      have dshp := due_shp (rows := []) (fun r hr => by cases hr)
      have dnil : duePy (due []) = .tuple [.str "count", .str "rows", .int 0] := rfl
      have I0 : (R0 H0).I H0 := still_refl
      have z : EvX (R0 H0) (tOp (rEqD K) (tCall (sp__law_said T) [] E0 (tCons (tLst tNil) tNil)) (tTup (tCons (tC (.str "count")) (tCons (tC (.str "rows")) (tCons (tC (.int 0)) tNil))))) [some (.ref a), y1, y2, y3, y4, y5, y6, none] H0 (Dt K (isB fun b => b = true)) :=
        x_eqD (K := K) (A := fun d => d = duePy (due [])) (B := fun d => d = duePy (due [])) (x_pureI (K := K) (Pre := duePre []) (Post := fun _ d => d = duePy (due [])) (Ps := [fun d => d = .list []]) (fun vs H Q E h => ⟨[], h⟩) (ds_cons (x_li ds_nil fun ds al => by cases al; rfl) ds_nil) (fun ds al => by
          cases al with
          | cons h1 t => cases t; rw [h1]; exact ⟨by rw [rowsP], (fun r hr => by cases hr), by simp [cnts]⟩) (fun _ d _ h => h)) (x_tu (ds_cons (x_s (A := fun s => s = "count") rfl) (ds_cons (x_s (A := fun s => s = "rows") rfl) (ds_cons (x_i (A := fun i => i = 0) rfl) ds_nil))) fun ds al => by
            obtain ⟨a, b, c, rfl, ⟨_, rfl, rfl⟩, ⟨_, rfl, rfl⟩, ⟨_, rfl, rfl⟩⟩ := al3 al
            exact dnil.symm) fun d e hd he => by
              subst hd he
              exact ⟨dshp, dshp, eqv_same dshp⟩
      refine z H0 (Go.refl I0) _ fun v H1 g1 hv => ?_
      obtain ⟨_, ⟨b, rfl, rfl⟩, dp⟩ := hv
      cases dp
      exact q H1
end SF
/-! The head by facts: a Hook of one Bool and the defs; the bundles of Txt from its facts. -/
namespace Hk
open PySem PySem.Spec PyProof.Rows L2 GK He
/-! ### the part of the heap: the module's names, the classes' names, code objects -/
def refsN (g : Addr → Option Obj) (a : Addr) : List Addr := match g a with
  | some ⟨_, _, .dict es _, _⟩ => es.toList.flatMap fun e => refV e.val
  | _ => []
def refsC (g : Addr → Option Obj) (a : Addr) : List Addr := match g a with
  | some ⟨_, _, .cls cd, _⟩ => cd.ns :: cd.mro.flatMap refV
  | some ⟨_, _, .func fd, _⟩ => refV fd.code
  | _ => []
def asT3 (g : Addr → Option Obj) (l3 : List Addr) : List Addr := l3 ++ l3.flatMap (refsC g)
def asT2 (g : Addr → Option Obj) (l2 : List Addr) : List Addr := l2 ++ asT3 g (l2.flatMap (refsN g))
def asT1 (g : Addr → Option Obj) (l1 : List Addr) : List Addr := l1 ++ asT2 g (l1.flatMap (refsC g))
def asT (g : Addr → Option Obj) : List Addr := mainGlobals :: asT1 g (refsN g mainGlobals)
def obsB (fn : List DefD) (ex : PySem.W.Frag → Bool) (K : PySem.W.Frag) : AlD := (ex K && fn.all fun d => d.ok K, fn.map fun d => fnW K d.at_)
def SaysB (fn : List DefD) (ex : PySem.W.Frag → Bool) (K : PySem.W.Frag) : Prop := obsB fn ex K = valD fn
abbrev Part : Type := List DefD × (PySem.W.Frag → Bool)
def obBG (p : Part) (g : Addr → Option Obj) : AlD := obsB p.1 p.2 (frG g (asT g))
def hookB (p : Part) : PySem.W.Hook where
  α := AlD
  obs := fun s => obBG p s.heap.get?
  val := fun _ => valD p.1
  says := fun _ h => ∃ K : PySem.W.Frag, K.In h ∧ SaysB p.1 p.2 K
  of := fun _ _ e => ⟨_, frG_in, e⟩
  keeps := fun _ _ _ ⟨K, hK, c⟩ k => ⟨K, PySem.W.Frag.In.keeps hK k, c⟩
/-- several parts, of one heap -/
def hookL (ps : List Part) : PySem.W.Hook where
  α := List AlD
  obs := fun s => ps.map fun p => obBG p s.heap.get?
  val := fun _ => ps.map fun p => valD p.1
  says := fun _ h => ∃ K : PySem.W.Frag, K.In h ∧ ∀ p ∈ ps, SaysB p.1 p.2 K
  of := fun _ s e => ⟨frG s.heap.get? (asT s.heap.get?), frG_in, fun p hp => by
    have e : (ps.map fun p => obBG p s.heap.get?) = ps.map fun p => valD p.1 := e
    exact List.map_inj_left.mp e p hp⟩
  keeps := fun _ _ _ ⟨K, hK, c⟩ k => ⟨K, PySem.W.Frag.In.keeps hK k, c⟩
def obP (p : Part) (s : PySem.W.SharedT) : AlD := obBG p (HandSHeadRun.getT s)
def obL (ps : List Part) (s : PySem.W.SharedT) : List AlD := ps.map fun p => obP p s
theorem obL_eq {ps : List Part} (s : PySem.W.SharedT) : obL ps s = (hookL ps).obs s.abs := by
  have e : HandSHeadRun.getT s = s.abs.heap.get? := funext (HandSHeadRun.getT_eq s)
  show (ps.map fun p => obBG p (HandSHeadRun.getT s)) = ps.map fun p => obBG p s.abs.heap.get?
  rw [e]
theorem run_join {r : PySem.W.OpenRow} {q : Program} {M : Nat} {loose : List Str} {w : World} {ps : List Part} (ne : ps ≠ []) (h : ∀ p ∈ ps, HandSHeadRun.RunEq r q (hookB p) (obP p) M loose w) : HandSHeadRun.RunEq r q (hookL ps) (obL ps) M loose w := by
  intro os
  have h' : ∀ p ∈ ps, _ := fun p hp => h p hp os
  revert h'
  unfold HandSHeadRun.RunEq at h
  generalize HandSHeadRun.endF _ _ _ _ _ = X
  intro h'
  cases X with
  | none =>
    cases ps with
    | nil => exact absurd rfl ne
    | cons p ps => exact absurd (h' p List.mem_cons_self) (by simp)
  | some s =>
    have z : ∀ p ∈ ps, _ ∧ _ ∧ obP p s = valD p.1 := fun p hp => by
      have y := Option.some.inj (h' p hp)
      exact ⟨congrArg (fun z => z.1) y, congrArg (fun z => z.2.1) y, congrArg (fun z => z.2.2) y⟩
    obtain ⟨p0, hp0⟩ := List.exists_mem_of_ne_nil ps ne
    have z0 := z p0 hp0
    refine congrArg some ?_
    refine Prod.ext z0.1 (Prod.ext z0.2.1 ?_)
    exact List.map_congr_left fun p hp => (z p hp).2.2
/-- a def of no defaults -/
def dd (p : Str × Option Str) (x q : Str) (st : Stmt) : DefD := ⟨p, x, q, defArgs st, defBody st, defScope st, [], []⟩
section
variable {fn : List DefD} {ex : PySem.W.Frag → Bool} {K : PySem.W.Frag}
theorem SaysB.more (c : SaysB fn ex K) : ex K = true := (ba (show (ex K && fn.all fun d => d.ok K) = true from congrArg (fun z : AlD => z.1) c)).1
theorem SaysB.def_ (c : SaysB fn ex K) (i : Nat) {d : DefD} (h : fn[i]? = some d) : ∃ fd, FunD K d.name d.qual d.params d.body d.scope (d.dvs K) (d.kws K) (fAd K d.at_) fd := by
  have c2 := (ba (show (ex K && fn.all fun d => d.ok K) = true from congrArg (fun z : AlD => z.1) c)).2
  have e : fn.map (fun d => fnW K d.at_) = fn.map DefD.val := congrArg (fun z : AlD => z.2) c
  have e2 : (fn.map (fun d => fnW K d.at_))[i]? = (fn.map DefD.val)[i]? := by rw [e]
  rw [List.getElem?_map, List.getElem?_map, h] at e2
  exact DefD.funD (Option.some.inj e2) (List.all_eq_true.mp c2 d (List.mem_of_getElem? h))
theorem fun_of {x q : Str} {st : Stmt} {f : Addr} {fd : FuncData} (h : FunD K x q (defArgs st) (defBody st) (defScope st) [] [] f fd) : Fun K x q st f fd := by
  obtain ⟨⟨oc, od, dV, kV, doc, pm, an, cdv, ct, osl, rfl, lk, hcd, hD, _⟩, kp⟩ := h
  rcases hD with ⟨_, rfl⟩ | ⟨e, _⟩
  · exact ⟨⟨oc, od, kV, doc, pm, an, cdv, ct, osl, rfl, lk, hcd⟩, kp⟩
  · exact absurd rfl e
theorem SaysB.fun_ (c : SaysB fn ex K) (i : Nat) {p : Str × Option Str} {x q : Str} {st : Stmt} (h : fn[i]? = some (dd p x q st)) : ∃ fd, Fun K x q st (fAd K p) fd := by
  obtain ⟨fd, F⟩ := c.def_ i h
  exact ⟨fd, fun_of F⟩
end
/-! ### classes -/
def clB (K : PySem.W.Frag) (x : Str) (fs : List Str) : Bool := (Fa.glo x).ok K && ((Fa.cls x).ok K && ((Fa.mkr x).ok K && fs.all fun f => (Fa.noat x f).ok K))
def clsT_of {K : PySem.W.Frag} {h : Heap} {mg : Str → Option Value} (X : K.In h) (G : h.Ns mainGlobals mg) {x : Str} {fs : List Str} (c : clB K x fs = true) : ClsT K mg x (ma K (ga K x) "__init__") fs :=
  ⟨ga K x, cls_ok (ba (ba c).2).1, glo_ok X G (ba c).1, mkr_ok (ba (ba (ba c).2).2).1, fun f hf => noat_ok (List.all_eq_true.mp (ba (ba (ba c).2).2).2 f hf)⟩
/-- the method m of x stands at y's -/
def mtB (K : PySem.W.Frag) (x m y : Str) : Bool := (Fa.meth x m).ok K && decide (ma K (ga K x) m = ma K (ga K y) m)
theorem mtB_ok {K : PySem.W.Frag} {x m y : Str} (c : mtB K x m y = true) : Meth K (ga K x) m (ma K (ga K y) m) := by
  have z := meth_ok (ba c).1
  rw [of_decide_eq_true (ba c).2] at z
  exact z
/-! ### errors of one's own -/
def oexB (K : PySem.W.Frag) (C : Addr) : Bool := match K.lookup C with
  | some ⟨.type "type", _, .cls cd, sl⟩ => (match cd.mro, sl.toList with
    | .ref C' :: bm, [_, _, _, _, some (.builtin n), _] => C' == C && (n == "ValueError.__new__" && (!cd.hasDel && (cd.hasDict && PySem.HandSPX.refsVE bm)))
    | _, _ => false)
  | _ => false
theorem oexB_ok {K : PySem.W.Frag} {C : Addr} (q : oexB K C = true) : ∃ nm q N bs bm sn sub ab col dd k0 k1 k2 k3 k5, K.lookup C = some (excClassObj nm q C N bs bm true sn sub ab col dd k0 k1 k2 k3 k5 "ValueError.__new__") ∧ PySem.HandSPX.refsVE bm = true := by
  unfold oexB at q
  split at q
  · rename_i dd cd sl ho
    split at q
    · rename_i C' bm k0 k1 k2 k3 n k5 hm hs
      simp only [Bool.and_eq_true, beq_iff_eq, Bool.not_eq_true'] at q
      obtain ⟨rfl, rfl, hdel, hdct, ht⟩ := q
      obtain ⟨nm, bs, mro, ns, qn, hd, sn, sub, ab, col, del⟩ := cd
      dsimp only at hm hdel hdct
      subst hm hdel hdct
      have hsl : sl = #[k0, k1, k2, k3, some (.builtin "ValueError.__new__"), k5] := by
        obtain ⟨l⟩ := sl
        simp only at hs
        rw [hs]
      subst hsl
      exact ⟨nm, qn, ns, bs, bm, sn, sub, ab, col, dd, k0, k1, k2, k3, k5, ho, ht⟩
    · cases q
  · cases q
def exB (K : PySem.W.Frag) (x hx : Str) (fs : List Str) : Bool :=
  (Fa.glo x).ok K && (oexB K (ga K x) && (eqO (PySem.W.findIn K (.ref (ga K x)) "__setattr__") (some (some (.builtin "object.__setattr__"))) && (decide (PySem.W.subIn K (.ref (ga K x)) (.type "BaseException") = some true) && (decide (PySem.W.typeIn K (.ref (ga K x)) = some (.type "type")) && (PySem.W.keepIn K (.ref (ga K x)) &&
  (eqO (PySem.W.findIn K (.ref (ga K x)) "__init__") (some (some (.ref (ma K (ga K x) "__init__")))) && (decide (PySem.W.typeIn K (.ref (ma K (ga K x) "__init__")) = some (.type "function")) && (decide (PySem.W.exmOne K (.ref (ga K x)) (.ref (ga K x)) = some true) && (xfB K (ga K x) && ((fs.all fun f => (Fa.noat x f).ok K) &&
  (decide (PySem.W.exmOne K (.ref (ga K x)) (.ref (ga K hx)) = some true) && (eqO (PySem.W.findIn K (.ref (ga K x)) "__class__") (some (some (.builtin "object.__class__"))) && (decide (PySem.W.specialIn K (.builtin "object.__class__") "__get__" = some (some (.builtin "getset_descriptor.__get__"))) &&
  (decide (PySem.W.takesIn K (.builtin "object.__class__") = some true) && (decide (PySem.W.mroIn K (ga K x) (.type "object") = some true) && decide (PySem.W.kitOne K (.ref (ga K x)) (.type "ValueError") = some true))))))))))))))))
theorem exB_all {K : PySem.W.Frag} {x hx : Str} {fs : List Str} (c : exB K x hx fs = true) : (Fa.glo x).ok K = true ∧ OexC K (ga K x) ∧ PySem.W.findIn K (.ref (ga K x)) "__init__" = some (some (.ref (ma K (ga K x) "__init__"))) ∧ PySem.W.typeIn K (.ref (ma K (ga K x) "__init__")) = some (.type "function") ∧ PySem.W.exmOne K (.ref (ga K x)) (.ref (ga K x)) = some true ∧
    XfC K (ga K x) ∧ (∀ f ∈ fs, PySem.W.findIn K (.ref (ga K x)) f = some none) ∧ PySem.W.exmOne K (.ref (ga K x)) (.ref (ga K hx)) = some true ∧ ExcC K (ga K x) ∧ PySem.W.kitOne K (.ref (ga K x)) (.type "ValueError") = some true := by
  obtain ⟨c1, c⟩ := ba c
  obtain ⟨c2, c⟩ := ba c
  obtain ⟨c3, c⟩ := ba c
  obtain ⟨c4, c⟩ := ba c
  obtain ⟨c5, c⟩ := ba c
  obtain ⟨c6, c⟩ := ba c
  obtain ⟨c7, c⟩ := ba c
  obtain ⟨c8, c⟩ := ba c
  obtain ⟨c9, c⟩ := ba c
  obtain ⟨c10, c⟩ := ba c
  obtain ⟨c11, c⟩ := ba c
  obtain ⟨c12, c⟩ := ba c
  obtain ⟨c13, c⟩ := ba c
  obtain ⟨c14, c⟩ := ba c
  obtain ⟨c15, c⟩ := ba c
  obtain ⟨c16, c17⟩ := ba c
  have xf := xfB_ok c10
  exact ⟨c1, ⟨oexB_ok c2, eqO_ok c3, of_decide_eq_true c4, of_decide_eq_true c5, c6⟩, eqO_ok c7, of_decide_eq_true c8, of_decide_eq_true c9, xf, fun f hf => eqO_ok (List.all_eq_true.mp c11 f hf), of_decide_eq_true c12,
    ⟨xf.ga, xf.gg, xf.exC, xf.hdC, eqO_ok c13, of_decide_eq_true c14, of_decide_eq_true c15, of_decide_eq_true c16⟩, of_decide_eq_true c17⟩
def excT_of {K : PySem.W.Frag} {h : Heap} {mg : Str → Option Value} (X : K.In h) (G : h.Ns mainGlobals mg) {x hx : Str} {fs : List Str} (c : exB K x hx fs = true) : ExcT K mg x (ma K (ga K x) "__init__") fs (ga K hx) :=
  ⟨ga K x, glo_ok X G (exB_all c).1, (exB_all c).2.1, (exB_all c).2.2.1, (exB_all c).2.2.2.1, (exB_all c).2.2.2.2.1, (exB_all c).2.2.2.2.2.1, (exB_all c).2.2.2.2.2.2.1, (exB_all c).2.2.2.2.2.2.2.1, (exB_all c).2.2.2.2.2.2.2.2.1, (exB_all c).2.2.2.2.2.2.2.2.2⟩
def kiB (K : PySem.W.Frag) (x y : Str) (b : Bool) : Bool := decide (PySem.W.kitOne K (.ref (ga K x)) (.ref (ga K y)) = some b)
theorem kiB_ok {K : PySem.W.Frag} {x y : Str} {b : Bool} (c : kiB K x y b = true) : PySem.W.kitOne K (.ref (ga K x)) (.ref (ga K y)) = some b := of_decide_eq_true c
/-! ### all facts, in lists -/
structure Fcts where
  fa : List Fa
  cl : List (Str × List Str)
  mt : List (Str × Str × Str)
  xs : List (Str × Str × List Str)
  ki : List (Str × Str × Bool)
def Fcts.okA (F : Fcts) (K : PySem.W.Frag) : Bool := F.fa.all fun f => f.ok K
def Fcts.okC (F : Fcts) (K : PySem.W.Frag) : Bool := F.cl.all fun p => clB K p.1 p.2
def Fcts.okM (F : Fcts) (K : PySem.W.Frag) : Bool := F.mt.all fun p => mtB K p.1 p.2.1 p.2.2
def Fcts.okX (F : Fcts) (K : PySem.W.Frag) : Bool := F.xs.all fun p => exB K p.1 p.2.1 p.2.2
def Fcts.okI (F : Fcts) (K : PySem.W.Frag) : Bool := F.ki.all fun p => kiB K p.1 p.2.1 p.2.2
def Fcts.ok (F : Fcts) (K : PySem.W.Frag) : Bool := F.okA K && (F.okC K && (F.okM K && (F.okX K && F.okI K)))
section
variable {F : Fcts} {K : PySem.W.Frag}
theorem Fcts.all (c : F.ok K = true) : F.okA K = true ∧ F.okC K = true ∧ F.okM K = true ∧ F.okX K = true ∧ F.okI K = true := ⟨(ba c).1, (ba (ba c).2).1, (ba (ba (ba c).2).2).1, (ba (ba (ba (ba c).2).2).2).1, (ba (ba (ba (ba c).2).2).2).2⟩
theorem Fcts.fact (c : F.okA K = true) (i : Nat) {f : Fa} (h : F.fa[i]? = some f) : f.ok K = true := List.all_eq_true.mp c f (List.mem_of_getElem? h)
theorem Fcts.cls (c : F.okC K = true) (i : Nat) {x : Str} {fs : List Str} (h : F.cl[i]? = some (x, fs)) : clB K x fs = true := List.all_eq_true.mp c (x, fs) (List.mem_of_getElem? h)
theorem Fcts.meth (c : F.okM K = true) (i : Nat) {x m y : Str} (h : F.mt[i]? = some (x, m, y)) : Meth K (ga K x) m (ma K (ga K y) m) := mtB_ok (List.all_eq_true.mp c (x, m, y) (List.mem_of_getElem? h))
theorem Fcts.exc (c : F.okX K = true) (i : Nat) {x y : Str} {fs : List Str} (h : F.xs[i]? = some (x, y, fs)) : exB K x y fs = true := List.all_eq_true.mp c (x, y, fs) (List.mem_of_getElem? h)
theorem Fcts.kit (c : F.okI K = true) (i : Nat) {x y : Str} {b : Bool} (h : F.ki[i]? = some (x, y, b)) : PySem.W.kitOne K (.ref (ga K x)) (.ref (ga K y)) = some b := kiB_ok (List.all_eq_true.mp c (x, y, b) (List.mem_of_getElem? h))
end
/-- the module's constants -/
theorem int_con {K : PySem.W.Frag} {h : Heap} {mg : Str → Option Value} (X : K.In h) (G : h.Ns mainGlobals mg) {x : Str} {i : Int} (c : (Fa.int x i).ok K = true) : Nonempty (ConT mg x (.int i)) := by
  obtain ⟨t, e⟩ := int_ok X G c
  exact ⟨⟨_, e, ⟨t, rfl⟩⟩⟩
theorem str_con {K : PySem.W.Frag} {h : Heap} {mg : Str → Option Value} (X : K.In h) (G : h.Ns mainGlobals mg) {x z : Str} (c : (Fa.str x z).ok K = true) : Nonempty (ConT mg x (.str z)) := by
  obtain ⟨t, e⟩ := str_ok X G c
  exact ⟨⟨_, e, ⟨t, rfl⟩⟩⟩
end Hk
namespace SF
open PySem PySem.Spec PyProof.Rows L2 GK LamX He Hk
def hdF0 : List DefD := [dd ("BadCount", some "__init__") "__init__" "BadCount.__init__" s_BadCount_new,
  dd ("NoName", some "__init__") "__init__" "NoName.__init__" s_NoName_new,
  dd ("Twice", some "__init__") "__init__" "Twice.__init__" s_Twice_new,
  dd ("NoQuestion", some "__init__") "__init__" "NoQuestion.__init__" s_NoQuestion_new,
  dd ("NoFit", some "__init__") "__init__" "NoFit.__init__" s_NoFit_new,
  dd ("is_name", none) "is_name" "is_name" s_is_name,
  dd ("asked_names", none) "asked_names" "asked_names" s_asked_names,
  dd ("asked_once", none) "asked_once" "asked_once" s_asked_once,
  dd ("Is", some "__init__") "__init__" "Is.__init__" s_Is_new,
  dd ("Has", some "__init__") "__init__" "Has.__init__" s_Has_new,
  dd ("Above", some "__init__") "__init__" "Above.__init__" s_Above_new,
  dd ("Below", some "__init__") "__init__" "Below.__init__" s_Below_new,
  dd ("Not", some "__init__") "__init__" "Not.__init__" s_Not_new,
  dd ("Both", some "__init__") "__init__" "Both.__init__" s_Both_new,
  dd ("Either", some "__init__") "__init__" "Either.__init__" s_Either_new,
  dd ("Is", some "spoken") "spoken" "Is.spoken" s_Is_spoken,
  dd ("Has", some "spoken") "spoken" "Has.spoken" s_Has_spoken,
  dd ("Above", some "spoken") "spoken" "Above.spoken" s_Above_spoken,
  dd ("Below", some "spoken") "spoken" "Below.spoken" s_Below_spoken,
  dd ("Not", some "spoken") "spoken" "Not.spoken" s_Not_spoken]
def hdF1 : List DefD := [dd ("Both", some "spoken") "spoken" "Both.spoken" s_Both_spoken,
  dd ("Either", some "spoken") "spoken" "Either.spoken" s_Either_spoken,
  dd ("One", some "within") "within" "Row.within" s_Row_within,
  dd ("Check", some "asked_fields") "asked_fields" "Row.asked_fields" s_Row_asked_fields,
  dd ("One", some "__init__") "__init__" "One.__init__" s_One_new,
  dd ("Some", some "__init__") "__init__" "Some.__init__" s_Some_new,
  dd ("Number", some "__init__") "__init__" "Number.__init__" s_Number_new,
  dd ("Check", some "__init__") "__init__" "Check.__init__" s_Check_new,
  dd ("Section", some "__init__") "__init__" "Section.__init__" s_Section_new,
  dd ("Rounds", some "__init__") "__init__" "Rounds.__init__" s_Rounds_new,
  dd ("One", some "kind") "kind" "One.kind" s_One_kind,
  dd ("Some", some "kind") "kind" "Some.kind" s_Some_kind,
  dd ("Number", some "kind") "kind" "Number.kind" s_Number_kind,
  dd ("Check", some "kind") "kind" "Check.kind" s_Check_kind,
  dd ("Section", some "kind") "kind" "Section.kind" s_Section_kind,
  dd ("Rounds", some "kind") "kind" "Rounds.kind" s_Rounds_kind,
  dd ("Section", some "within") "within" "Section.within" s_Section_within,
  dd ("Rounds", some "within") "within" "Rounds.within" s_Rounds_within,
  dd ("One", some "asked_fields") "asked_fields" "One.asked_fields" s_One_asked_fields,
  dd ("Some", some "asked_fields") "asked_fields" "Some.asked_fields" s_Some_asked_fields]
def hdF2 : List DefD := [dd ("Number", some "asked_fields") "asked_fields" "Number.asked_fields" s_Number_asked_fields,
  dd ("many_rows", none) "many_rows" "many_rows" s_many_rows,
  dd ("Form", some "__init__") "__init__" "Form.__init__" s_Form_new,
  dd ("Form", some "look_through") "look_through" "Form.look_through" s_Form_look_through,
  dd ("Form", some "look_at") "look_at" "Form.look_at" s_Form_look_at,
  dd ("Form", some "look_at_rows") "look_at_rows" "Form.look_at_rows" s_Form_look_at_rows,
  dd ("Form", some "spoken_of") "spoken_of" "Form.spoken_of" s_Form_spoken_of,
  dd ("Form", some "look_at_condition") "look_at_condition" "Form.look_at_condition" s_Form_look_at_condition,
  dd ("Form", some "outline") "outline" "Form.outline" s_Form_outline,
  dd ("Form", some "names") "names" "Form.names" s_Form_names,
  dd ("_law_source", none) "_law_source" "_law_source" s__law_source,
  dd ("_law_take", none) "_law_take" "_law_take" s__law_take,
  dd ("_law_names", none) "_law_names" "_law_names" s__law_names,
  dd ("_law_simple", none) "_law_simple" "_law_simple" s__law_simple,
  dd ("_law_condition", none) "_law_condition" "_law_condition" s__law_condition,
  dd ("_law_perhaps", none) "_law_perhaps" "_law_perhaps" s__law_perhaps,
  dd ("_law_question", none) "_law_question" "_law_question" s__law_question,
  dd ("_law_rows", none) "_law_rows" "_law_rows" s__law_rows,
  dd ("_law_form", none) "_law_form" "_law_form" s__law_form,
  dd ("_law_made_condition", none) "_law_made_condition" "_law_made_condition" s__law_made_condition]
def hdF3 : List DefD := [dd ("_law_made_row", none) "_law_made_row" "_law_made_row" s__law_made_row,
  dd ("_law_all", none) "_law_all" "_law_all" s__law_all,
  dd ("_law_spoilt_fields", none) "_law_spoilt_fields" "_law_spoilt_fields" s__law_spoilt_fields,
  dd ("_law_any_condition", none) "_law_any_condition" "_law_any_condition" s__law_any_condition,
  dd ("_law_spoilt", none) "_law_spoilt" "_law_spoilt" s__law_spoilt,
  dd ("_law_big", none) "_law_big" "_law_big" s__law_big,
  dd ("_law_is_name", none) "_law_is_name" "_law_is_name" s__law_is_name,
  dd ("_law_spoken", none) "_law_spoken" "_law_spoken" s__law_spoken,
  dd ("_law_heard", none) "_law_heard" "_law_heard" s__law_heard,
  dd ("_law_conditions_amiss", none) "_law_conditions_amiss" "_law_conditions_amiss" s__law_conditions_amiss,
  dd ("_law_fields_amiss", none) "_law_fields_amiss" "_law_fields_amiss" s__law_fields_amiss,
  dd ("_law_amiss", none) "_law_amiss" "_law_amiss" s__law_amiss,
  dd ("_law_due", none) "_law_due" "_law_due" s__law_due,
  dd ("_law_said", none) "_law_said" "_law_said" s__law_said,
  dd ("law", none) "law" "law" s_law]
def hdA0 : List Fa := [.glo "is_name", .glo "asked_names", .glo "asked_once", .glo "many_rows", .glo "_law_source", .glo "_law_take", .glo "_law_names", .glo "_law_simple", .glo "_law_condition", .glo "_law_perhaps", .glo "_law_question", .glo "_law_rows", .glo "_law_form", .glo "_law_made_condition", .glo "_law_made_row", .glo "_law_all", .glo "_law_spoilt_fields", .glo "_law_any_condition", .glo "_law_spoilt", .glo "_law_big", .glo "_law_is_name", .glo "_law_spoken", .glo "_law_heard", .glo "_law_conditions_amiss", .glo "_law_fields_amiss", .glo "_law_amiss", .glo "_law_due", .glo "_law_said", .glo "law", .glo "HallError"]
def hdA1 : List Fa := [.str "LETTERS" "abcdefghijklmnopqrstuvwxyz", .str "FIGURES" "0123456789", .int "LONGEST" 8, .int "MOST_ROWS" 40, .int "MOST_ROUNDS" 4, .free "ValueError", .free "abs", .free "all", .free "enumerate", .free "int", .free "isinstance", .free "len", .free "list", .free "range", .free "str", .free "sum", .free "tuple"]
def hdC : Fcts where
  fa := hdA0 ++ (hdA1)
  cl := [("Is", ["name", "option"]), ("Has", ["name", "option"]), ("Above", ["name", "number"]), ("Below", ["name", "number"]), ("Not", ["inner"]), ("Both", ["left", "right"]), ("Either", ["left", "right"]), ("One", ["name", "options", "where"]), ("Some", ["name", "options", "where"]), ("Number", ["name", "low", "high", "where"]), ("Check", ["name", "must", "where"]), ("Section", ["rows", "where"]), ("Rounds", ["count", "rows", "where"]), ("Form", ["top", "named", "asked", "rounds"])]
  mt := [("Is", "spoken", "Is"), ("Has", "spoken", "Has"), ("Above", "spoken", "Above"), ("Below", "spoken", "Below"), ("Not", "spoken", "Not"), ("Both", "spoken", "Both"), ("Either", "spoken", "Either"), ("One", "kind", "One"), ("One", "asked_fields", "One"), ("One", "within", "One"), ("Some", "kind", "Some"), ("Some", "asked_fields", "Some"), ("Some", "within", "One"), ("Number", "kind", "Number"), ("Number", "asked_fields", "Number"), ("Number", "within", "One"), ("Check", "kind", "Check"), ("Check", "within", "One"), ("Check", "asked_fields", "Check"), ("Section", "kind", "Section"), ("Section", "within", "Section"), ("Rounds", "kind", "Rounds"), ("Rounds", "within", "Rounds"), ("Form", "look_through", "Form"), ("Form", "look_at", "Form"), ("Form", "look_at_rows", "Form"), ("Form", "spoken_of", "Form"), ("Form", "look_at_condition", "Form"), ("Form", "outline", "Form"), ("Form", "names", "Form")]
  xs := [("BadCount", "HallError", ["what", "count"]), ("NoName", "HallError", ["name"]), ("Twice", "HallError", ["name"]), ("NoQuestion", "HallError", ["name"]), ("NoFit", "HallError", ["name"])]
  ki := [("BadCount", "BadCount", true), ("BadCount", "NoName", false), ("BadCount", "Twice", false), ("BadCount", "NoQuestion", false), ("BadCount", "NoFit", false), ("NoName", "BadCount", false), ("NoName", "NoName", true), ("NoName", "Twice", false), ("NoName", "NoQuestion", false), ("NoName", "NoFit", false), ("Twice", "BadCount", false), ("Twice", "NoName", false), ("Twice", "Twice", true), ("Twice", "NoQuestion", false), ("Twice", "NoFit", false), ("NoQuestion", "BadCount", false), ("NoQuestion", "NoName", false), ("NoQuestion", "Twice", false), ("NoQuestion", "NoQuestion", true), ("NoQuestion", "NoFit", false), ("NoFit", "BadCount", false), ("NoFit", "NoName", false), ("NoFit", "Twice", false), ("NoFit", "NoQuestion", false), ("NoFit", "NoFit", true)]
def hdN0 : List Str := ["_wall", "__name__", "HallError", "BadCount", "NoName", "Twice", "NoQuestion", "NoFit", "__name__", "LETTERS", "FIGURES", "LONGEST", "is_name", "asked_names", "asked_once", "__name__", "MOST_ROWS", "MOST_ROUNDS", "Row", "One", "Some", "Number", "Check", "Section", "Rounds", "many_rows", "Form", "__name__", "Condition", "Is"]
def hdN1 : List Str := ["Has", "Above", "Below", "Not", "Both", "Either", "__name__", "_law_source", "_law_take", "_law_names", "_law_simple", "_law_condition", "_law_perhaps", "_law_question", "_law_rows", "_law_form", "_law_made_condition", "_law_made_row", "_law_all", "_law_spoilt_fields", "_law_any_condition", "_law_spoilt", "_law_big", "_law_is_name", "_law_spoken", "_law_heard", "_law_conditions_amiss", "_law_fields_amiss", "_law_amiss", "_law_due"]
def hdN2 : List Str := ["_law_said"]
def hdN : List Str := hdN0 ++ hdN1 ++ hdN2
def hdP0 : Part := (hdF0 ++ (hdF1 ++ (hdF2 ++ (hdF3))), fun _ => true)
def hdP1 : Part := ([], hdC.ok)
theorem hd_run0 (w : World) : HandSHeadRun.RunEq (PySem.W.OpenLaw.row PySem.Challenge.rw_skiphall_k03_what_may_be_spoken_of) (PySem.W.view (PySem.W.OpenLaw.row PySem.Challenge.rw_skiphall_k03_what_may_be_spoken_of).prog [61]) (hookB hdP0) (obP hdP0) 9000 hdN w := by
  intro os
  kernel_rfl
theorem hd_run1 (w : World) : HandSHeadRun.RunEq (PySem.W.OpenLaw.row PySem.Challenge.rw_skiphall_k03_what_may_be_spoken_of) (PySem.W.view (PySem.W.OpenLaw.row PySem.Challenge.rw_skiphall_k03_what_may_be_spoken_of).prog [61]) (hookB hdP1) (obP hdP1) 9000 hdN w := by
  intro os
  kernel_rfl
def hdPs : List Part := [hdP0, hdP1]
theorem hd_run (w : World) : HandSHeadRun.RunEq (PySem.W.OpenLaw.row PySem.Challenge.rw_skiphall_k03_what_may_be_spoken_of) (PySem.W.view (PySem.W.OpenLaw.row PySem.Challenge.rw_skiphall_k03_what_may_be_spoken_of).prog [61]) (hookL hdPs) (obL hdPs) 9000 hdN w := by
  refine run_join (by simp [hdPs]) fun p hp => ?_
  simp only [hdPs, List.mem_cons, List.not_mem_nil, or_false] at hp
  rcases hp with rfl | rfl
  · exact hd_run0 w
  · exact hd_run1 w
end SF
namespace SF
open PySem PySem.Spec PyProof.Rows L2 GK LamX He Hk
theorem all_mk {l : PySem.W.OpenLaw} {w : World} {K : PySem.W.Frag} {h : Heap} {mg : Str → Option Value} {fa : Addr} (X : K.In h) (G : h.Ns mainGlobals mg) (hfa : mg "law" = some (.ref fa)) (c : ∀ p ∈ hdPs, SaysB p.1 p.2 K) :
    ∃ fd : FuncData, (∀ (s : Shared) (v : Value), BindsTo s fd ⟨[v], []⟩ [("_law_script", v)]) ∧ ∀ base : Heap, K.In base → base.Ns mainGlobals mg → FnOk l.prog w K mg base CX0 24 fa fd ["_law_script"] (sp_law K) := by
  have cF := c hdP0 (by simp [hdPs])
  have q : hdC.ok K = true := SaysB.more (c hdP1 (by simp [hdPs]))
  obtain ⟨qA, qC, qM, qX, qI⟩ := Fcts.all q
  have e := hfa.symm.trans (glo_ok X G (Fcts.fact qA 28 (f := .glo "law") rfl))
  cases e
  obtain ⟨f0, F0⟩ := cF.fun_ 0 (p := ("BadCount", some "__init__")) (x := "__init__") (q := "BadCount.__init__") (st := s_BadCount_new) rfl
  have B0 := F0.binds (ps := ["self", "what", "count"]) fun _ _ _ _ _ _ us hl => match us, hl with | [_, _, _], _ => rfl
  obtain ⟨f1, F1⟩ := cF.fun_ 1 (p := ("NoName", some "__init__")) (x := "__init__") (q := "NoName.__init__") (st := s_NoName_new) rfl
  have B1 := F1.binds (ps := ["self", "name"]) fun _ _ _ _ _ _ us hl => match us, hl with | [_, _], _ => rfl
  obtain ⟨f2, F2⟩ := cF.fun_ 2 (p := ("Twice", some "__init__")) (x := "__init__") (q := "Twice.__init__") (st := s_Twice_new) rfl
  have B2 := F2.binds (ps := ["self", "name"]) fun _ _ _ _ _ _ us hl => match us, hl with | [_, _], _ => rfl
  obtain ⟨f3, F3⟩ := cF.fun_ 3 (p := ("NoQuestion", some "__init__")) (x := "__init__") (q := "NoQuestion.__init__") (st := s_NoQuestion_new) rfl
  have B3 := F3.binds (ps := ["self", "name"]) fun _ _ _ _ _ _ us hl => match us, hl with | [_, _], _ => rfl
  obtain ⟨f4, F4⟩ := cF.fun_ 4 (p := ("NoFit", some "__init__")) (x := "__init__") (q := "NoFit.__init__") (st := s_NoFit_new) rfl
  have B4 := F4.binds (ps := ["self", "name"]) fun _ _ _ _ _ _ us hl => match us, hl with | [_, _], _ => rfl
  obtain ⟨f5, F5⟩ := cF.fun_ 5 (p := ("is_name", none)) (x := "is_name") (q := "is_name") (st := s_is_name) rfl
  have B5 := F5.binds (ps := ["text"]) fun _ _ _ _ _ _ us hl => match us, hl with | [_], _ => rfl
  obtain ⟨f6, F6⟩ := cF.fun_ 6 (p := ("asked_names", none)) (x := "asked_names") (q := "asked_names") (st := s_asked_names) rfl
  have B6 := F6.binds (ps := ["texts"]) fun _ _ _ _ _ _ us hl => match us, hl with | [_], _ => rfl
  obtain ⟨f7, F7⟩ := cF.fun_ 7 (p := ("asked_once", none)) (x := "asked_once") (q := "asked_once") (st := s_asked_once) rfl
  have B7 := F7.binds (ps := ["names"]) fun _ _ _ _ _ _ us hl => match us, hl with | [_], _ => rfl
  obtain ⟨f8, F8⟩ := cF.fun_ 8 (p := ("Is", some "__init__")) (x := "__init__") (q := "Is.__init__") (st := s_Is_new) rfl
  have B8 := F8.binds (ps := ["self", "name", "option"]) fun _ _ _ _ _ _ us hl => match us, hl with | [_, _, _], _ => rfl
  obtain ⟨f9, F9⟩ := cF.fun_ 9 (p := ("Has", some "__init__")) (x := "__init__") (q := "Has.__init__") (st := s_Has_new) rfl
  have B9 := F9.binds (ps := ["self", "name", "option"]) fun _ _ _ _ _ _ us hl => match us, hl with | [_, _, _], _ => rfl
  obtain ⟨f10, F10⟩ := cF.fun_ 10 (p := ("Above", some "__init__")) (x := "__init__") (q := "Above.__init__") (st := s_Above_new) rfl
  have B10 := F10.binds (ps := ["self", "name", "number"]) fun _ _ _ _ _ _ us hl => match us, hl with | [_, _, _], _ => rfl
  obtain ⟨f11, F11⟩ := cF.fun_ 11 (p := ("Below", some "__init__")) (x := "__init__") (q := "Below.__init__") (st := s_Below_new) rfl
  have B11 := F11.binds (ps := ["self", "name", "number"]) fun _ _ _ _ _ _ us hl => match us, hl with | [_, _, _], _ => rfl
  obtain ⟨f12, F12⟩ := cF.fun_ 12 (p := ("Not", some "__init__")) (x := "__init__") (q := "Not.__init__") (st := s_Not_new) rfl
  have B12 := F12.binds (ps := ["self", "inner"]) fun _ _ _ _ _ _ us hl => match us, hl with | [_, _], _ => rfl
  obtain ⟨f13, F13⟩ := cF.fun_ 13 (p := ("Both", some "__init__")) (x := "__init__") (q := "Both.__init__") (st := s_Both_new) rfl
  have B13 := F13.binds (ps := ["self", "left", "right"]) fun _ _ _ _ _ _ us hl => match us, hl with | [_, _, _], _ => rfl
  obtain ⟨f14, F14⟩ := cF.fun_ 14 (p := ("Either", some "__init__")) (x := "__init__") (q := "Either.__init__") (st := s_Either_new) rfl
  have B14 := F14.binds (ps := ["self", "left", "right"]) fun _ _ _ _ _ _ us hl => match us, hl with | [_, _, _], _ => rfl
  obtain ⟨f15, F15⟩ := cF.fun_ 15 (p := ("Is", some "spoken")) (x := "spoken") (q := "Is.spoken") (st := s_Is_spoken) rfl
  have B15 := F15.binds (ps := ["self"]) fun _ _ _ _ _ _ us hl => match us, hl with | [_], _ => rfl
  obtain ⟨f16, F16⟩ := cF.fun_ 16 (p := ("Has", some "spoken")) (x := "spoken") (q := "Has.spoken") (st := s_Has_spoken) rfl
  have B16 := F16.binds (ps := ["self"]) fun _ _ _ _ _ _ us hl => match us, hl with | [_], _ => rfl
  obtain ⟨f17, F17⟩ := cF.fun_ 17 (p := ("Above", some "spoken")) (x := "spoken") (q := "Above.spoken") (st := s_Above_spoken) rfl
  have B17 := F17.binds (ps := ["self"]) fun _ _ _ _ _ _ us hl => match us, hl with | [_], _ => rfl
  obtain ⟨f18, F18⟩ := cF.fun_ 18 (p := ("Below", some "spoken")) (x := "spoken") (q := "Below.spoken") (st := s_Below_spoken) rfl
  have B18 := F18.binds (ps := ["self"]) fun _ _ _ _ _ _ us hl => match us, hl with | [_], _ => rfl
  obtain ⟨f19, F19⟩ := cF.fun_ 19 (p := ("Not", some "spoken")) (x := "spoken") (q := "Not.spoken") (st := s_Not_spoken) rfl
  have B19 := F19.binds (ps := ["self"]) fun _ _ _ _ _ _ us hl => match us, hl with | [_], _ => rfl
  obtain ⟨f20, F20⟩ := cF.fun_ 20 (p := ("Both", some "spoken")) (x := "spoken") (q := "Both.spoken") (st := s_Both_spoken) rfl
  have B20 := F20.binds (ps := ["self"]) fun _ _ _ _ _ _ us hl => match us, hl with | [_], _ => rfl
  obtain ⟨f21, F21⟩ := cF.fun_ 21 (p := ("Either", some "spoken")) (x := "spoken") (q := "Either.spoken") (st := s_Either_spoken) rfl
  have B21 := F21.binds (ps := ["self"]) fun _ _ _ _ _ _ us hl => match us, hl with | [_], _ => rfl
  obtain ⟨f22, F22⟩ := cF.fun_ 22 (p := ("One", some "within")) (x := "within") (q := "Row.within") (st := s_Row_within) rfl
  have B22 := F22.binds (ps := ["self"]) fun _ _ _ _ _ _ us hl => match us, hl with | [_], _ => rfl
  obtain ⟨f23, F23⟩ := cF.fun_ 23 (p := ("Check", some "asked_fields")) (x := "asked_fields") (q := "Row.asked_fields") (st := s_Row_asked_fields) rfl
  have B23 := F23.binds (ps := ["self"]) fun _ _ _ _ _ _ us hl => match us, hl with | [_], _ => rfl
  obtain ⟨f24, F24⟩ := cF.fun_ 24 (p := ("One", some "__init__")) (x := "__init__") (q := "One.__init__") (st := s_One_new) rfl
  have B24 := kn_binds (ps := ["self", "name", "options", "where"]) (ks := ["where"]) (n := 3) (m := 1) F24 rfl fun _ _ _ _ _ _ us ws h1 h2 => match us, ws, h1, h2 with | [_, _, _], [_], _, _ => rfl
  obtain ⟨f25, F25⟩ := cF.fun_ 25 (p := ("Some", some "__init__")) (x := "__init__") (q := "Some.__init__") (st := s_Some_new) rfl
  have B25 := kn_binds (ps := ["self", "name", "options", "where"]) (ks := ["where"]) (n := 3) (m := 1) F25 rfl fun _ _ _ _ _ _ us ws h1 h2 => match us, ws, h1, h2 with | [_, _, _], [_], _, _ => rfl
  obtain ⟨f26, F26⟩ := cF.fun_ 26 (p := ("Number", some "__init__")) (x := "__init__") (q := "Number.__init__") (st := s_Number_new) rfl
  have B26 := kn_binds (ps := ["self", "name", "low", "high", "where"]) (ks := ["where"]) (n := 4) (m := 1) F26 rfl fun _ _ _ _ _ _ us ws h1 h2 => match us, ws, h1, h2 with | [_, _, _, _], [_], _, _ => rfl
  obtain ⟨f27, F27⟩ := cF.fun_ 27 (p := ("Check", some "__init__")) (x := "__init__") (q := "Check.__init__") (st := s_Check_new) rfl
  have B27 := kn_binds (ps := ["self", "name", "must", "where"]) (ks := ["where"]) (n := 3) (m := 1) F27 rfl fun _ _ _ _ _ _ us ws h1 h2 => match us, ws, h1, h2 with | [_, _, _], [_], _, _ => rfl
  obtain ⟨f28, F28⟩ := cF.fun_ 28 (p := ("Section", some "__init__")) (x := "__init__") (q := "Section.__init__") (st := s_Section_new) rfl
  have B28 := kn_binds (ps := ["self", "rows", "where"]) (ks := ["where"]) (n := 2) (m := 1) F28 rfl fun _ _ _ _ _ _ us ws h1 h2 => match us, ws, h1, h2 with | [_, _], [_], _, _ => rfl
  obtain ⟨f29, F29⟩ := cF.fun_ 29 (p := ("Rounds", some "__init__")) (x := "__init__") (q := "Rounds.__init__") (st := s_Rounds_new) rfl
  have B29 := kn_binds (ps := ["self", "count", "rows", "where"]) (ks := ["where"]) (n := 3) (m := 1) F29 rfl fun _ _ _ _ _ _ us ws h1 h2 => match us, ws, h1, h2 with | [_, _, _], [_], _, _ => rfl
  obtain ⟨f30, F30⟩ := cF.fun_ 30 (p := ("One", some "kind")) (x := "kind") (q := "One.kind") (st := s_One_kind) rfl
  have B30 := F30.binds (ps := ["self"]) fun _ _ _ _ _ _ us hl => match us, hl with | [_], _ => rfl
  obtain ⟨f31, F31⟩ := cF.fun_ 31 (p := ("Some", some "kind")) (x := "kind") (q := "Some.kind") (st := s_Some_kind) rfl
  have B31 := F31.binds (ps := ["self"]) fun _ _ _ _ _ _ us hl => match us, hl with | [_], _ => rfl
  obtain ⟨f32, F32⟩ := cF.fun_ 32 (p := ("Number", some "kind")) (x := "kind") (q := "Number.kind") (st := s_Number_kind) rfl
  have B32 := F32.binds (ps := ["self"]) fun _ _ _ _ _ _ us hl => match us, hl with | [_], _ => rfl
  obtain ⟨f33, F33⟩ := cF.fun_ 33 (p := ("Check", some "kind")) (x := "kind") (q := "Check.kind") (st := s_Check_kind) rfl
  have B33 := F33.binds (ps := ["self"]) fun _ _ _ _ _ _ us hl => match us, hl with | [_], _ => rfl
  obtain ⟨f34, F34⟩ := cF.fun_ 34 (p := ("Section", some "kind")) (x := "kind") (q := "Section.kind") (st := s_Section_kind) rfl
  have B34 := F34.binds (ps := ["self"]) fun _ _ _ _ _ _ us hl => match us, hl with | [_], _ => rfl
  obtain ⟨f35, F35⟩ := cF.fun_ 35 (p := ("Rounds", some "kind")) (x := "kind") (q := "Rounds.kind") (st := s_Rounds_kind) rfl
  have B35 := F35.binds (ps := ["self"]) fun _ _ _ _ _ _ us hl => match us, hl with | [_], _ => rfl
  obtain ⟨f36, F36⟩ := cF.fun_ 36 (p := ("Section", some "within")) (x := "within") (q := "Section.within") (st := s_Section_within) rfl
  have B36 := F36.binds (ps := ["self"]) fun _ _ _ _ _ _ us hl => match us, hl with | [_], _ => rfl
  obtain ⟨f37, F37⟩ := cF.fun_ 37 (p := ("Rounds", some "within")) (x := "within") (q := "Rounds.within") (st := s_Rounds_within) rfl
  have B37 := F37.binds (ps := ["self"]) fun _ _ _ _ _ _ us hl => match us, hl with | [_], _ => rfl
  obtain ⟨f38, F38⟩ := cF.fun_ 38 (p := ("One", some "asked_fields")) (x := "asked_fields") (q := "One.asked_fields") (st := s_One_asked_fields) rfl
  have B38 := F38.binds (ps := ["self"]) fun _ _ _ _ _ _ us hl => match us, hl with | [_], _ => rfl
  obtain ⟨f39, F39⟩ := cF.fun_ 39 (p := ("Some", some "asked_fields")) (x := "asked_fields") (q := "Some.asked_fields") (st := s_Some_asked_fields) rfl
  have B39 := F39.binds (ps := ["self"]) fun _ _ _ _ _ _ us hl => match us, hl with | [_], _ => rfl
  obtain ⟨f40, F40⟩ := cF.fun_ 40 (p := ("Number", some "asked_fields")) (x := "asked_fields") (q := "Number.asked_fields") (st := s_Number_asked_fields) rfl
  have B40 := F40.binds (ps := ["self"]) fun _ _ _ _ _ _ us hl => match us, hl with | [_], _ => rfl
  obtain ⟨f41, F41⟩ := cF.fun_ 41 (p := ("many_rows", none)) (x := "many_rows") (q := "many_rows") (st := s_many_rows) rfl
  have B41 := F41.binds (ps := ["rows"]) fun _ _ _ _ _ _ us hl => match us, hl with | [_], _ => rfl
  obtain ⟨f42, F42⟩ := cF.fun_ 42 (p := ("Form", some "__init__")) (x := "__init__") (q := "Form.__init__") (st := s_Form_new) rfl
  have B42 := F42.binds (ps := ["self", "rows"]) fun _ _ _ _ _ _ us hl => match us, hl with | [_, _], _ => rfl
  obtain ⟨f43, F43⟩ := cF.fun_ 43 (p := ("Form", some "look_through")) (x := "look_through") (q := "Form.look_through") (st := s_Form_look_through) rfl
  have B43 := F43.binds (ps := ["self", "rows", "here"]) fun _ _ _ _ _ _ us hl => match us, hl with | [_, _, _], _ => rfl
  obtain ⟨f44, F44⟩ := cF.fun_ 44 (p := ("Form", some "look_at")) (x := "look_at") (q := "Form.look_at") (st := s_Form_look_at) rfl
  have B44 := F44.binds (ps := ["self", "row", "here"]) fun _ _ _ _ _ _ us hl => match us, hl with | [_, _, _], _ => rfl
  obtain ⟨f45, F45⟩ := cF.fun_ 45 (p := ("Form", some "look_at_rows")) (x := "look_at_rows") (q := "Form.look_at_rows") (st := s_Form_look_at_rows) rfl
  have B45 := F45.binds (ps := ["self", "row", "here"]) fun _ _ _ _ _ _ us hl => match us, hl with | [_, _, _], _ => rfl
  obtain ⟨f46, F46⟩ := cF.fun_ 46 (p := ("Form", some "spoken_of")) (x := "spoken_of") (q := "Form.spoken_of") (st := s_Form_spoken_of) rfl
  have B46 := F46.binds (ps := ["self", "name", "here"]) fun _ _ _ _ _ _ us hl => match us, hl with | [_, _, _], _ => rfl
  obtain ⟨f47, F47⟩ := cF.fun_ 47 (p := ("Form", some "look_at_condition")) (x := "look_at_condition") (q := "Form.look_at_condition") (st := s_Form_look_at_condition) rfl
  have B47 := F47.binds (ps := ["self", "condition", "here"]) fun _ _ _ _ _ _ us hl => match us, hl with | [_, _, _], _ => rfl
  obtain ⟨f48, F48⟩ := cF.fun_ 48 (p := ("Form", some "outline")) (x := "outline") (q := "Form.outline") (st := s_Form_outline) rfl
  have B48 := F48.binds (ps := ["self"]) fun _ _ _ _ _ _ us hl => match us, hl with | [_], _ => rfl
  obtain ⟨f49, F49⟩ := cF.fun_ 49 (p := ("Form", some "names")) (x := "names") (q := "Form.names") (st := s_Form_names) rfl
  have B49 := F49.binds (ps := ["self"]) fun _ _ _ _ _ _ us hl => match us, hl with | [_], _ => rfl
  obtain ⟨f50, F50⟩ := cF.fun_ 50 (p := ("_law_source", none)) (x := "_law_source") (q := "_law_source") (st := s__law_source) rfl
  have B50 := F50.binds (ps := ["_law_cell"]) fun _ _ _ _ _ _ us hl => match us, hl with | [_], _ => rfl
  obtain ⟨f51, F51⟩ := cF.fun_ 51 (p := ("_law_take", none)) (x := "_law_take") (q := "_law_take") (st := s__law_take) rfl
  have B51 := F51.binds (ps := ["_law_source_here", "_law_many"]) fun _ _ _ _ _ _ us hl => match us, hl with | [_, _], _ => rfl
  obtain ⟨f52, F52⟩ := cF.fun_ 52 (p := ("_law_names", none)) (x := "_law_names") (q := "_law_names") (st := s__law_names) rfl
  have B52 := F52.binds (ps := ["_law_source_here", "_law_many"]) fun _ _ _ _ _ _ us hl => match us, hl with | [_, _], _ => rfl
  obtain ⟨f53, F53⟩ := cF.fun_ 53 (p := ("_law_simple", none)) (x := "_law_simple") (q := "_law_simple") (st := s__law_simple) rfl
  have B53 := F53.binds (ps := ["_law_source_here", "_law_known"]) fun _ _ _ _ _ _ us hl => match us, hl with | [_, _], _ => rfl
  obtain ⟨f54, F54⟩ := cF.fun_ 54 (p := ("_law_condition", none)) (x := "_law_condition") (q := "_law_condition") (st := s__law_condition) rfl
  have B54 := F54.binds (ps := ["_law_source_here", "_law_known", "_law_deep"]) fun _ _ _ _ _ _ us hl => match us, hl with | [_, _, _], _ => rfl
  obtain ⟨f55, F55⟩ := cF.fun_ 55 (p := ("_law_perhaps", none)) (x := "_law_perhaps") (q := "_law_perhaps") (st := s__law_perhaps) rfl
  have B55 := F55.binds (ps := ["_law_source_here", "_law_known"]) fun _ _ _ _ _ _ us hl => match us, hl with | [_, _], _ => rfl
  obtain ⟨f56, F56⟩ := cF.fun_ 56 (p := ("_law_question", none)) (x := "_law_question") (q := "_law_question") (st := s__law_question) rfl
  have B56 := F56.binds (ps := ["_law_source_here", "_law_name", "_law_known"]) fun _ _ _ _ _ _ us hl => match us, hl with | [_, _, _], _ => rfl
  obtain ⟨f57, F57⟩ := cF.fun_ 57 (p := ("_law_rows", none)) (x := "_law_rows") (q := "_law_rows") (st := s__law_rows) rfl
  have B57 := F57.binds (ps := ["_law_source_here", "_law_names_here", "_law_known", "_law_many", "_law_place"]) fun _ _ _ _ _ _ us hl => match us, hl with | [_, _, _, _, _], _ => rfl
  obtain ⟨f58, F58⟩ := cF.fun_ 58 (p := ("_law_form", none)) (x := "_law_form") (q := "_law_form") (st := s__law_form) rfl
  have B58 := F58.binds (ps := ["_law_source_here", "_law_many"]) fun _ _ _ _ _ _ us hl => match us, hl with | [_, _], _ => rfl
  obtain ⟨f59, F59⟩ := cF.fun_ 59 (p := ("_law_made_condition", none)) (x := "_law_made_condition") (q := "_law_made_condition") (st := s__law_made_condition) rfl
  have B59 := F59.binds (ps := ["_law_cond"]) fun _ _ _ _ _ _ us hl => match us, hl with | [_], _ => rfl
  obtain ⟨f60, F60⟩ := cF.fun_ 60 (p := ("_law_made_row", none)) (x := "_law_made_row") (q := "_law_made_row") (st := s__law_made_row) rfl
  have B60 := F60.binds (ps := ["_law_row"]) fun _ _ _ _ _ _ us hl => match us, hl with | [_], _ => rfl
  obtain ⟨f61, F61⟩ := cF.fun_ 61 (p := ("_law_all", none)) (x := "_law_all") (q := "_law_all") (st := s__law_all) rfl
  have B61 := F61.binds (ps := ["_law_rows_here"]) fun _ _ _ _ _ _ us hl => match us, hl with | [_], _ => rfl
  obtain ⟨f62, F62⟩ := cF.fun_ 62 (p := ("_law_spoilt_fields", none)) (x := "_law_spoilt_fields") (q := "_law_spoilt_fields") (st := s__law_spoilt_fields) rfl
  have B62 := F62.binds (ps := ["_law_source_here", "_law_row", "_law_every"]) fun _ _ _ _ _ _ us hl => match us, hl with | [_, _, _], _ => rfl
  obtain ⟨f63, F63⟩ := cF.fun_ 63 (p := ("_law_any_condition", none)) (x := "_law_any_condition") (q := "_law_any_condition") (st := s__law_any_condition) rfl
  have B63 := F63.binds (ps := ["_law_source_here", "_law_every"]) fun _ _ _ _ _ _ us hl => match us, hl with | [_, _], _ => rfl
  obtain ⟨f64, F64⟩ := cF.fun_ 64 (p := ("_law_spoilt", none)) (x := "_law_spoilt") (q := "_law_spoilt") (st := s__law_spoilt) rfl
  have B64 := F64.binds (ps := ["_law_source_here", "_law_rows_here", "_law_every"]) fun _ _ _ _ _ _ us hl => match us, hl with | [_, _, _], _ => rfl
  obtain ⟨f65, F65⟩ := cF.fun_ 65 (p := ("_law_big", none)) (x := "_law_big") (q := "_law_big") (st := s__law_big) rfl
  have B65 := F65.binds (ps := ["_law_source_here"]) fun _ _ _ _ _ _ us hl => match us, hl with | [_], _ => rfl
  obtain ⟨f66, F66⟩ := cF.fun_ 66 (p := ("_law_is_name", none)) (x := "_law_is_name") (q := "_law_is_name") (st := s__law_is_name) rfl
  have B66 := F66.binds (ps := ["_law_text"]) fun _ _ _ _ _ _ us hl => match us, hl with | [_], _ => rfl
  obtain ⟨f67, F67⟩ := cF.fun_ 67 (p := ("_law_spoken", none)) (x := "_law_spoken") (q := "_law_spoken") (st := s__law_spoken) rfl
  have B67 := F67.binds (ps := ["_law_cond"]) fun _ _ _ _ _ _ us hl => match us, hl with | [_], _ => rfl
  obtain ⟨f68, F68⟩ := cF.fun_ 68 (p := ("_law_heard", none)) (x := "_law_heard") (q := "_law_heard") (st := s__law_heard) rfl
  have B68 := F68.binds (ps := ["_law_f", "_law_name", "_law_here"]) fun _ _ _ _ _ _ us hl => match us, hl with | [_, _, _], _ => rfl
  obtain ⟨f69, F69⟩ := cF.fun_ 69 (p := ("_law_conditions_amiss", none)) (x := "_law_conditions_amiss") (q := "_law_conditions_amiss") (st := s__law_conditions_amiss) rfl
  have B69 := F69.binds (ps := ["_law_f", "_law_conds", "_law_here"]) fun _ _ _ _ _ _ us hl => match us, hl with | [_, _, _], _ => rfl
  obtain ⟨f70, F70⟩ := cF.fun_ 70 (p := ("_law_fields_amiss", none)) (x := "_law_fields_amiss") (q := "_law_fields_amiss") (st := s__law_fields_amiss) rfl
  have B70 := F70.binds (ps := ["_law_f", "_law_row", "_law_here"]) fun _ _ _ _ _ _ us hl => match us, hl with | [_, _, _], _ => rfl
  obtain ⟨f71, F71⟩ := cF.fun_ 71 (p := ("_law_amiss", none)) (x := "_law_amiss") (q := "_law_amiss") (st := s__law_amiss) rfl
  have B71 := F71.binds (ps := ["_law_f", "_law_rows_here", "_law_here"]) fun _ _ _ _ _ _ us hl => match us, hl with | [_, _, _], _ => rfl
  obtain ⟨f72, F72⟩ := cF.fun_ 72 (p := ("_law_due", none)) (x := "_law_due") (q := "_law_due") (st := s__law_due) rfl
  have B72 := F72.binds (ps := ["_law_rows_here"]) fun _ _ _ _ _ _ us hl => match us, hl with | [_], _ => rfl
  obtain ⟨f73, F73⟩ := cF.fun_ 73 (p := ("_law_said", none)) (x := "_law_said") (q := "_law_said") (st := s__law_said) rfl
  have B73 := F73.binds (ps := ["_law_rows_here"]) fun _ _ _ _ _ _ us hl => match us, hl with | [_], _ => rfl
  obtain ⟨f74, F74⟩ := cF.def_ 74 (d := dd ("law", none) "law" "law" s_law) rfl
  have bL := FunD.bindsA (ps := ["_law_script"]) F74 fun _ _ _ _ _ _ us hl => match us, hl with | [_], _ => rfl
  replace F74 : FunD K "law" "law" (defArgs s_law) (defBody s_law) (defScope s_law) [] [] (fAd K ("law", none)) f74 := F74
  replace F74 := fun_of F74
  have B74 := F74.binds (ps := ["_law_script"]) fun _ _ _ _ _ _ us hl => match us, hl with | [_], _ => rfl
  obtain ⟨C_LETTERS⟩ := str_con X G (Fcts.fact qA 30 (f := .str "LETTERS" "abcdefghijklmnopqrstuvwxyz") rfl)
  obtain ⟨C_FIGURES⟩ := str_con X G (Fcts.fact qA 31 (f := .str "FIGURES" "0123456789") rfl)
  obtain ⟨C_LONGEST⟩ := int_con X G (Fcts.fact qA 32 (f := .int "LONGEST" 8) rfl)
  obtain ⟨C_MOST_ROWS⟩ := int_con X G (Fcts.fact qA 33 (f := .int "MOST_ROWS" 40) rfl)
  obtain ⟨C_MOST_ROUNDS⟩ := int_con X G (Fcts.fact qA 34 (f := .int "MOST_ROUNDS" 4) rfl)
  let T : Txt K mg := {
    BadCount_new := ⟨_, _, F0, B0⟩,
    NoName_new := ⟨_, _, F1, B1⟩,
    Twice_new := ⟨_, _, F2, B2⟩,
    NoQuestion_new := ⟨_, _, F3, B3⟩,
    NoFit_new := ⟨_, _, F4, B4⟩,
    is_name := ⟨_, _, F5, B5, glo_ok X G (Fcts.fact qA 0 (f := .glo "is_name") rfl)⟩,
    asked_names := ⟨_, _, F6, B6, glo_ok X G (Fcts.fact qA 1 (f := .glo "asked_names") rfl)⟩,
    asked_once := ⟨_, _, F7, B7, glo_ok X G (Fcts.fact qA 2 (f := .glo "asked_once") rfl)⟩,
    Is_new := ⟨_, _, F8, B8⟩,
    Has_new := ⟨_, _, F9, B9⟩,
    Above_new := ⟨_, _, F10, B10⟩,
    Below_new := ⟨_, _, F11, B11⟩,
    Not_new := ⟨_, _, F12, B12⟩,
    Both_new := ⟨_, _, F13, B13⟩,
    Either_new := ⟨_, _, F14, B14⟩,
    Is_spoken := ⟨_, _, F15, B15⟩,
    Has_spoken := ⟨_, _, F16, B16⟩,
    Above_spoken := ⟨_, _, F17, B17⟩,
    Below_spoken := ⟨_, _, F18, B18⟩,
    Not_spoken := ⟨_, _, F19, B19⟩,
    Both_spoken := ⟨_, _, F20, B20⟩,
    Either_spoken := ⟨_, _, F21, B21⟩,
    Row_within := ⟨_, _, F22, B22⟩,
    Row_asked_fields := ⟨_, _, F23, B23⟩,
    One_new := ⟨_, _, F24, B24⟩,
    Some_new := ⟨_, _, F25, B25⟩,
    Number_new := ⟨_, _, F26, B26⟩,
    Check_new := ⟨_, _, F27, B27⟩,
    Section_new := ⟨_, _, F28, B28⟩,
    Rounds_new := ⟨_, _, F29, B29⟩,
    One_kind := ⟨_, _, F30, B30⟩,
    Some_kind := ⟨_, _, F31, B31⟩,
    Number_kind := ⟨_, _, F32, B32⟩,
    Check_kind := ⟨_, _, F33, B33⟩,
    Section_kind := ⟨_, _, F34, B34⟩,
    Rounds_kind := ⟨_, _, F35, B35⟩,
    Section_within := ⟨_, _, F36, B36⟩,
    Rounds_within := ⟨_, _, F37, B37⟩,
    One_asked_fields := ⟨_, _, F38, B38⟩,
    Some_asked_fields := ⟨_, _, F39, B39⟩,
    Number_asked_fields := ⟨_, _, F40, B40⟩,
    many_rows := ⟨_, _, F41, B41, glo_ok X G (Fcts.fact qA 3 (f := .glo "many_rows") rfl)⟩,
    Form_new := ⟨_, _, F42, B42⟩,
    Form_look_through := ⟨_, _, F43, B43⟩,
    Form_look_at := ⟨_, _, F44, B44⟩,
    Form_look_at_rows := ⟨_, _, F45, B45⟩,
    Form_spoken_of := ⟨_, _, F46, B46⟩,
    Form_look_at_condition := ⟨_, _, F47, B47⟩,
    Form_outline := ⟨_, _, F48, B48⟩,
    Form_names := ⟨_, _, F49, B49⟩,
    _law_source := ⟨_, _, F50, B50, glo_ok X G (Fcts.fact qA 4 (f := .glo "_law_source") rfl)⟩,
    _law_take := ⟨_, _, F51, B51, glo_ok X G (Fcts.fact qA 5 (f := .glo "_law_take") rfl)⟩,
    _law_names := ⟨_, _, F52, B52, glo_ok X G (Fcts.fact qA 6 (f := .glo "_law_names") rfl)⟩,
    _law_simple := ⟨_, _, F53, B53, glo_ok X G (Fcts.fact qA 7 (f := .glo "_law_simple") rfl)⟩,
    _law_condition := ⟨_, _, F54, B54, glo_ok X G (Fcts.fact qA 8 (f := .glo "_law_condition") rfl)⟩,
    _law_perhaps := ⟨_, _, F55, B55, glo_ok X G (Fcts.fact qA 9 (f := .glo "_law_perhaps") rfl)⟩,
    _law_question := ⟨_, _, F56, B56, glo_ok X G (Fcts.fact qA 10 (f := .glo "_law_question") rfl)⟩,
    _law_rows := ⟨_, _, F57, B57, glo_ok X G (Fcts.fact qA 11 (f := .glo "_law_rows") rfl)⟩,
    _law_form := ⟨_, _, F58, B58, glo_ok X G (Fcts.fact qA 12 (f := .glo "_law_form") rfl)⟩,
    _law_made_condition := ⟨_, _, F59, B59, glo_ok X G (Fcts.fact qA 13 (f := .glo "_law_made_condition") rfl)⟩,
    _law_made_row := ⟨_, _, F60, B60, glo_ok X G (Fcts.fact qA 14 (f := .glo "_law_made_row") rfl)⟩,
    _law_all := ⟨_, _, F61, B61, glo_ok X G (Fcts.fact qA 15 (f := .glo "_law_all") rfl)⟩,
    _law_spoilt_fields := ⟨_, _, F62, B62, glo_ok X G (Fcts.fact qA 16 (f := .glo "_law_spoilt_fields") rfl)⟩,
    _law_any_condition := ⟨_, _, F63, B63, glo_ok X G (Fcts.fact qA 17 (f := .glo "_law_any_condition") rfl)⟩,
    _law_spoilt := ⟨_, _, F64, B64, glo_ok X G (Fcts.fact qA 18 (f := .glo "_law_spoilt") rfl)⟩,
    _law_big := ⟨_, _, F65, B65, glo_ok X G (Fcts.fact qA 19 (f := .glo "_law_big") rfl)⟩,
    _law_is_name := ⟨_, _, F66, B66, glo_ok X G (Fcts.fact qA 20 (f := .glo "_law_is_name") rfl)⟩,
    _law_spoken := ⟨_, _, F67, B67, glo_ok X G (Fcts.fact qA 21 (f := .glo "_law_spoken") rfl)⟩,
    _law_heard := ⟨_, _, F68, B68, glo_ok X G (Fcts.fact qA 22 (f := .glo "_law_heard") rfl)⟩,
    _law_conditions_amiss := ⟨_, _, F69, B69, glo_ok X G (Fcts.fact qA 23 (f := .glo "_law_conditions_amiss") rfl)⟩,
    _law_fields_amiss := ⟨_, _, F70, B70, glo_ok X G (Fcts.fact qA 24 (f := .glo "_law_fields_amiss") rfl)⟩,
    _law_amiss := ⟨_, _, F71, B71, glo_ok X G (Fcts.fact qA 25 (f := .glo "_law_amiss") rfl)⟩,
    _law_due := ⟨_, _, F72, B72, glo_ok X G (Fcts.fact qA 26 (f := .glo "_law_due") rfl)⟩,
    _law_said := ⟨_, _, F73, B73, glo_ok X G (Fcts.fact qA 27 (f := .glo "_law_said") rfl)⟩,
    law := ⟨_, _, F74, B74, glo_ok X G (Fcts.fact qA 28 (f := .glo "law") rfl)⟩,
    Is := clsT_of X G (Fcts.cls qC 0 (x := "Is") (fs := ["name", "option"]) rfl),
    Has := clsT_of X G (Fcts.cls qC 1 (x := "Has") (fs := ["name", "option"]) rfl),
    Above := clsT_of X G (Fcts.cls qC 2 (x := "Above") (fs := ["name", "number"]) rfl),
    Below := clsT_of X G (Fcts.cls qC 3 (x := "Below") (fs := ["name", "number"]) rfl),
    Not := clsT_of X G (Fcts.cls qC 4 (x := "Not") (fs := ["inner"]) rfl),
    Both := clsT_of X G (Fcts.cls qC 5 (x := "Both") (fs := ["left", "right"]) rfl),
    Either := clsT_of X G (Fcts.cls qC 6 (x := "Either") (fs := ["left", "right"]) rfl),
    One := clsT_of X G (Fcts.cls qC 7 (x := "One") (fs := ["name", "options", "where"]) rfl),
    Some := clsT_of X G (Fcts.cls qC 8 (x := "Some") (fs := ["name", "options", "where"]) rfl),
    Number := clsT_of X G (Fcts.cls qC 9 (x := "Number") (fs := ["name", "low", "high", "where"]) rfl),
    Check := clsT_of X G (Fcts.cls qC 10 (x := "Check") (fs := ["name", "must", "where"]) rfl),
    Section := clsT_of X G (Fcts.cls qC 11 (x := "Section") (fs := ["rows", "where"]) rfl),
    Rounds := clsT_of X G (Fcts.cls qC 12 (x := "Rounds") (fs := ["count", "rows", "where"]) rfl),
    Form := clsT_of X G (Fcts.cls qC 13 (x := "Form") (fs := ["top", "named", "asked", "rounds"]) rfl),
    m_Is_spoken := Fcts.meth qM 0 (x := "Is") (m := "spoken") (y := "Is") rfl,
    m_Has_spoken := Fcts.meth qM 1 (x := "Has") (m := "spoken") (y := "Has") rfl,
    m_Above_spoken := Fcts.meth qM 2 (x := "Above") (m := "spoken") (y := "Above") rfl,
    m_Below_spoken := Fcts.meth qM 3 (x := "Below") (m := "spoken") (y := "Below") rfl,
    m_Not_spoken := Fcts.meth qM 4 (x := "Not") (m := "spoken") (y := "Not") rfl,
    m_Both_spoken := Fcts.meth qM 5 (x := "Both") (m := "spoken") (y := "Both") rfl,
    m_Either_spoken := Fcts.meth qM 6 (x := "Either") (m := "spoken") (y := "Either") rfl,
    m_One_kind := Fcts.meth qM 7 (x := "One") (m := "kind") (y := "One") rfl,
    m_One_asked_fields := Fcts.meth qM 8 (x := "One") (m := "asked_fields") (y := "One") rfl,
    m_One_within := Fcts.meth qM 9 (x := "One") (m := "within") (y := "One") rfl,
    m_Some_kind := Fcts.meth qM 10 (x := "Some") (m := "kind") (y := "Some") rfl,
    m_Some_asked_fields := Fcts.meth qM 11 (x := "Some") (m := "asked_fields") (y := "Some") rfl,
    m_Some_within := Fcts.meth qM 12 (x := "Some") (m := "within") (y := "One") rfl,
    m_Number_kind := Fcts.meth qM 13 (x := "Number") (m := "kind") (y := "Number") rfl,
    m_Number_asked_fields := Fcts.meth qM 14 (x := "Number") (m := "asked_fields") (y := "Number") rfl,
    m_Number_within := Fcts.meth qM 15 (x := "Number") (m := "within") (y := "One") rfl,
    m_Check_kind := Fcts.meth qM 16 (x := "Check") (m := "kind") (y := "Check") rfl,
    m_Check_within := Fcts.meth qM 17 (x := "Check") (m := "within") (y := "One") rfl,
    m_Check_asked_fields := Fcts.meth qM 18 (x := "Check") (m := "asked_fields") (y := "Check") rfl,
    m_Section_kind := Fcts.meth qM 19 (x := "Section") (m := "kind") (y := "Section") rfl,
    m_Section_within := Fcts.meth qM 20 (x := "Section") (m := "within") (y := "Section") rfl,
    m_Rounds_kind := Fcts.meth qM 21 (x := "Rounds") (m := "kind") (y := "Rounds") rfl,
    m_Rounds_within := Fcts.meth qM 22 (x := "Rounds") (m := "within") (y := "Rounds") rfl,
    m_Form_look_through := Fcts.meth qM 23 (x := "Form") (m := "look_through") (y := "Form") rfl,
    m_Form_look_at := Fcts.meth qM 24 (x := "Form") (m := "look_at") (y := "Form") rfl,
    m_Form_look_at_rows := Fcts.meth qM 25 (x := "Form") (m := "look_at_rows") (y := "Form") rfl,
    m_Form_spoken_of := Fcts.meth qM 26 (x := "Form") (m := "spoken_of") (y := "Form") rfl,
    m_Form_look_at_condition := Fcts.meth qM 27 (x := "Form") (m := "look_at_condition") (y := "Form") rfl,
    m_Form_outline := Fcts.meth qM 28 (x := "Form") (m := "outline") (y := "Form") rfl,
    m_Form_names := Fcts.meth qM 29 (x := "Form") (m := "names") (y := "Form") rfl,
    C_HallError := ga K "HallError", gx_HallError := glo_ok X G (Fcts.fact qA 29 (f := .glo "HallError") rfl),
    BadCount := excT_of X G (Fcts.exc qX 0 (x := "BadCount") (y := "HallError") (fs := ["what", "count"]) rfl),
    NoName := excT_of X G (Fcts.exc qX 1 (x := "NoName") (y := "HallError") (fs := ["name"]) rfl),
    Twice := excT_of X G (Fcts.exc qX 2 (x := "Twice") (y := "HallError") (fs := ["name"]) rfl),
    NoQuestion := excT_of X G (Fcts.exc qX 3 (x := "NoQuestion") (y := "HallError") (fs := ["name"]) rfl),
    NoFit := excT_of X G (Fcts.exc qX 4 (x := "NoFit") (y := "HallError") (fs := ["name"]) rfl),
    ki_BadCount_BadCount := Fcts.kit qI 0 (x := "BadCount") (y := "BadCount") (b := true) rfl,
    ki_BadCount_NoName := Fcts.kit qI 1 (x := "BadCount") (y := "NoName") (b := false) rfl,
    ki_BadCount_Twice := Fcts.kit qI 2 (x := "BadCount") (y := "Twice") (b := false) rfl,
    ki_BadCount_NoQuestion := Fcts.kit qI 3 (x := "BadCount") (y := "NoQuestion") (b := false) rfl,
    ki_BadCount_NoFit := Fcts.kit qI 4 (x := "BadCount") (y := "NoFit") (b := false) rfl,
    ki_NoName_BadCount := Fcts.kit qI 5 (x := "NoName") (y := "BadCount") (b := false) rfl,
    ki_NoName_NoName := Fcts.kit qI 6 (x := "NoName") (y := "NoName") (b := true) rfl,
    ki_NoName_Twice := Fcts.kit qI 7 (x := "NoName") (y := "Twice") (b := false) rfl,
    ki_NoName_NoQuestion := Fcts.kit qI 8 (x := "NoName") (y := "NoQuestion") (b := false) rfl,
    ki_NoName_NoFit := Fcts.kit qI 9 (x := "NoName") (y := "NoFit") (b := false) rfl,
    ki_Twice_BadCount := Fcts.kit qI 10 (x := "Twice") (y := "BadCount") (b := false) rfl,
    ki_Twice_NoName := Fcts.kit qI 11 (x := "Twice") (y := "NoName") (b := false) rfl,
    ki_Twice_Twice := Fcts.kit qI 12 (x := "Twice") (y := "Twice") (b := true) rfl,
    ki_Twice_NoQuestion := Fcts.kit qI 13 (x := "Twice") (y := "NoQuestion") (b := false) rfl,
    ki_Twice_NoFit := Fcts.kit qI 14 (x := "Twice") (y := "NoFit") (b := false) rfl,
    ki_NoQuestion_BadCount := Fcts.kit qI 15 (x := "NoQuestion") (y := "BadCount") (b := false) rfl,
    ki_NoQuestion_NoName := Fcts.kit qI 16 (x := "NoQuestion") (y := "NoName") (b := false) rfl,
    ki_NoQuestion_Twice := Fcts.kit qI 17 (x := "NoQuestion") (y := "Twice") (b := false) rfl,
    ki_NoQuestion_NoQuestion := Fcts.kit qI 18 (x := "NoQuestion") (y := "NoQuestion") (b := true) rfl,
    ki_NoQuestion_NoFit := Fcts.kit qI 19 (x := "NoQuestion") (y := "NoFit") (b := false) rfl,
    ki_NoFit_BadCount := Fcts.kit qI 20 (x := "NoFit") (y := "BadCount") (b := false) rfl,
    ki_NoFit_NoName := Fcts.kit qI 21 (x := "NoFit") (y := "NoName") (b := false) rfl,
    ki_NoFit_Twice := Fcts.kit qI 22 (x := "NoFit") (y := "Twice") (b := false) rfl,
    ki_NoFit_NoQuestion := Fcts.kit qI 23 (x := "NoFit") (y := "NoQuestion") (b := false) rfl,
    ki_NoFit_NoFit := Fcts.kit qI 24 (x := "NoFit") (y := "NoFit") (b := true) rfl,
    kLETTERS := C_LETTERS,
    kFIGURES := C_FIGURES,
    kLONGEST := C_LONGEST,
    kMOST_ROWS := C_MOST_ROWS,
    kMOST_ROUNDS := C_MOST_ROUNDS,
    z_ValueError := free_ok X G (Fcts.fact qA 35 (f := .free "ValueError") rfl),
    z_abs := free_ok X G (Fcts.fact qA 36 (f := .free "abs") rfl),
    z_all := free_ok X G (Fcts.fact qA 37 (f := .free "all") rfl),
    z_enumerate := free_ok X G (Fcts.fact qA 38 (f := .free "enumerate") rfl),
    z_int := free_ok X G (Fcts.fact qA 39 (f := .free "int") rfl),
    z_isinstance := free_ok X G (Fcts.fact qA 40 (f := .free "isinstance") rfl),
    z_len := free_ok X G (Fcts.fact qA 41 (f := .free "len") rfl),
    z_list := free_ok X G (Fcts.fact qA 42 (f := .free "list") rfl),
    z_range := free_ok X G (Fcts.fact qA 43 (f := .free "range") rfl),
    z_str := free_ok X G (Fcts.fact qA 44 (f := .free "str") rfl),
    z_sum := free_ok X G (Fcts.fact qA 45 (f := .free "sum") rfl),
    z_tuple := free_ok X G (Fcts.fact qA 46 (f := .free "tuple") rfl) }
  exact ⟨T.d_law, fun s v => bL s [v] rfl, fun base _ _ => ok_law T⟩
end SF
open PySem PySem.W PySem.Calls PyProof.Rows
set_option maxHeartbeats 0 in
theorem PySem.Challenge.cw_skiphall_k03_what_may_be_spoken_of_holds : PySem.Challenge.rw_skiphall_k03_what_may_be_spoken_of.Holds := by
  w_on; o_law
  refine HandSHeadRun.head_any (r := (OpenLaw.row PySem.Challenge.rw_skiphall_k03_what_may_be_spoken_of)) (q := view (OpenLaw.row PySem.Challenge.rw_skiphall_k03_what_may_be_spoken_of).prog [61]) (H := Hk.hookL SF.hdPs) (ob := Hk.obL SF.hdPs) (M := 9000) (loose := SF.hdN) (d := HandSHeadRun.topDef (OpenLaw.row PySem.Challenge.rw_skiphall_k03_what_may_be_spoken_of).prog 61) (kwd := []) Hk.obL_eq
    (by kernel_rfl) (fun s => by kernel_rfl) SF.hd_run (by kernel_rfl) (by kernel_rfl) (by kernel_rfl) (by rfl) (by first | assumption | decide +kernel) (by decide +kernel) ⟨rfl, rfl, rfl, rfl, rfl, by decide +kernel⟩ ?hw ?hc
  case hw => w_witness2
  case hc =>
    refine L2.walk_ofE (l := PySem.Challenge.rw_skiphall_k03_what_may_be_spoken_of) (n := 63) (k := 24) (x := "_law_script") (CX := L2.CX0) rfl (by decide) (by kernel_rfl) ⟨rfl, by decide, by decide⟩ ?F (fun _ _ _ _ z => z)
    intro w mg fa h Y G hmg0
    obtain ⟨K, KX, c⟩ := Y
    have hmg : mg ("law" : PySem.Str) = some (.ref fa) := by
      have e : (HandSHeadRun.topDef (OpenLaw.row PySem.Challenge.rw_skiphall_k03_what_may_be_spoken_of).prog 61).name = ("law" : PySem.Str) := by kernel_rfl
      rw [← e]
      exact hmg0
    obtain ⟨fd, hb, hF⟩ := SF.all_mk (l := PySem.Challenge.rw_skiphall_k03_what_may_be_spoken_of) (w := w) KX G hmg c
    exact ⟨K, fd, SF.sp_law K, KX, hb, fun H a ns hl _ hS => ⟨a, ns, rfl, hS, hl, fun _ => rfl⟩, hF⟩
#print axioms PySem.Challenge.cw_skiphall_k03_what_may_be_spoken_of_holds
