import PyProof.Rows.All
import Wide.All
import OpenK.AllK
import Wide.FinOn
import HandS.ForMost
import HandS.TupSets
import HandS.SetBool
import HandS.Deep
import HandS.Style
import HandS.Steps
import HandS.Walk
import HandS.Evl
import PySem.Challenge.RW_skiphall_k38_tables_that_fit_but_for_one
set_option Elab.async false
set_option linter.all false
set_option maxRecDepth 100000
set_option maxHeartbeats 8000000
/-! A layer of our own over HandS: sets made by a comprehension, whatever they hold; a walk over a list or a tuple. -/
namespace GK
open PySem PySem.Spec PyProof.Rows L2 PpSet

theorem hr65 {k : Nat} {A : Around} (r : Room k A) : A.units + 65 < cLine := by have := r.un; omega

section
variable {X : Cx}
/-- a list or a tuple -/
def iSeq (K : PySem.W.Frag) (tl : TE) : TI := fun σ H R => iList K tl σ H R ∨ iTup K tl σ H R
theorem pi_seq {l tg : Expr} {tl : TE} (hl : PE X l tl) : PI X tg l (iSeq X.K tl) :=
  ⟨fun pins s σ H R I h => h.elim (fun z => (pi_list hl).run pins s σ H R I z) (fun z => (pi_tup hl).run pins s σ H R I z)⟩

/-- the object of a new set -/
abbrev freshSet (w : World) : Obj := { cls := .type "set", dict := none, data := .set #[] 0 (.fresh 0 0 (!w.params.followText "set-order")) }

/-- a kind of set: how its state is told, and when a value may be put in (Z: what the heap may be then) -/
structure SKind (P : Program) (w : World) (K : PySem.W.Frag) where
  S : Type
  O : Addr → S → HO
  none0 : S
  new0 : ∀ (H : Hp) (h : Heap) (a : Addr), h.get? a = some (freshSet w) → ObjOk P w H h a (O a none0)
  put : V → Addr → Hp → (Hp → Prop) → Prop
  runs : ∀ (X : Cx) (pins : List (Addr × Obj)) (σ : L2.St) (H : Hp) (s : Shared) (y : V) (u : Value) (D : Addr) (Z : Hp → Prop) (E : Value → Shared → Prop), X.prog = P → X.w = w → X.K = K → X.A.units + 64 < cLine → Inv X pins σ H s → RelV y u → put y D H Z →
    wpAny (model X.prog X.w) X.A (call (.builtin "set.add") [.ref D, u]) (fun _ s' => ∃ H', Inv X pins σ H' s' ∧ Z H') E s

/-- what a set comprehension asks -/
def tSet {P : Program} {w : World} {K : PySem.W.Frag} (k : SKind P w K) (wi : TI) (g : TG) (tt : TT) (te : TE) (vs : List Nat) : TE := fun σ H Q =>
  wi σ H fun J H1 => ∀ D, H1 D = none → ∃ W : Nat → Nat → Hp → Prop, (∃ m, W 0 m (upd H1 D (k.O D k.none0))) ∧ ∀ i m H, W i m H →
    (J.stop i H ∧ Q (.ref D) H) ∨
    (J.go i H ∧ ∃ Z : Hp → Prop, (∀ H', Z H' → ∃ m', m' < m ∧ W (i + 1) m' H') ∧ ∀ x H', J.yld i H x H' →
      g x (wipe σ vs) H' fun σ2 H2 => wipe σ2 vs = wipe σ vs ∧ tt σ2 H2 fun b H3 => if b = true then te σ2 H3 fun y H4 => k.put y D H4 Z else Z H3)

set_option maxHeartbeats 8000000 in
theorem set_core {k : SKind X.prog X.w X.K} {pins : List (Addr × Obj)} {s : Shared} {σ : L2.St} {H : Hp} {Q : VK} {elt tg iter : Expr} {ifs : List Expr} {scope : Scope} {own : List (Str × Nat)} {pos pos' : Pos} {wi : TI} {g : TG} {tt : TT} {te : TE} {use : Option (Value → Sem Unit)} {Qf : Value → Shared → Prop}
    (hu : X.A.units + 64 < cLine) (hc : X.calm = true) (hN : X.N.Nodup) (I : Inv X pins σ H s) (hi : PI X tg iter wi) (ok : BlkOk X.N X.env.scope scope own)
    (hg : ∀ (s : Shared) (H : Hp) (C : Addr) (cl : List (Str × Addr)) (fp : List Addr), PG (X.blk s H scope (compEnvC scope cl C X.env) fp) tg g)
    (ht : ∀ (s : Shared) (H : Hp) (C : Addr) (cl : List (Str × Addr)) (fp : List Addr), PTs (X.blk s H scope (compEnvC scope cl C X.env) fp) ifs tt)
    (he : ∀ (s : Shared) (H : Hp) (C : Addr) (cl : List (Str × Addr)) (fp : List Addr), PE (X.blk s H scope (compEnvC scope cl C X.env) fp) elt te)
    (hs : ∀ x, foldedSetIterable iter X.env x = pure x)
    (h : tSet k wi g tt te (own.map (·.2)) σ H Q)
    (done : ∀ D C s' m H', Inv X pins σ H' s' → Q (.ref D) H' → s'.heap.Ns C m → FpOk X pins H' C → compPost (model X.prog X.w) X.A X.xe use Qf (.ref D) C (.ok .next) s') :
    wpAny (model X.prog X.w) X.A (comprehension (.SetComp elt [⟨tg, iter, ifs, 0⟩] scope pos) scope X.env pos' (newSet (.type "set")) false (eval iter X.env) use) Qf X.xe s := by
  have free : ∀ y ∈ scope.names, y.2 = .free → ∃ c, X.env.cells.lookup y.1 = some c := fun y hy e =>
    (ok.free y hy e).elim (fun z => I.ok.has _ (.inl z)) (fun z => I.ok.has _ (.inr z))
  refine wpAny_comprehension_free (use := use) rfl hs (closure_ok free) ok.kind (fun y hy e => by rw [ok.uniq y hy, e])
    (thn (hi.run pins s σ H _ I h) fun _ _ walked => thn walked fun itv s2 got => ?_)
  obtain ⟨it, fp, tn, J, H2, rfl, I2, T, at2, fpo, rest⟩ := got
  refine newSet_ok (newEnv_comp ?_)
  -- D: where the set lies
  generalize eD : s2.heap.objs.size = D
  have D0 : H2 D = none := I2.hok.fresh (Nat.le_of_eq eD)
  obtain ⟨W, ⟨m0, w0⟩, turn⟩ := rest D D0
  generalize es3 : ({ s2 with heap := s2.heap.push (freshSet X.w) } : Shared) = s3
  have hp3 : s3.heap = s2.heap.push (freshSet X.w) := by rw [← es3]
  have I3 : Inv X pins σ (upd H2 D (k.O D k.none0)) s3 := by
    rw [← es3]
    refine I2.laid (t' := s2.toks) (fun b o e => Heap.get?_push_of_some _ e) (Nat.le_of_eq eD) (k.new0 _ _ D ?_)
    rw [← eD]
    exact Heap.get?_push_size _ rfl
  have fps : ∀ b ∈ fp, FpOk X pins (upd H2 D (k.O D k.none0)) b ∧ b < s3.heap.objs.size := fun b hb => by
    obtain ⟨o, e, _⟩ := T.obj _ _ at2 b hb
    have lt := Heap.lt_size e
    refine ⟨⟨?_, (fpo b hb).2⟩, by rw [hp3, Heap.size_push]; exact Nat.lt_succ_of_lt lt⟩
    rw [upd_ne (by rw [← eD]; exact Nat.ne_of_lt lt)]
    exact (fpo b hb).1
  have at3 : tn 0 s3.heap := T.keep _ _ _ at2 fun b _ o e => by rw [hp3]; exact Heap.get?_push_of_some _ e
  have I4 := block_start I3 ok hN fps
  generalize eH3 : upd H2 D (k.O D k.none0) = H3 at I3 I4 w0 fps
  have pg := hg s3 H3 s3.heap.objs.size (cellsFrom (s3.heap.objs.size + 1) scope.names (cloFrom X.env.cells scope.names [])) fp
  have pt := ht s3 H3 s3.heap.objs.size (cellsFrom (s3.heap.objs.size + 1) scope.names (cloFrom X.env.cells scope.names [])) fp
  have pe := he s3 H3 s3.heap.objs.size (cellsFrom (s3.heap.objs.size + 1) scope.names (cloFrom X.env.cells scope.names [])) fp
  show codeAny _ _ (.compStart (.SetComp elt [⟨tg, iter, ifs, 0⟩] scope pos) 0 (.ref it) (.ref D) (compEnvC scope (cellsFrom (s3.heap.objs.size + 1) scope.names (cloFrom X.env.cells scope.names [])) s3.heap.objs.size X.env))
    (compPost (model X.prog X.w) X.A X.xe use Qf (.ref D) s3.heap.objs.size) { s3 with heap := pushCells (s3.heap.push { cls := .type "dict", data := .dict #[] }) scope.names }
  have off : ∀ b ∈ fp, H3 b = none := fun b hb => (fps b hb).1.1
  generalize ece : compEnvC scope (cellsFrom (s3.heap.objs.size + 1) scope.names (cloFrom X.env.cells scope.names [])) s3.heap.objs.size X.env = ce at I4 pg pt pe ⊢
  have locs : ce.locals = s3.heap.objs.size := by rw [← ece]; rfl
  generalize es4 : ({ s3 with heap := pushCells (s3.heap.push { cls := .type "dict", data := .dict #[] }) scope.names } : Shared) = s4 at I4 ⊢
  have at4 : tn 0 s4.heap := T.keep _ _ _ at3 fun b _ o e => by rw [← es4]; exact pushCells_keeps _ _ _ _ (Heap.get?_push_of_some _ e)
  have fpOk : ∀ {σ' : L2.St} {H' : Hp} {s' : Shared}, Inv (X.blk s3 H3 scope ce fp) [] σ' H' s' → (∀ b ∈ fp, H' b = none) → ∀ b ∈ fp, FpOk (X.blk s3 H3 scope ce fp) [] H' b := fun {σ' H' s'} I' n b hb =>
    ⟨n b hb, (I'.ok.exf b hb).1, I'.ok.exfs b hb, .inl hb, fun x c e => (I'.ok.exf b hb).2 x c e, fun p hp => absurd (show p ∈ ([] : List (Addr × Obj)) ++ [] from hp) (by simp)⟩
  have loop : codeAny (model X.prog X.w) X.A (.compLoop (.SetComp elt [⟨tg, iter, ifs, 0⟩] scope pos) 0 (.ref it) (.ref D) ce) (compPost (model X.prog X.w) X.A X.xe use Qf (.ref D) s3.heap.objs.size) s4 := by
    refine compLoopS_any (fun n s' => ∃ i H', Inv (X.blk s3 H3 scope ce fp) [] (wipe σ (own.map (·.2))) H' s' ∧ tn i s'.heap ∧ (∀ b ∈ fp, H' b = none) ∧ W i n H') ?_ m0 ⟨0, H3, I4, at4, off, w0⟩
    rintro n s5 ⟨i, H5, I5, at5, off5, w5⟩
    rcases turn i n H5 w5 with ⟨stop, end_⟩ | ⟨go, Z, hZ, step⟩
    · refine thnF (T.done (X.blk s3 H3 scope ce fp) rfl rfl rfl hc i [] s5 _ H5 (fun _ _ => False) I5 (fpOk I5 off5) at5 stop) fun r s6 ⟨hr, I6⟩ => ?_
      subst hr
      have I7 : Inv X pins σ H5 s6 := I3.call' (ch := fp) I6.os I6.base I6.hok I6.bare fun b hb => let z := (fps b hb).1.2; ⟨z.2.2.1, z.1, z.2.2.2.1, z.2.2.2.2⟩
      have nC : H5 s3.heap.objs.size = none := by rw [← locs]; exact I6.free
      obtain ⟨m, hn, _⟩ := I6.loc
      have hn : s6.heap.Ns ce.locals m := hn
      rw [locs] at hn
      exact done D s3.heap.objs.size s6 m H5 I7 end_ hn (I3.fpOk (Nat.le_refl _) nC)
    · refine thnF (T.item (X.blk s3 H3 scope ce fp) rfl rfl rfl hc i [] s5 _ H5 (fun _ _ => False) I5 (fpOk I5 off5) at5 go) fun r s6 ⟨u, hr, h6⟩ => ?_
      subst hr
      refine thnF h6 fun _ s7 ⟨x, H7, I7, r7, y7, at7, off7⟩ => ?_
      refine thnF (pg.run _ s7 _ H7 x u _ (I7.pinned (fpOk I7 off7) (T.obj _ _ at7)) r7 (step x H7 y7)) fun _ s8 ⟨σ8, H8, I8, w8, q8⟩ => ?_
      refine thnF (pt.run _ s8 σ8 H8 _ I8 q8) fun b s9 ⟨H9, I9, q9⟩ => ?_
      have next : ∀ {s' : Shared} {H' : Hp}, Inv (X.blk s3 H3 scope ce fp) ([] ++ pinsAt fp s7.heap) σ8 H' s' → Z H' →
          ∃ m, m < n ∧ ∃ i H', Inv (X.blk s3 H3 scope ce fp) [] (wipe σ (own.map (·.2))) H' s' ∧ tn i s'.heap ∧ (∀ b ∈ fp, H' b = none) ∧ W i m H' := fun {s' H'} I' z => by
        obtain ⟨m', lt, w'⟩ := hZ H' z
        have pin' : ∀ b ∈ fp, ∀ o, s7.heap.get? b = some o → s'.heap.get? b = some o ∧ H' b = none := fun b hb o e =>
          let z := I'.pin (b, o) (List.mem_append_right _ (List.mem_append_right _ (mem_pinsAt hb e)))
          ⟨z.1, z.2.1⟩
        have len : (wipe σ (own.map (·.2))).length = σ8.length := by rw [← w8, wipe_length]
        refine ⟨m', lt, i + 1, H', (I'.unpinned (pins := [])).weak len (fun j v e => ?_), T.keep _ _ _ at7 fun b hb o e => (pin' b hb o e).1, fun b hb => ?_, w'⟩
        · rw [← w8] at e
          exact (wipe_some e).1
        · obtain ⟨o, e, _⟩ := T.obj _ _ at7 b hb
          exact (pin' b hb o e).2
      cases b with
      | false =>
        simp only [Bool.false_eq_true, if_false] at q9 ⊢
        exact next I9 q9
      | true =>
        simp only [if_true] at q9 ⊢
        refine thnF (pe.run _ s9 σ8 H9 _ I9 q9) fun z s10 ⟨yv, H10, I10, r10, q10⟩ => ?_
        exact thn (k.runs (X.blk s3 H3 scope ce fp) _ σ8 H10 s10 yv z D Z _ rfl rfl rfl hu I10 r10 q10) fun _ s11 ⟨H11, I11, z11⟩ => next I11 z11
  exact codeAny_compStart_set loop (T.self X.A 0 _ _ _ at4 loop)

/-- {elt for target in iter if ..} -/
theorem pe_set {P : Program} {w : World} {K : PySem.W.Frag} (k : SKind P w K) (eP : X.prog = P) (ew : X.w = w) (eK : X.K = K) {elt tg iter : Expr} {ifs : List Expr} {scope : Scope} {own : List (Str × Nat)} {pos : Pos} {wi : TI} {g : TG} {tt : TT} {te : TE} (hu : X.A.units + 64 < cLine) (hc : X.calm = true) (hN : X.N.Nodup) (hi : PI X tg iter wi) (ok : BlkOk X.N X.env.scope scope own)
    (hg : ∀ (s : Shared) (H : Hp) (C : Addr) (cl : List (Str × Addr)) (fp : List Addr), PG (X.blk s H scope (compEnvC scope cl C X.env) fp) tg g)
    (ht : ∀ (s : Shared) (H : Hp) (C : Addr) (cl : List (Str × Addr)) (fp : List Addr), PTs (X.blk s H scope (compEnvC scope cl C X.env) fp) ifs tt)
    (he : ∀ (s : Shared) (H : Hp) (C : Addr) (cl : List (Str × Addr)) (fp : List Addr), PE (X.blk s H scope (compEnvC scope cl C X.env) fp) elt te) (hs : ∀ x, foldedSetIterable iter X.env x = pure x := by intro _; rfl) :
    PE X (.SetComp elt [⟨tg, iter, ifs, 0⟩] scope pos) (tSet k wi g tt te (own.map (·.2))) := by
  subst eP ew eK
  refine ⟨fun pins s σ H Q I h => ?_⟩
  rw [eval_SetComp]
  refine set_core hu hc hN I hi ok hg ht he hs h fun D C s' m H' I' q hn f => ⟨m, hn, fun h'' sb => ?_⟩
  obtain ⟨f0, f1, f2, f3, f4, f5⟩ := f
  exact ⟨.ref D, H', I'.turned (t' := s'.toks) (fun b o hb e => (sb.2 b hb).trans e) f0 f1 f3 f4 f5, rfl, q⟩
end

/-! ### tuples of ints -/
/-- one more tuple: the members behind it -/
def Added (L : List (Addr × List Int)) (t : Addr) (k : List Int) (L' : List (Addr × List Int)) : Prop :=
  (k ∈ L.map (·.2) → L' = L) ∧ (k ∉ L.map (·.2) → L'.Perm ((t, k) :: L))
def putT (P : Program) (w : World) (K : PySem.W.Frag) : V → Addr → Hp → (Hp → Prop) → Prop := fun y D H Z =>
  ∃ (t : Addr) (k : List Int) (L : List (Addr × List Int)), y = .ref t ∧ SqT K H t (k.map V.int) ∧ H D = some (SetTO P w D L) ∧ (∀ p ∈ L, SqT K H p.1 (p.2.map V.int)) ∧ L.length + 1 < 64 ∧
    ∀ L', Added L t k L' → Z (upd H D (SetTO P w D L'))
theorem set_add_tup {P : Program} {w : World} {A : Around} {E : Value → Shared → Prop} {s : Shared} {a t : Addr} {k : List Int} {L : List (Addr × List Int)} {es : Array (Int × Value)} {ep : Nat} {tb : SetTable} {Q : Value → Shared → Prop}
    (R : SetTR P w s.heap a L es ep tb) (hx : IsT P w s.heap k t) (hu : A.units + 64 < cLine) (few : L.length + 1 < 64)
    (hQ : ∀ h' tk L', Heap.SameBut a s.heap h' → SetT0 P w h' a L' → Added L t k L' → Q .none { s with heap := h', toks := tk }) :
    wpAny (model P w) A (call (.builtin "set.add") [.ref a, .ref t]) Q E s := by
  obtain ⟨o, ho, hex, hd⟩ := R.ob
  have ty : s.TypeIs (.ref a) "set" := ⟨o, ho, hex.1⟩
  refine wpAny_call_entry F.slot_set_add ty F.entry_set_add ?_ (F.args_set_add_2 _ _)
  unfold Builtin.«set.add» Builtin.Frozenset.oneOther
  simp only [List.isEmpty_nil, bind_assoc]
  unfold Builtin.Frozenset.addrOf setAdd
  refine wpAny_bind (wpAny_pure ?_)
  try dsimp only
  refine wpAny_bind (wpAny_pure ?_)
  try dsimp only
  refine wpAny_bind ?_
  refine wpAny_holding ?_
  have hu1 : A.in1.units < cLine := by show A.units + 1 < cLine; omega
  refine wpAny_bind (wpAny_pyHash_tuple hu1 hx ?_)
  refine add_at (s := { s with toks := s.toks + (k.length + 1) }) R hx hu1 few fun b h' L' es' ep' t' sb R' c1 c2 => ?_
  show wpAny _ _ (ret Value.none) _ _ _
  exact wpAny_pure ⟨_, rfl, hQ h' _ L' sb R'.t0 ⟨c1, c2⟩⟩
/-- sets of tuples of ints, fewer than 64 -/
def kTup (P : Program) (w : World) (K : PySem.W.Frag) : SKind P w K where
  S := List (Addr × List Int)
  O := SetTO P w
  none0 := []
  new0 := fun H h a e => setTO_new (setTR_fresh e).t0
  put := putT P w K
  runs := fun X pins σ H s y u D Z E hP hw hK hu I r h => by
    subst hP hw hK
    obtain ⟨t, k, L, rfl, hk, hD, hL, few, z⟩ := h
    cases r
    have R0 : SetT0 X.prog X.w s.heap D L := (I.hok D _ hD).1
    obtain ⟨es, ep, tb, R⟩ := R0.full fun p hp => I.isT (hL p hp)
    refine set_add_tup R (I.isT hk) hu few fun h' tk L' sb new ad => ⟨_, ?_, z L' ad⟩
    obtain ⟨_, _, _, ⟨o, ho, _⟩, _⟩ := new.ex
    exact I.write (e := D) (t' := tk) (by rw [hD]; trivial) (.inl rfl) (fun b v hb hv => (sb.2 b hb).trans hv) ⟨o, ho⟩ (setTO_new new)
/-! ### readings by name -/
def gLenQ (K : PySem.W.Frag) : List V → Hp → VK → Prop := fun xs H Q => ∃ p ys, xs = [.ref p] ∧ (SqL K H p ys ∨ SqT K H p ys) ∧ Q (.int ys.length) H
def gMin2 : List V → Hp → VK → Prop := fun xs H Q => ∃ i j, xs = [.int i, .int j] ∧ Q (.int (if j < i then j else i)) H
def gMax2 : List V → Hp → VK → Prop := fun xs H Q => ∃ i j, xs = [.int i, .int j] ∧ Q (.int (if j > i then j else i)) H
def gAbs : List V → Hp → VK → Prop := fun xs H Q => ∃ i, xs = [.int i] ∧ Q (.int (if i < 0 then -i else i)) H
def gInt1 : List V → Hp → VK → Prop := fun xs H Q => (∃ i, xs = [.int i] ∧ Q (.int i) H) ∨ ∃ k, xs = [.bl k] ∧ Q (.int (if k then 1 else 0)) H
def gListOf (K : PySem.W.Frag) : List V → Hp → VK → Prop := fun xs H Q => ∃ p ys, xs = [.ref p] ∧ (SqL K H p ys ∨ SqT K H p ys) ∧ ∀ l, H l = none → Q (.ref l) (upd H l (.lst ys))
def gTupT (K : PySem.W.Frag) : List V → Hp → VK → Prop := fun xs H Q => ∃ a ys, xs = [.ref a] ∧ SqT K H a ys ∧ Q (.ref a) H
def gTupOf (K : PySem.W.Frag) : List V → Hp → VK → Prop := fun xs H Q => ∃ p ys, xs = [.ref p] ∧ ((SqL K H p ys ∧ ∀ l, H l = none → Q (.ref l) (upd H l (.tup ys))) ∨ (SqT K H p ys ∧ Q (.ref p) H))
end GK
/-! Heaps that grow, data that stands in them, comprehensions that only make new things. -/
namespace GK
open PySem PySem.Spec PyProof.Rows L2

/-! ### heaps -/
/-- what H' has beyond H -/
def dif (H H' : Hp) : Hp := fun a => match H a with | none => H' a | some _ => none
theorem dif_some {H H' : Hp} {a : Addr} {o : HO} : dif H H' a = some o ↔ H a = none ∧ H' a = some o := by
  unfold dif
  cases H a <;> simp
theorem dif_same (H H' : Hp) : Same (dif H H') H' := fun a o h => (dif_some.mp h).2
theorem dif_mono {H H1 H2 H3 : Hp} (a : Same H H1) (b : Same H2 H3) : Same (dif H1 H2) (dif H H3) := fun c o h =>
  let ⟨h1, h2⟩ := dif_some.mp h
  dif_some.mpr ⟨a.free h1, b c o h2⟩
/-- all but the object at r -/
def off (r : Addr) (H : Hp) : Hp := fun a => if a = r then none else H a
theorem off_some {r a : Addr} {H : Hp} {o : HO} : off r H a = some o ↔ a ≠ r ∧ H a = some o := by
  unfold off
  by_cases h : a = r <;> simp [h]
theorem off_same (r : Addr) (H : Hp) : Same (off r H) H := fun a o h => (off_some.mp h).2
theorem off_mono {r : Addr} {H H' : Hp} (a : Same H H') : Same (off r H) (off r H') := fun c o h =>
  let ⟨h1, h2⟩ := off_some.mp h
  off_some.mpr ⟨h1, a c o h2⟩
theorem off_upd (r : Addr) (H : Hp) (o : HO) : off r (upd H r o) = off r H := by
  funext a
  unfold off upd
  by_cases h : a = r <;> simp [h]
theorem off_dif {r : Addr} {H H' : Hp} {o : HO} (h : H r = some o) : Same (dif H H') (off r H') := fun c u z =>
  let ⟨h1, h2⟩ := dif_some.mp z
  off_some.mpr ⟨fun e => (by subst e; rw [h] at h1; cases h1), h2⟩
theorem same_new {H : Hp} {p : Addr} {o : HO} (h : H p = none) : Same H (upd H p o) := fun a u e => by
  rw [upd_ne (ne_of_none e h)]
  exact e
/-- what H does not know may change -/
theorem same_mut {H H' : Hp} {p : Addr} {o : HO} (e : Same H H') (h : H p = none) : Same H (upd H' p o) := fun a u ha => by
  rw [upd_ne (ne_of_none ha h)]
  exact e a u ha
theorem sq_mono {K : PySem.W.Frag} {H H' : Hp} {a : Addr} {xs : List V} (e : Same H H') (h : SqL K H a xs) : SqL K H' a xs := e.seq h
theorem st_mono {K : PySem.W.Frag} {H H' : Hp} {a : Addr} {xs : List V} (e : Same H H') (h : SqT K H a xs) : SqT K H' a xs := by
  rcases h with (h | ⟨o, h⟩) | h
  · exact .inl (.inl (e _ _ h))
  · exact .inl (.inr ⟨o, e _ _ h⟩)
  · exact .inr h

/-! ### pairs of lists -/
section
variable {α β γ : Type} {F : α → β → Prop}
theorem pd_len : ∀ {xs : List α} {as : List β}, Paired F xs as → xs.length = as.length
  | _, _, .nil => rfl
  | _, _, .cons _ t => by rw [List.length_cons, List.length_cons, pd_len t]
theorem pd_get : ∀ {xs : List α} {as : List β} {i : Nat} {x : α}, Paired F xs as → xs[i]? = some x → ∃ a, as[i]? = some a ∧ F x a
  | _, _, _, _, .nil, e => by simp at e
  | _, _, 0, _, .cons r _, e => by simp at e; subst e; exact ⟨_, rfl, r⟩
  | _, _, i + 1, _, .cons _ t, e => by simpa using pd_get (i := i) t (by simpa using e)
theorem pd_back : ∀ {xs : List α} {as : List β} {i : Nat} {a : β}, Paired F xs as → as[i]? = some a → ∃ x, xs[i]? = some x ∧ F x a
  | _, _, _, _, .nil, e => by simp at e
  | _, _, 0, _, .cons r _, e => by simp at e; subst e; exact ⟨_, rfl, r⟩
  | _, _, i + 1, _, .cons _ t, e => by simpa using pd_back (i := i) t (by simpa using e)
theorem pd_imp {G : α → β → Prop} (f : ∀ x a, F x a → G x a) : ∀ {xs : List α} {as : List β}, Paired F xs as → Paired G xs as
  | _, _, .nil => .nil
  | _, _, .cons r t => .cons (f _ _ r) (pd_imp f t)
theorem pd_eq {f : β → α} : ∀ {xs : List α} {as : List β}, Paired (fun x a => x = f a) xs as → xs = as.map f
  | _, _, .nil => rfl
  | _, _, .cons r t => by rw [List.map_cons, r, pd_eq t]
theorem pd_map {f : β → α} : ∀ (as : List β), Paired (fun x a => x = f a) (as.map f) as
  | [] => .nil
  | a :: as => .cons rfl (pd_map as)
theorem pd_of {f : γ → α} {g : γ → β} : ∀ (cs : List γ), (∀ c ∈ cs, F (f c) (g c)) → Paired F (cs.map f) (cs.map g)
  | [], _ => .nil
  | c :: cs, h => .cons (h c List.mem_cons_self) (pd_of cs fun d hd => h d (List.mem_cons_of_mem _ hd))
theorem pd_append : ∀ {xs ys : List α} {as bs : List β}, Paired F xs as → Paired F ys bs → Paired F (xs ++ ys) (as ++ bs)
  | _, _, _, _, .nil, s => s
  | _, _, _, _, .cons r t, s => .cons r (pd_append t s)
theorem pd_take : ∀ {xs : List α} {as : List β} (n : Nat), Paired F xs as → Paired F (xs.take n) (as.take n)
  | _, _, 0, _ => .nil
  | _, _, _ + 1, .nil => .nil
  | _, _, n + 1, .cons r t => .cons r (pd_take n t)
theorem pd_drop : ∀ {xs : List α} {as : List β} (n : Nat), Paired F xs as → Paired F (xs.drop n) (as.drop n)
  | _, _, 0, r => r
  | _, _, _ + 1, .nil => .nil
  | _, _, n + 1, .cons _ t => pd_drop n t
theorem pd_snoc {xs : List α} {as : List β} {x : α} {a : β} (h : Paired F xs as) (r : F x a) : Paired F (xs ++ [x]) (as ++ [a]) := pd_append h (.cons r .nil)
theorem pd_mem {xs : List α} {as : List β} (h : Paired F xs as) {x : α} (hx : x ∈ xs) : ∃ a ∈ as, F x a := by
  obtain ⟨i, e⟩ := List.mem_iff_getElem?.mp hx
  obtain ⟨a, h1, h2⟩ := pd_get h e
  exact ⟨a, List.mem_of_getElem? h1, h2⟩
theorem pd_mem' {xs : List α} {as : List β} (h : Paired F xs as) {a : β} (ha : a ∈ as) : ∃ x ∈ xs, F x a := by
  obtain ⟨i, e⟩ := List.mem_iff_getElem?.mp ha
  obtain ⟨x, h1, h2⟩ := pd_back h e
  exact ⟨x, List.mem_of_getElem? h1, h2⟩
theorem pd_set : ∀ {xs : List α} {as : List β} {x : α} {a : β} (i : Nat), Paired F xs as → F x a → Paired F (xs.set i x) (as.set i a)
  | _, _, _, _, _, .nil, _ => .nil
  | _, _, _, _, 0, .cons _ t, r => .cons r t
  | _, _, _, _, i + 1, .cons q t, r => .cons q (pd_set i t r)
theorem pd_rev {xs : List α} {as : List β} (h : Paired F xs as) : Paired F xs.reverse as.reverse := by
  induction h with
  | nil => exact .nil
  | cons r t ih => rw [List.reverse_cons, List.reverse_cons]; exact pd_snoc ih r
theorem pd_erase : ∀ {xs : List α} {as : List β} (i : Nat), Paired F xs as → Paired F (xs.eraseIdx i) (as.eraseIdx i)
  | _, _, _, .nil => .nil
  | _, _, 0, .cons _ t => t
  | _, _, i + 1, .cons r t => .cons r (pd_erase i t)
/-- by places -/
theorem pd_ix : ∀ {xs : List α} {as : List β}, xs.length = as.length → (∀ (i : Nat) x a, xs[i]? = some x → as[i]? = some a → F x a) → Paired F xs as
  | [], [], _, _ => .nil
  | x :: xs, a :: as, h, f => .cons (f 0 x a rfl rfl) (pd_ix (by simpa using h) fun i y b h1 h2 => f (i + 1) y b h1 h2)
end

/-! ### data: what a value stands for; all by Same -/
/-- a list | a tuple of things of which D tells -/
def LOf {α : Type} (K : PySem.W.Frag) (D : Hp → V → α → Prop) (H : Hp) (v : V) (as : List α) : Prop := ∃ a vs, v = .ref a ∧ SqL K H a vs ∧ Paired (D H) vs as
def TOf {α : Type} (K : PySem.W.Frag) (D : Hp → V → α → Prop) (H : Hp) (v : V) (as : List α) : Prop := ∃ a vs, v = .ref a ∧ SqT K H a vs ∧ Paired (D H) vs as
def Up {α : Type} (D : Hp → V → α → Prop) : Prop := ∀ H H' v a, Same H H' → D H v a → D H' v a
def IntD : Hp → V → Int → Prop := fun _ v n => v = .int n
theorem up_int : Up IntD := fun _ _ _ _ _ h => h
theorem up_l {α : Type} {K : PySem.W.Frag} {D : Hp → V → α → Prop} (u : Up D) : Up (LOf K D) := fun H H' v as e ⟨a, vs, h1, h2, h3⟩ => ⟨a, vs, h1, sq_mono e h2, pd_imp (fun x b q => u H H' x b e q) h3⟩
theorem up_t {α : Type} {K : PySem.W.Frag} {D : Hp → V → α → Prop} (u : Up D) : Up (TOf K D) := fun H H' v as e ⟨a, vs, h1, h2, h3⟩ => ⟨a, vs, h1, st_mono e h2, pd_imp (fun x b q => u H H' x b e q) h3⟩
/-- a list of ints, a list of such; a cell (a pair of ints), a list of such -/
abbrev IL (K : PySem.W.Frag) : Hp → V → List Int → Prop := LOf K IntD
abbrev TL (K : PySem.W.Frag) : Hp → V → List (List Int) → Prop := LOf K (IL K)
def CellD (K : PySem.W.Frag) : Hp → V → Int × Int → Prop := fun H v c => ∃ t, v = .ref t ∧ SqT K H t [.int c.1, .int c.2]
theorem up_cell {K : PySem.W.Frag} : Up (CellD K) := fun H H' v c e ⟨t, h1, h2⟩ => ⟨t, h1, st_mono e h2⟩
abbrev CL (K : PySem.W.Frag) : Hp → V → List (Int × Int) → Prop := LOf K (CellD K)
theorem up_il {K : PySem.W.Frag} : Up (IL K) := up_l up_int
theorem up_tl {K : PySem.W.Frag} : Up (TL K) := up_l up_il
theorem up_cl {K : PySem.W.Frag} : Up (CL K) := up_l up_cell
theorem il_sq {K : PySem.W.Frag} {H : Hp} {v : V} {ns : List Int} (h : IL K H v ns) : ∃ a, v = .ref a ∧ SqL K H a (ns.map V.int) := by
  obtain ⟨a, vs, rfl, h2, h3⟩ := h
  rw [pd_eq (f := V.int) h3] at h2
  exact ⟨a, rfl, h2⟩
theorem il_of {K : PySem.W.Frag} {H : Hp} {a : Addr} {ns : List Int} (h : SqL K H a (ns.map V.int)) : IL K H (.ref a) ns := ⟨a, _, rfl, h, pd_map ns⟩
theorem lof_new {α : Type} {K : PySem.W.Frag} {D : Hp → V → α → Prop} {H : Hp} {a : Addr} {vs : List V} {as : List α} (h : H a = some (.lst vs)) (p : Paired (D H) vs as) : LOf K D H (.ref a) as := ⟨a, vs, rfl, SqL.of h, p⟩

/-! ### data as PyData (deep ==, in) -/
def intsD (ns : List Int) : PyData := .list (ns.map .int)
def tabD (M : List (List Int)) : PyData := .list (M.map intsD)
def cellP (c : Int × Int) : PyData := .tuple [.int c.1, .int c.2]
def cellsD (cs : List (Int × Int)) : PyData := .list (cs.map cellP)
theorem dp_ints {K : PySem.W.Frag} {H : Hp} : ∀ {vs : List V} {ns : List Int}, Paired (IntD H) vs ns → DpAll K H vs (ns.map .int)
  | _, _, .nil => .nil
  | _, _, .cons r t => by cases r; exact .cons (.int _) (dp_ints t)
theorem dp_il {K : PySem.W.Frag} {H : Hp} {v : V} {ns : List Int} (h : IL K H v ns) : Dp K H v (intsD ns) := by
  obtain ⟨a, vs, rfl, h2, h3⟩ := h
  exact .lst h2 (dp_ints h3)
theorem dp_tls {K : PySem.W.Frag} {H : Hp} : ∀ {vs : List V} {M : List (List Int)}, Paired (IL K H) vs M → DpAll K H vs (M.map intsD)
  | _, _, .nil => .nil
  | _, _, .cons r t => .cons (dp_il r) (dp_tls t)
theorem dp_tl {K : PySem.W.Frag} {H : Hp} {v : V} {M : List (List Int)} (h : TL K H v M) : Dp K H v (tabD M) := by
  obtain ⟨a, vs, rfl, h2, h3⟩ := h
  exact .lst h2 (dp_tls h3)
theorem dp_cell {K : PySem.W.Frag} {H : Hp} {v : V} {c : Int × Int} (h : CellD K H v c) : Dp K H v (cellP c) := by
  obtain ⟨t, rfl, h⟩ := h
  exact .tup h (.cons (.int _) (.cons (.int _) .nil))
theorem dp_cls {K : PySem.W.Frag} {H : Hp} : ∀ {vs : List V} {cs : List (Int × Int)}, Paired (CellD K H) vs cs → DpAll K H vs (cs.map cellP)
  | _, _, .nil => .nil
  | _, _, .cons r t => .cons (dp_cell r) (dp_cls t)
theorem dp_cl {K : PySem.W.Frag} {H : Hp} {v : V} {cs : List (Int × Int)} (h : CL K H v cs) : Dp K H v (cellsD cs) := by
  obtain ⟨a, vs, rfl, h2, h3⟩ := h
  exact .lst h2 (dp_cls h3)
theorem ints_lay : ∀ ns : List Int, PyData.canLayAll0 (ns.map .int) = true
  | [] => by simp [PyData.canLayAll0]
  | n :: ns => by simp [PyData.canLayAll0, PyData.canLay0, ints_lay ns]
theorem ints_depth : ∀ ns : List Int, PyData.depthAll (ns.map .int) = 0
  | [] => by simp [PyData.depthAll]
  | n :: ns => by simp [PyData.depthAll, PyData.depth, ints_depth ns]
theorem intsD_lay (ns : List Int) : (intsD ns).canLay0 = true := by simp only [intsD, PyData.canLay0]; exact ints_lay ns
theorem intsD_depth (ns : List Int) : (intsD ns).depth = 1 := by simp [intsD, PyData.depth, ints_depth ns]
theorem tabs_lay : ∀ M : List (List Int), PyData.canLayAll0 (M.map intsD) = true
  | [] => by simp [PyData.canLayAll0]
  | r :: M => by simp [PyData.canLayAll0, intsD_lay r, tabs_lay M]
theorem tabs_depth : ∀ M : List (List Int), PyData.depthAll (M.map intsD) ≤ 1
  | [] => by simp [PyData.depthAll]
  | r :: M => by
    have h := tabs_depth M
    have h2 := intsD_depth r
    simp only [List.map_cons, PyData.depthAll]
    omega
theorem cellP_lay (c : Int × Int) : (cellP c).canLay0 = true := by simp [cellP, PyData.canLay0, PyData.canLayAll0]
theorem cellP_depth (c : Int × Int) : (cellP c).depth = 1 := by simp [cellP, PyData.depth, PyData.depthAll]
theorem cells_lay : ∀ cs : List (Int × Int), PyData.canLayAll0 (cs.map cellP) = true
  | [] => by simp [PyData.canLayAll0]
  | c :: cs => by simp [PyData.canLayAll0, cellP_lay c, cells_lay cs]
theorem cells_depth : ∀ cs : List (Int × Int), PyData.depthAll (cs.map cellP) ≤ 1
  | [] => by simp [PyData.depthAll]
  | c :: cs => by
    have h := cells_depth cs
    have h2 := cellP_depth c
    simp only [List.map_cons, PyData.depthAll]
    omega
theorem shp {d : PyData} (h : d.canLay0 = true) (h2 : d.depth ≤ 64) : SeqAt.shaped d = true := by
  show (d.canLay0 && decide (d.depth ≤ 64)) = true
  rw [Bool.and_eq_true]
  exact ⟨h, decide_eq_true h2⟩
theorem shp_ints (ns : List Int) : SeqAt.shaped (intsD ns) = true := shp (intsD_lay ns) (by rw [intsD_depth]; decide)
theorem tabD_lay (M : List (List Int)) : (tabD M).canLay0 = true := by simp only [tabD, PyData.canLay0]; exact tabs_lay M
theorem tabD_depth (M : List (List Int)) : (tabD M).depth ≤ 2 := by
  have h := tabs_depth M
  simp only [tabD, PyData.depth]
  omega
theorem shp_tab (M : List (List Int)) : SeqAt.shaped (tabD M) = true := shp (tabD_lay M) (by have := tabD_depth M; omega)
theorem shp_cell (c : Int × Int) : SeqAt.shaped (cellP c) = true := shp (cellP_lay c) (by rw [cellP_depth]; decide)
theorem cellsD_lay (cs : List (Int × Int)) : (cellsD cs).canLay0 = true := by simp only [cellsD, PyData.canLay0]; exact cells_lay cs
theorem cellsD_depth (cs : List (Int × Int)) : (cellsD cs).depth ≤ 2 := by
  have h := cells_depth cs
  simp only [cellsD, PyData.depth]
  omega
theorem shp_cells (cs : List (Int × Int)) : SeqAt.shaped (cellsD cs) = true := shp (cellsD_lay cs) (by have := cellsD_depth cs; omega)
theorem eqv_cell (c d : Int × Int) : PyData.eqv (cellP c) (cellP d) = decide (c = d) := by
  have e : PyData.eqv (cellP c) (cellP d) = ((c.1 == d.1) && ((c.2 == d.2) && true)) := by simp only [cellP, PyData.eqv, PyData.eqvAll]
  rw [e]
  obtain ⟨a, b⟩ := c
  obtain ⟨a', b'⟩ := d
  simp only [Bool.and_true]
  by_cases h1 : a = a'
  · by_cases h2 : b = b'
    · subst h1 h2; simp
    · simp [h2]
  · simp [h1]
theorem any_cell (c : Int × Int) : ∀ cs : List (Int × Int), (cs.map cellP).any (fun z => PyData.eqv z (cellP c)) = decide (c ∈ cs)
  | [] => by simp
  | d :: cs => by
    rw [List.map_cons, List.any_cons, any_cell c cs, eqv_cell]
    by_cases h : d = c
    · subst h; simp
    · have h' : c ≠ d := fun e => h e.symm
      by_cases h2 : c ∈ cs <;> simp [h, h', h2]
theorem eqvAll_ints : ∀ ns ms : List Int, PyData.eqvAll (ns.map .int) (ms.map .int) = decide (ns = ms)
  | [], [] => by simp [PyData.eqvAll]
  | [], _ :: _ => by simp [PyData.eqvAll]
  | _ :: _, [] => by simp [PyData.eqvAll]
  | n :: ns, m :: ms => by
    rw [List.map_cons, List.map_cons, PyData.eqvAll, eqvAll_ints ns ms]
    have e : PyData.eqv (.int n) (.int m) = (n == m) := by simp only [PyData.eqv]
    rw [e]
    by_cases h1 : n = m
    · subst h1; by_cases h2 : ns = ms <;> simp [h2]
    · simp [h1]
theorem eqv_ints (ns ms : List Int) : PyData.eqv (intsD ns) (intsD ms) = decide (ns = ms) := by
  simp only [intsD, PyData.eqv]
  exact eqvAll_ints ns ms
theorem eqvAll_tabs : ∀ M N : List (List Int), PyData.eqvAll (M.map intsD) (N.map intsD) = decide (M = N)
  | [], [] => by simp [PyData.eqvAll]
  | [], _ :: _ => by simp [PyData.eqvAll]
  | _ :: _, [] => by simp [PyData.eqvAll]
  | n :: ns, m :: ms => by
    rw [List.map_cons, List.map_cons, PyData.eqvAll, eqvAll_tabs ns ms, eqv_ints]
    by_cases h1 : n = m
    · subst h1; by_cases h2 : ns = ms <;> simp [h2]
    · simp [h1]
theorem eqv_tab (M N : List (List Int)) : PyData.eqv (tabD M) (tabD N) = decide (M = N) := by
  simp only [tabD, PyData.eqv]
  exact eqvAll_tabs M N

/-! ### comprehensions that make new things and change nothing -/
/-- one turn at the item x: whether something is kept (f), and what (D, of what is new) -/
def El (g : TG) (tt : TT) (te : TE) (vs : List Nat) (σ : L2.St) (H1 : Hp) (x : V) (f : Bool) (D : Hp → V → Prop) : Prop :=
  ∀ H', Same H1 H' → ∀ (N : Hp → Prop) (Y : V → Hp → Prop), (f = false → ∀ H2, Same H' H2 → N H2) → (f = true → ∀ y H2, Same H' H2 → D (dif H' H2) y → Y y H2) →
    g x (wipe σ vs) H' fun σ2 H2 => wipe σ2 vs = wipe σ vs ∧ tt σ2 H2 fun b H3 => if b = true then te σ2 H3 Y else N H3
/-- no test: all are kept -/
theorem el_yes {te : TE} {vs : List Nat} {σ : L2.St} {H1 : Hp} {x : V} {j : Nat} {D : Hp → V → Prop} (hw : wipe ((wipe σ vs).set j (some x)) vs = wipe σ vs)
    (h : ∀ H', Same H1 H' → ∀ Y : V → Hp → Prop, (∀ y H2, Same H' H2 → D (dif H' H2) y → Y y H2) → te ((wipe σ vs).set j (some x)) H' Y) : El (gName j) tYes te vs σ H1 x true D :=
  fun H' e N Y _ hY => ⟨hw, by show (if true = true then te _ H' Y else N H'); rw [if_pos rfl]; exact h H' e Y (hY rfl)⟩
section
variable {α : Type} {J : It} {n : Nat} {G : Hp → Prop} {Yd : Nat → Hp → V → Hp → Prop} {g : TG} {tt : TT} {te : TE} {vs : List Nat} {σ : L2.St} {H1 : Hp} {Dl : Addr} {Qd : Hp → Prop}
/-- a comprehension over a walk that changes nothing: as tells what the items stand for -/
theorem lc_pure (w : Walk J n G Yd) (Sx : Nat → V → Prop) (hY : ∀ i H x H', i < n → Yd i H x H' → H' = H ∧ Sx i x) (hG : ∀ H', Same H1 H' → G H') (hD : H1 Dl = none)
    (as : List α) (hn : as.length = n) (hz : n ≤ 100000) (f : α → Bool) (D : α → Hp → V → Prop) (up : ∀ a H H' v, Same H H' → D a H v → D a H' v)
    (el : ∀ (i : Nat) a x, as[i]? = some a → Sx i x → El g tt te vs σ H1 x (f a) (D a))
    (done : ∀ ys H2, Same H1 H2 → H2 Dl = some (.lst ys) → Paired (fun y a => D a (dif H1 (off Dl H2)) y) ys (as.filter f) → Qd H2) :
    ∃ W : Nat → Nat → Hp → Prop, (∃ m, W 0 m (upd H1 Dl (.lst []))) ∧ ∀ i m H, W i m H →
      (J.stop i H ∧ Qd H) ∨ (J.go i H ∧ ∃ Nx : Hp → Prop, (∀ H', Nx H' → ∃ m', m' < m ∧ W (i + 1) m' H') ∧ ∀ x H', J.yld i H x H' → g x (wipe σ vs) H' fun σ2 H2 => wipe σ2 vs = wipe σ vs ∧ tt σ2 H2 fun b H3 =>
        if b = true then te σ2 H3 fun y H4 => ∃ acc, H4 Dl = some (.lst acc) ∧ acc.length < sizeLine ∧ Nx (upd H4 Dl (.lst (acc ++ [y]))) else Nx H3) := by
  let Pv : Nat → Hp → Prop := fun i H => Same H1 H ∧ ∃ ys, H Dl = some (.lst ys) ∧ Paired (fun y a => D a (dif H1 (off Dl H)) y) ys ((as.take i).filter f)
  refine lc_it w Pv ⟨same_new hD, [], upd_same, by rw [List.take_zero]; exact .nil⟩ (fun i H _ p => hG H p.1) (fun i x H H' hi p y => ?_) (fun H p => ?_)
  · obtain ⟨rfl, hx⟩ := hY i H x H' hi y
    obtain ⟨e, ys, hl, pd⟩ := p
    have hia : i < as.length := by omega
    have ha : as[i]? = some as[i] := List.getElem?_eq_getElem hia
    have tk : as.take (i + 1) = as.take i ++ [as[i]] := by rw [List.take_succ, ha]; rfl
    refine el i as[i] x ha hx H' e (Pv (i + 1)) (fun y H4 => ∃ acc, H4 Dl = some (.lst acc) ∧ acc.length < sizeLine ∧ Pv (i + 1) (upd H4 Dl (.lst (acc ++ [y])))) (fun hf H2 e2 => ?_) (fun hf y H2 e2 hy => ?_)
    · refine ⟨e.trans e2, ys, e2 _ _ hl, ?_⟩
      rw [tk, List.filter_append]
      have z : [as[i]].filter f = [] := by rw [List.filter_cons, if_neg (by rw [hf]; decide)]; rfl
      rw [z, List.append_nil]
      exact pd_imp (fun v a q => up a _ _ v (dif_mono (Same.refl _) (off_mono e2)) q) pd
    · have hlen : ys.length < sizeLine := by
        have h1 := pd_len pd
        have h2 : ((as.take i).filter f).length ≤ i := Nat.le_trans (List.length_filter_le _ _) (by rw [List.length_take]; exact Nat.min_le_left _ _)
        exact Nat.lt_of_le_of_lt (by omega : ys.length ≤ 100000) (by decide)
      refine ⟨ys, e2 _ _ hl, hlen, same_mut (e.trans e2) hD, ys ++ [y], upd_same, ?_⟩
      rw [tk, List.filter_append]
      have z : [as[i]].filter f = [as[i]] := by rw [List.filter_cons, if_pos hf]; rfl
      rw [z, off_upd]
      refine pd_snoc (pd_imp (fun v a q => up a _ _ v (dif_mono (Same.refl _) (off_mono e2)) q) pd) ?_
      refine up _ _ _ y (fun c o hc => ?_) hy
      obtain ⟨c1, c2⟩ := dif_some.mp hc
      exact dif_some.mpr ⟨e.free c1, off_some.mpr ⟨fun z => (by subst z; rw [hl] at c1; cases c1), c2⟩⟩
  · obtain ⟨e, ys, hl, pd⟩ := p
    rw [← hn, List.take_length] at pd
    exact done ys H e hl pd
/-- over a list of things xs (at a), which as tells -/
theorem lc_pureL {K : PySem.W.Frag} {a : Addr} {xs : List V} (S : V → α → Prop) (hx : SqL K H1 a xs) (as : List α) (hp : Paired S xs as) (hz : xs.length ≤ 100000) (hD : H1 Dl = none) (f : α → Bool) (D : α → Hp → V → Prop) (up : ∀ a H H' v, Same H H' → D a H v → D a H' v)
    (el : ∀ (i : Nat) b x, as[i]? = some b → xs[i]? = some x → S x b → El g tt te vs σ H1 x (f b) (D b))
    (done : ∀ ys H2, Same H1 H2 → H2 Dl = some (.lst ys) → Paired (fun y b => D b (dif H1 (off Dl H2)) y) ys (as.filter f) → Qd H2) :
    ∃ W : Nat → Nat → Hp → Prop, (∃ m, W 0 m (upd H1 Dl (.lst []))) ∧ ∀ i m H, W i m H →
      ((Itl K a).stop i H ∧ Qd H) ∨ ((Itl K a).go i H ∧ ∃ Nx : Hp → Prop, (∀ H', Nx H' → ∃ m', m' < m ∧ W (i + 1) m' H') ∧ ∀ x H', (Itl K a).yld i H x H' → g x (wipe σ vs) H' fun σ2 H2 => wipe σ2 vs = wipe σ vs ∧ tt σ2 H2 fun b H3 =>
        if b = true then te σ2 H3 fun y H4 => ∃ acc, H4 Dl = some (.lst acc) ∧ acc.length < sizeLine ∧ Nx (upd H4 Dl (.lst (acc ++ [y]))) else Nx H3) :=
  lc_pure (walk_list (K := K) (a := a) (xs := xs)) (fun i x => xs[i]? = some x) (fun i H x H' _ y => y) (fun H' e => sq_mono e hx) hD as (pd_len hp).symm hz f D up
    (fun i b x hb hx' => by
      obtain ⟨c, h1, h2⟩ := pd_get hp hx'
      rw [hb] at h1
      cases h1
      exact el i b x hb hx' h2) done
/-- over a range -/
theorem lc_pureR {lo : Int} {m : Nat} (hz : m ≤ 100000) (hD : H1 Dl = none) (f : Nat → Bool) (D : Nat → Hp → V → Prop) (up : ∀ a H H' v, Same H H' → D a H v → D a H' v)
    (el : ∀ (i : Nat), i < m → El g tt te vs σ H1 (.int (lo + (i : Int))) (f i) (D i))
    (done : ∀ ys H2, Same H1 H2 → H2 Dl = some (.lst ys) → Paired (fun y b => D b (dif H1 (off Dl H2)) y) ys ((List.range m).filter f) → Qd H2) :
    ∃ W : Nat → Nat → Hp → Prop, (∃ m, W 0 m (upd H1 Dl (.lst []))) ∧ ∀ i k H, W i k H →
      ((Itr lo m).stop i H ∧ Qd H) ∨ ((Itr lo m).go i H ∧ ∃ Nx : Hp → Prop, (∀ H', Nx H' → ∃ m', m' < k ∧ W (i + 1) m' H') ∧ ∀ x H', (Itr lo m).yld i H x H' → g x (wipe σ vs) H' fun σ2 H2 => wipe σ2 vs = wipe σ vs ∧ tt σ2 H2 fun b H3 =>
        if b = true then te σ2 H3 fun y H4 => ∃ acc, H4 Dl = some (.lst acc) ∧ acc.length < sizeLine ∧ Nx (upd H4 Dl (.lst (acc ++ [y]))) else Nx H3) :=
  lc_pure (walk_range (lo := lo) (n := m)) (fun i x => x = .int (lo + (i : Int))) (fun i H x H' _ y => y) (fun _ _ => trivial) hD (List.range m) List.length_range hz f D up
    (fun i b x hb hx' => by
      subst hx'
      have h1 := List.getElem?_eq_some_iff.mp hb
      obtain ⟨h2, h3⟩ := h1
      rw [List.getElem_range] at h3
      subst h3
      exact el i (by simpa using h2)) done
end
end GK
/-! What an expression evaluates to while the heap only grows: more words beside Evl's. -/
namespace GK
open PySem PySem.Spec PyProof.Rows L2 Evl
variable {K : PySem.W.Frag} {σ : L2.St} {H H' : Hp} {ta tb tc te tl : TE} {t u : TT} {x y z v : V}

theorem ev_chain {p q : Int → Int → Bool} {i j k : Int} (ha : Ev ta σ H (.int i)) (hb : Ev tb σ H (.int j)) (hc : Ev tc σ H (.int k)) :
    Ev (tChain (rI0 fun i j => .bl (p i j)) (rI0 fun i j => .bl (q i j)) ta tb tc) σ H (.bl (p i j && q j k)) := fun H1 e Q r =>
  ha H1 e _ fun H2 e2 => hb H2 (e.trans e2) _ fun H3 e3 => ⟨i, j, rfl, rfl, p i j, rfl, by
    cases h : p i j with
    | false =>
      rw [h, Bool.false_and] at r
      exact iteF (r H3 (e2.trans e3))
    | true =>
      rw [h, Bool.true_and] at r
      exact iteT (hc H3 ((e.trans e2).trans e3) _ fun H4 e4 => ⟨j, k, rfl, rfl, r H4 ((e2.trans e3).trans e4)⟩)⟩
theorem ev_uI {g : Int → V} {i : Int} (ha : Ev ta σ H (.int i)) : Ev (tUn (rU g) ta) σ H (g i) := fun H1 e Q r => ha H1 e _ fun H2 e2 => ⟨i, rfl, r H2 e2⟩
theorem ev_oI {g : Int → Int → V} {i j : Int} (ha : Ev ta σ H (.int i)) (hb : Ev tb σ H (.int j)) : Ev (tOp (rI0 g) ta tb) σ H (g i j) := ev_op ha hb rv_I0
theorem ev_oC {C : Int → Int → Prop} {g : Int → Int → V} {i j : Int} (ha : Ev ta σ H (.int i)) (hb : Ev tb σ H (.int j)) (hc : C i j) : Ev (tOp (rI C g) ta tb) σ H (g i j) := ev_op ha hb (rv_I hc)
theorem ev_eqS (ha : Ev ta σ H x) (hb : Ev tb σ H y) (h : scal x y = true) : Ev (tOp rEq ta tb) σ H (.bl (decide (x = y))) := ev_op ha hb (rv_eq h)
theorem ev_neS (ha : Ev ta σ H x) (hb : Ev tb σ H y) (h : scal x y = true) : Ev (tOp rNe ta tb) σ H (.bl (!decide (x = y))) := ev_op ha hb (rv_ne h)
theorem ev_ixL {p : Addr} {xs : List V} {i : Int} (ha : Ev ta σ H (.ref p)) (hb : Ev tb σ H (.int i)) (h : SqL K H p xs) (hi : atI xs i = some v) : Ev (tOp (rIxL K) ta tb) σ H v := ev_op ha hb (rv_ixL h hi)
theorem ev_ixT {p : Addr} {xs : List V} {i : Int} (ha : Ev ta σ H (.ref p)) (hb : Ev tb σ H (.int i)) (h : SqT K H p xs) (hi : atI xs i = some v) : Ev (tOp (rIxT K) ta tb) σ H v := ev_op ha hb (rv_ixT h hi)
theorem ev_lenS {p : Addr} {xs : List V} (ha : Ev ta σ H (.ref p)) (h : SqL K H p xs ∨ SqT K H p xs) : Ev (tCB (gLenQ K) (tCons ta tNil)) σ H (.int (xs.length : Int)) := fun H1 e Q q =>
  ha H1 e _ fun H2 e2 => ⟨p, xs, rfl, h.imp (ex_l (e.trans e2)) (ex_t (e.trans e2)), q H2 e2⟩
theorem ev_sum {a : Addr} {ns : List Int} (ha : Ev ta σ H (.ref a)) (h : SqL K H a (ns.map V.int)) : Ev (tCB (rSum K) (tCons ta tNil)) σ H (.int ns.sum) := fun H1 e Q q =>
  ha H1 e _ fun H2 e2 => ⟨a, ns, rfl, ex_l (e.trans e2) h, q H2 e2⟩
theorem ev_sumN {ns : List Int} (ha : EvL ta σ H (ns.map V.int)) : Ev (tCB (rSum K) (tCons ta tNil)) σ H (.int ns.sum) := fun H1 e Q q =>
  ha H1 e _ fun p H2 _ e2 h2 => ⟨p, ns, rfl, sq_of h2, q H2 e2⟩
theorem ev_anyN {bs : List Bool} (ha : EvL ta σ H (bs.map V.bl)) : Ev (tCB (rAny K) (tCons ta tNil)) σ H (.bl (bs.any id)) := fun H1 e Q q =>
  ha H1 e _ fun p H2 _ e2 h2 => ⟨p, bs, rfl, sq_of h2, q H2 e2⟩
theorem ev_allN {bs : List Bool} (ha : EvL ta σ H (bs.map V.bl)) : Ev (tCB (rAll K) (tCons ta tNil)) σ H (.bl (bs.all id)) := fun H1 e Q q =>
  ha H1 e _ fun p H2 _ e2 h2 => ⟨p, bs, rfl, sq_of h2, q H2 e2⟩
/-- the least of ints -/
def lowest : List Int → Int
  | [] => 0
  | [n] => n
  | n :: m :: r => min n (lowest (m :: r))
theorem lowest_le : ∀ (ns : List Int) (m : Int), m ∈ ns → lowest ns ≤ m
  | [], _, h => by cases h
  | [n], m, h => by
    rw [List.mem_singleton.mp h]
    exact Int.le_refl _
  | n :: k :: r, m, h => by
    rcases List.mem_cons.mp h with e | e
    · rw [e]; exact Int.min_le_left _ _
    · exact Int.le_trans (Int.min_le_right _ _) (lowest_le (k :: r) m e)
theorem lowest_mem : ∀ (ns : List Int), ns ≠ [] → lowest ns ∈ ns
  | [], h => absurd rfl h
  | [n], _ => List.mem_singleton.mpr rfl
  | n :: k :: r, _ => by
    have ih := lowest_mem (k :: r) (by simp)
    show min n (lowest (k :: r)) ∈ n :: k :: r
    rcases Int.le_total n (lowest (k :: r)) with e | e
    · rw [Int.min_eq_left e]; exact List.mem_cons_self
    · rw [Int.min_eq_right e]; exact List.mem_cons_of_mem _ ih
theorem lowest_of {ns : List Int} {m : Int} (h : m ∈ ns) (hl : ∀ y ∈ ns, m ≤ y) : m = lowest ns := by
  have h1 := lowest_le ns m h
  have h2 := hl _ (lowest_mem ns (fun e => by subst e; cases h))
  omega
theorem lowest_neg {ns : List Int} (h : ns ≠ []) : lowest ns < 0 ↔ ∃ n ∈ ns, n < 0 :=
  ⟨fun e => ⟨_, lowest_mem ns h, e⟩, fun ⟨n, hn, e⟩ => Int.lt_of_le_of_lt (lowest_le ns n hn) e⟩
theorem ev_minS {a : Addr} {ns : List Int} (ha : Ev ta σ H (.ref a)) (h : SqL K H a (ns.map V.int)) (h0 : ns ≠ []) : Ev (tCB (rMin K) (tCons ta tNil)) σ H (.int (lowest ns)) := fun H1 e Q q =>
  ha H1 e _ fun H2 e2 => ⟨a, ns, rfl, ex_l (e.trans e2) h, List.length_pos_iff.mpr h0, fun m hm hl => by rw [lowest_of hm hl]; exact q H2 e2⟩
theorem ev_minN {ns : List Int} (ha : EvL ta σ H (ns.map V.int)) (h0 : ns ≠ []) : Ev (tCB (rMin K) (tCons ta tNil)) σ H (.int (lowest ns)) := fun H1 e Q q =>
  ha H1 e _ fun p H2 _ e2 h2 => ⟨p, ns, rfl, sq_of h2, List.length_pos_iff.mpr h0, fun m hm hl => by rw [lowest_of hm hl]; exact q H2 e2⟩
theorem ev_min2 {i j : Int} (ha : Ev ta σ H (.int i)) (hb : Ev tb σ H (.int j)) : Ev (tCB gMin2 (tCons ta (tCons tb tNil))) σ H (.int (min i j)) := fun H1 e Q q =>
  ha H1 e _ fun H2 e2 => hb H2 (e.trans e2) _ fun H3 e3 => ⟨i, j, rfl, by
    have z : (if j < i then j else i) = min i j := by split <;> omega
    rw [z]
    exact q H3 (e2.trans e3)⟩
theorem ev_max2' {i j : Int} (ha : Ev ta σ H (.int i)) (hb : Ev tb σ H (.int j)) : Ev (tCB gMax2 (tCons ta (tCons tb tNil))) σ H (.int (max i j)) := fun H1 e Q q =>
  ha H1 e _ fun H2 e2 => hb H2 (e.trans e2) _ fun H3 e3 => ⟨i, j, rfl, by
    have z : (if j > i then j else i) = max i j := by split <;> omega
    rw [z]
    exact q H3 (e2.trans e3)⟩
theorem ev_int1 {i : Int} (ha : Ev ta σ H (.int i)) : Ev (tCB gInt1 (tCons ta tNil)) σ H (.int i) := fun H1 e Q q =>
  ha H1 e _ fun H2 e2 => .inl ⟨i, rfl, q H2 e2⟩
theorem ev_intb {b : Bool} (ha : Ev ta σ H (.bl b)) : Ev (tCB gInt1 (tCons ta tNil)) σ H (.int (if b then 1 else 0)) := fun H1 e Q q =>
  ha H1 e _ fun H2 e2 => .inr ⟨b, rfl, q H2 e2⟩
theorem ev_abs {i : Int} (ha : Ev ta σ H (.int i)) : Ev (tCB gAbs (tCons ta tNil)) σ H (.int (if i < 0 then -i else i)) := fun H1 e Q q =>
  ha H1 e _ fun H2 e2 => ⟨i, rfl, q H2 e2⟩
theorem ev_tupT {p : Addr} {xs : List V} (ha : Ev ta σ H (.ref p)) (h : SqT K H p xs) : Ev (tCB (gTupT K) (tCons ta tNil)) σ H (.ref p) := fun H1 e Q q =>
  ha H1 e _ fun H2 e2 => ⟨p, xs, rfl, ex_t (e.trans e2) h, q H2 e2⟩
theorem el_listOf {p : Addr} {xs : List V} (ha : Ev ta σ H (.ref p)) (h : SqL K H p xs ∨ SqT K H p xs) : EvL (tCB (gListOf K) (tCons ta tNil)) σ H xs := fun H1 e Q q =>
  ha H1 e _ fun H2 e2 => ⟨p, xs, rfl, h.imp (ex_l (e.trans e2)) (ex_t (e.trans e2)), fun l hl => q l _ (fresh_back e2 hl) (e2.trans (Ex.new hl)) upd_same⟩
theorem el_cat {xs ys : List V} (ha : EvL ta σ H xs) (hb : EvL tb σ H ys) (hz : xs.length + ys.length ≤ 100000) : EvL (tOp rCat ta tb) σ H (xs ++ ys) := fun H1 e Q q =>
  ha H1 e _ fun p H2 hp e2 h2 => hb H2 (e.trans e2) _ fun r H3 _ e3 h3 => ⟨p, r, xs, ys, rfl, rfl, e3 p _ h2, h3, sz_of hz, fun l hl => q l _ (fresh_back (e2.trans e3) hl) ((e2.trans e3).trans (Ex.new hl)) upd_same⟩
/-- a cut of a new list -/
theorem el_slN {tl' th : TO} {xs : List V} {lo hi : Option Int} (h : EvL te σ H xs) (h1 : EvO tl' σ H lo) (h2 : EvO th σ H hi) : EvL (tSl (rSlL K) te tl' th) σ H (cutV xs lo hi) := fun H1 e _ q =>
  h H1 e _ fun p H2 hp e2 hx => h1 H2 (e.trans e2) _ fun H3 e3 => h2 H3 ((e.trans e2).trans e3) _ fun H4 e4 =>
    ⟨p, xs, rfl, sq_of ((e3.trans e4) p _ hx), fun l hl => q l _ (fresh_back ((e2.trans e3).trans e4) hl) (((e2.trans e3).trans e4).trans (Ex.new hl)) upd_same⟩

/-! ### new data -/
def EvN (te : TE) (σ : L2.St) (H : Hp) (D : Hp → V → Prop) : Prop := ∀ H1, Same H H1 → ∀ Q : VK, (∀ v H2, Same H1 H2 → D (dif H1 H2) v → Q v H2) → te σ H1 Q
theorem EvN.mono {D : Hp → V → Prop} (e : Same H H') (h : EvN te σ H D) : EvN te σ H' D := fun H1 a Q q => h H1 (e.trans a) Q q
theorem EvN.imp {D D' : Hp → V → Prop} (h : EvN te σ H D) (f : ∀ H v, D H v → D' H v) : EvN te σ H D' := fun H1 a Q q => h H1 a Q fun v H2 e d => q v H2 e (f _ _ d)
theorem en_of (h : Ev te σ H v) : EvN te σ H (fun _ x => x = v) := fun H1 e Q q => h H1 e Q fun H2 e2 => q v H2 e2 rfl
theorem en_l {xs : List V} (h : EvL te σ H xs) : EvN te σ H (fun H' v => ∃ p, v = .ref p ∧ H' p = some (.lst xs)) := fun H1 e Q q => h H1 e Q fun p H2 hp e2 h2 => q _ H2 e2 ⟨p, rfl, dif_some.mpr ⟨hp, h2⟩⟩
theorem en_u {xs : List V} (h : EvU te σ H xs) : EvN te σ H (fun H' v => ∃ p, v = .ref p ∧ H' p = some (.tup xs)) := fun H1 e Q q => h H1 e Q fun p H2 hp e2 h2 => q _ H2 e2 ⟨p, rfl, dif_some.mpr ⟨hp, h2⟩⟩
theorem en_il {ns : List Int} (h : EvL te σ H (ns.map V.int)) : EvN te σ H (fun H' v => IL K H' v ns) := (en_l h).imp fun H' v ⟨p, e, hp⟩ => by rw [e]; exact il_of (SqL.of hp)
/-- the source of a walk over a list: what stands in it, and what that tells -/
def Src {α : Type} (K : PySem.W.Frag) (tl : TE) (σ : L2.St) (H : Hp) (S : Hp → V → α → Prop) (as : List α) : Prop :=
  ∀ H1, Same H H1 → ∀ Q : VK, (∀ a xs H2, Same H1 H2 → SqL K H2 a xs → Paired (S H2) xs as → Q (.ref a) H2) → tl σ H1 Q
theorem src_of {α : Type} {S : Hp → V → α → Prop} {as : List α} {D : Hp → V → α → Prop} (up : Up S) (h : Ev tl σ H v) (hd : LOf K S H v as) : Src K tl σ H S as := fun H1 e Q q => by
  obtain ⟨a, xs, rfl, h1, h2⟩ := hd
  exact h H1 e _ fun H2 e2 => q a xs H2 e2 (sq_mono (e.trans e2) h1) (pd_imp (fun x b r => up _ _ x b (e.trans e2) r) h2)
theorem src_new {α : Type} {S : Hp → V → α → Prop} {as : List α} (up : Up S) (h : EvN tl σ H (fun H' v => LOf K S H' v as)) : Src K tl σ H S as := fun H1 e Q q =>
  h H1 e _ fun v H2 e2 ⟨a, xs, ev, h1, h2⟩ => by
    subst ev
    exact q a xs H2 e2 (sq_mono (dif_same _ _) h1) (pd_imp (fun x b r => up _ _ x b (dif_same _ _) r) h2)
/-- a new list of given values, of which S tells in H already -/
theorem src_l {α : Type} {S : Hp → V → α → Prop} {as : List α} {xs : List V} (up : Up S) (h : EvL tl σ H xs) (hp : Paired (S H) xs as) : Src K tl σ H S as := fun H1 e Q q =>
  h H1 e _ fun p H2 _ e2 h2 => q p xs H2 e2 (SqL.of h2) (pd_imp (fun x b r => up _ _ x b (e.trans e2) r) hp)
/-- a new list of things of which D tells -/
def NL {α : Type} (D : Hp → V → α → Prop) (H : Hp) (v : V) (as : List α) : Prop := ∃ p ys, v = .ref p ∧ H p = some (.lst ys) ∧ Paired (D H) ys as
theorem NL.lof {α : Type} {D : Hp → V → α → Prop} {as : List α} (h : NL D H v as) : LOf K D H v as := by
  obtain ⟨p, ys, e, h1, h2⟩ := h
  exact ⟨p, ys, e, SqL.of h1, h2⟩
theorem el_fix {α : Type} {F : α → V} {as : List α} (h : EvN te σ H (fun H' v => NL (fun _ v b => v = F b) H' v as)) : EvL te σ H (as.map F) := fun H1 e Q q =>
  h H1 e _ fun v H2 e2 ⟨p, ys, ev, h1, h2⟩ => by
    subst ev
    rw [pd_eq (f := F) h2] at h1
    exact q p H2 (dif_some.mp h1).1 e2 (dif_some.mp h1).2
/-- a comprehension over it; a target of any form: the slots behind it are st x -/
theorem en_lc {α : Type} {S : Hp → V → α → Prop} {as : List α} {g : TG} {vs : List Nat} {f : α → Bool} {D : α → Hp → V → Prop} (src : Src K tl σ H S as) (hz : as.length ≤ 100000) (up : ∀ a H H' v, Same H H' → D a H v → D a H' v)
    (el : ∀ H1, Same H H1 → ∀ (i : Nat) b x, as[i]? = some b → S H1 x b → El g t te vs σ H1 x (f b) (D b)) : EvN (tLc (iList K tl) g t te vs) σ H (fun H' v => NL (fun H v b => D b H v) H' v (as.filter f)) := fun H0 e Q q =>
  src H0 e _ fun a xs H1 e1 hs hp => ⟨a, rfl, ⟨xs, hs⟩, fun Dl hD =>
    lc_pureL (K := K) (a := a) (xs := xs) (S H1) hs as hp (by rw [pd_len hp]; exact hz) hD f D up (fun i b x hb _ hS => el H1 (e.trans e1) i b x hb hS) (fun ys H2 e2 hl pd =>
      q _ H2 (e1.trans e2) ⟨Dl, ys, rfl, dif_some.mpr ⟨fresh_back e1 hD, hl⟩, pd_imp (fun y b r => up b _ _ y (dif_mono e1 (off_same _ _)) r) pd⟩)⟩
theorem en_lcR {n : Int} {ta : TA} {g : TG} {vs : List Nat} {f : Nat → Bool} {D : Nat → Hp → V → Prop} (src : EvA ta σ H [.int n]) (hn : 0 ≤ n ∧ n ≤ 100000) (up : ∀ a H H' v, Same H H' → D a H v → D a H' v)
    (el : ∀ H1, Same H H1 → ∀ (i : Nat), (i : Int) < n → El g t te vs σ H1 (.int (i : Int)) (f i) (D i)) : EvN (tLc (iRng1 ta) g t te vs) σ H (fun H' v => NL (fun H v b => D b H v) H' v ((List.range n.toNat).filter f)) := fun H0 e Q q =>
  src H0 e _ fun H1 e1 => ⟨n, rfl, by omega, by omega, fun Dl hD =>
    lc_pureR (lo := 0) (m := n.toNat) (by omega) hD f D up (fun i hi => by rw [Int.zero_add]; exact el H1 (e.trans e1) i (by omega)) (fun ys H2 e2 hl pd =>
      q _ H2 (e1.trans e2) ⟨Dl, ys, rfl, dif_some.mpr ⟨fresh_back e1 hD, hl⟩, pd_imp (fun y b r => up b _ _ y (dif_mono e1 (off_same _ _)) r) pd⟩)⟩
/-- one turn, the target a name, no test -/
theorem el_en {vs : List Nat} {j : Nat} {D : Hp → V → Prop} (hw : wipe ((wipe σ vs).set j (some x)) vs = wipe σ vs) (h : EvN te ((wipe σ vs).set j (some x)) H D) : El (gName j) tYes te vs σ H x true D := el_yes hw fun H' e Y hY => h H' e Y hY
/-- .. with a test -/
theorem el_if {vs : List Nat} {j : Nat} {D : Hp → V → Prop} {b : Bool} (up : ∀ H H' v, Same H H' → D H v → D H' v) (hw : wipe ((wipe σ vs).set j (some x)) vs = wipe σ vs) (ht : EvT t ((wipe σ vs).set j (some x)) H b) (h : b = true → EvN te ((wipe σ vs).set j (some x)) H D) : El (gName j) t te vs σ H x b D := fun H' e N Y hN hY =>
  ⟨hw, ht H' e _ fun H2 e2 => by
    cases b with
    | false => exact hN rfl H2 e2
    | true =>
      show te _ H2 Y
      exact h rfl H2 (e.trans e2) Y fun y H3 e3 d => hY rfl y H3 (e2.trans e3) (up _ _ y (dif_mono e2 (Same.refl H3)) d)⟩
theorem filter_yes {α : Type} (as : List α) : as.filter (fun _ => true) = as := List.filter_eq_self.mpr fun _ _ => rfl
/-- new things, one for each item; no test -/
theorem en_lcA {α : Type} {S : Hp → V → α → Prop} {as : List α} {vs : List Nat} {j : Nat} {D : α → Hp → V → Prop} (src : Src K tl σ H S as) (hz : as.length ≤ 100000) (up : ∀ a H H' v, Same H H' → D a H v → D a H' v) (hw : ∀ x, wipe ((wipe σ vs).set j (some x)) vs = wipe σ vs)
    (he : ∀ H1, Same H H1 → ∀ (i : Nat) b x, as[i]? = some b → S H1 x b → EvN te ((wipe σ vs).set j (some x)) H1 (D b)) : EvN (tLc (iList K tl) (gName j) tYes te vs) σ H (fun H' v => NL (fun H v b => D b H v) H' v as) := by
  have h := en_lc (f := fun _ => true) (g := gName j) (t := tYes) (te := te) (vs := vs) src hz up fun H1 e i b x hb hs => el_en (hw x) (he H1 e i b x hb hs)
  rw [filter_yes] at h
  exact h
theorem en_lcRA {n : Int} {ta : TA} {vs : List Nat} {j : Nat} {D : Nat → Hp → V → Prop} (src : EvA ta σ H [.int n]) (hn : 0 ≤ n ∧ n ≤ 100000) (up : ∀ a H H' v, Same H H' → D a H v → D a H' v) (hw : ∀ x, wipe ((wipe σ vs).set j (some x)) vs = wipe σ vs)
    (he : ∀ H1, Same H H1 → ∀ (i : Nat), (i : Int) < n → EvN te ((wipe σ vs).set j (some (.int (i : Int)))) H1 (D i)) : EvN (tLc (iRng1 ta) (gName j) tYes te vs) σ H (fun H' v => NL (fun H v b => D b H v) H' v (List.range n.toNat)) := by
  have h := en_lcR (f := fun _ => true) (g := gName j) (t := tYes) (te := te) (vs := vs) src hn up fun H1 e i hi => el_en (hw _) (he H1 e i hi)
  rw [filter_yes] at h
  exact h
/-- given values, one for each item -/
theorem el_lcF {α : Type} {S : Hp → V → α → Prop} {as : List α} {vs : List Nat} {j : Nat} {F : α → V} (src : Src K tl σ H S as) (hz : as.length ≤ 100000) (hw : ∀ x, wipe ((wipe σ vs).set j (some x)) vs = wipe σ vs)
    (he : ∀ H1, Same H H1 → ∀ (i : Nat) b x, as[i]? = some b → S H1 x b → Ev te ((wipe σ vs).set j (some x)) H1 (F b)) : EvL (tLc (iList K tl) (gName j) tYes te vs) σ H (as.map F) :=
  el_fix (en_lcA (D := fun b _ v => v = F b) src hz (fun _ _ _ _ _ h => h) hw fun H1 e i b x hb hs => en_of (he H1 e i b x hb hs))
theorem el_lcRF {n : Int} {ta : TA} {vs : List Nat} {j : Nat} {F : Nat → V} (src : EvA ta σ H [.int n]) (hn : 0 ≤ n ∧ n ≤ 100000) (hw : ∀ x, wipe ((wipe σ vs).set j (some x)) vs = wipe σ vs)
    (he : ∀ H1, Same H H1 → ∀ (i : Nat), (i : Int) < n → Ev te ((wipe σ vs).set j (some (.int (i : Int)))) H1 (F i)) : EvL (tLc (iRng1 ta) (gName j) tYes te vs) σ H ((List.range n.toNat).map F) :=
  el_fix (en_lcRA (D := fun b _ v => v = F b) src hn (fun _ _ _ _ _ h => h) hw fun H1 e i hi => en_of (he H1 e i hi))
end GK
/-! A comprehension over two ranges; a set made of a sequence of tuples. -/
namespace GK
open PySem PySem.Spec PyProof.Rows L2 Evl
variable {K : PySem.W.Frag} {σ : L2.St} {H H' : Hp} {te : TE}
def pairs (n m : Nat) : List (Nat × Nat) := (List.range n).flatMap fun i => (List.range m).map fun j => (i, j)
theorem pairs_succ (n m : Nat) : pairs (n + 1) m = pairs n m ++ (List.range m).map fun j => (n, j) := by
  unfold pairs
  rw [List.range_succ, List.flatMap_append]
  simp
theorem pairs_len (n m : Nat) : (pairs n m).length = n * m := by
  induction n with
  | zero => simp [pairs]
  | succ n ih => rw [pairs_succ, List.length_append, ih, List.length_map, List.length_range, Nat.succ_mul]
/-- a new thing more behind what is made already -/
theorem grown {α : Type} {D : α → Hp → V → Prop} (up : ∀ a H H' v, Same H H' → D a H v → D a H' v) {H1 H2 H3 : Hp} {Dl : Addr} {ys : List V} {as : List α} {a : α} {y : V} (e : Same H1 H2) (e2 : Same H2 H3) (hl : H2 Dl = some (.lst ys))
    (pd : Paired (fun y a => D a (dif H1 (off Dl H2)) y) ys as) (hy : D a (dif H2 H3) y) : Paired (fun v a => D a (dif H1 (off Dl (upd H3 Dl (.lst (ys ++ [y]))))) v) (ys ++ [y]) (as ++ [a]) := by
  rw [off_upd]
  refine pd_snoc (pd_imp (fun v a q => up a _ _ v (dif_mono (Same.refl _) (off_mono e2)) q) pd) ?_
  refine up _ _ _ y (fun c o hc => ?_) hy
  obtain ⟨c1, c2⟩ := dif_some.mp hc
  exact dif_some.mpr ⟨e.free c1, off_some.mpr ⟨fun z => (by subst z; rw [hl] at c1; cases c1), c2⟩⟩
theorem yes_of {A B : Hp → Prop} {σ : L2.St} {H : Hp} (h : A H) : tYes σ H (fun b H3 => if b = true then A H3 else B H3) := by
  show (if true = true then A H else B H)
  exact iteT h
theorem en_lc2R {n m : Nat} {ta ta1 : TA} {j0 j1 : Nat} {vs vs1 : List Nat} {D : Nat × Nat → Hp → V → Prop} (src : EvA ta σ H [.int (n : Int)]) (hn : n ≤ 200)
    (src1 : ∀ H1, Same H H1 → ∀ i : Nat, i < n → EvA ta1 ((wipe σ vs).set j0 (some (.int (i : Int)))) H1 [.int (m : Int)]) (hm : m ≤ 200) (up : ∀ a H H' v, Same H H' → D a H v → D a H' v)
    (hw : ∀ x, wipe ((wipe σ vs).set j0 (some x)) vs = wipe σ vs) (hw1 : ∀ x y, wipe ((wipe ((wipe σ vs).set j0 (some x)) vs1).set j1 (some y)) vs1 = wipe ((wipe σ vs).set j0 (some x)) vs1)
    (he : ∀ H1, Same H H1 → ∀ i j : Nat, i < n → j < m → EvN te ((wipe ((wipe σ vs).set j0 (some (.int (i : Int)))) vs1).set j1 (some (.int (j : Int)))) H1 (D (i, j))) :
    EvN (tLc2 (iRng1 ta) (gName j0) tYes (iRng1 ta1) (gName j1) tYes te vs vs1) σ H (fun H' v => NL (fun H v p => D p H v) H' v (pairs n m)) := by
  intro H0 e Q q
  refine src H0 e _ fun H1 e1 => ⟨(n : Int), rfl, by omega, by omega, fun Dl hD => ?_⟩
  have eH1 : Same H H1 := e.trans e1
  have small : ∀ k : Nat, k ≤ 40000 → k < sizeLine := fun k hk => Nat.lt_of_le_of_lt hk (by decide)
  have bnd : ∀ i : Nat, i ≤ 200 → i * m ≤ 40000 := fun i hi => Nat.le_trans (Nat.mul_le_mul hi hm) (by decide)
  refine ⟨fun i k H2 => k = n - i ∧ i ≤ n ∧ Same H1 H2 ∧ ∃ ys, H2 Dl = some (.lst ys) ∧ Paired (fun y a => D a (dif H1 (off Dl H2)) y) ys (pairs i m), ⟨n, by simp, Nat.zero_le _, same_new hD, [], upd_same, .nil⟩, ?_⟩
  rintro i k H2 ⟨rfl, hi, e2, ys, hl, pd⟩
  by_cases lt : i < n
  · refine .inr ⟨by show i < (n : Int).toNat; simpa using lt, fun H3 => Same H1 H3 ∧ ∃ ys, H3 Dl = some (.lst ys) ∧ Paired (fun y a => D a (dif H1 (off Dl H3)) y) ys (pairs (i + 1) m), fun H3 z => ⟨n - (i + 1), by omega, rfl, lt, z⟩, ?_⟩
    rintro x H3 ⟨rfl, rfl⟩
    rw [Int.zero_add]
    refine ⟨hw _, ?_⟩
    refine yes_of ?_
    refine src1 H3 (eH1.trans e2) i lt H3 (Same.refl _) _ fun H4 e4 => ⟨(m : Int), rfl, by omega, by omega, ?_⟩
    refine ⟨fun j k H5 => k = m - j ∧ j ≤ m ∧ Same H1 H5 ∧ ∃ ys, H5 Dl = some (.lst ys) ∧ Paired (fun y a => D a (dif H1 (off Dl H5)) y) ys (pairs i m ++ (List.range j).map fun j => (i, j)),
      ⟨m, by simp, Nat.zero_le _, e2.trans e4, ys, e4 _ _ hl, by simpa using pd_imp (fun v a q => up a _ _ v (dif_mono (Same.refl _) (off_mono e4)) q) pd⟩, ?_⟩
    rintro j k H5 ⟨rfl, hj, e5, zs, hl5, pd5⟩
    by_cases ltj : j < m
    · refine .inr ⟨by show j < (m : Int).toNat; simpa using ltj, fun H6 => Same H1 H6 ∧ ∃ ys, H6 Dl = some (.lst ys) ∧ Paired (fun y a => D a (dif H1 (off Dl H6)) y) ys (pairs i m ++ (List.range (j + 1)).map fun j => (i, j)), fun H6 z => ⟨m - (j + 1), by omega, rfl, ltj, z⟩, ?_⟩
      rintro y H6 ⟨rfl, rfl⟩
      rw [Int.zero_add]
      refine ⟨hw1 _ _, ?_⟩
      refine yes_of ?_
      refine he H6 (eH1.trans e5) i j lt ltj H6 (Same.refl _) _ fun y H7 e7 hy => ⟨zs, e7 _ _ hl5, ?_, same_mut (e5.trans e7) hD, zs ++ [y], upd_same, ?_⟩
      · have h1 := pd_len pd5
        rw [List.length_append, pairs_len, List.length_map, List.length_range] at h1
        have h2 := bnd (i + 1) (by omega)
        rw [Nat.succ_mul] at h2
        exact small _ (by omega)
      · rw [List.range_succ, List.map_append, ← List.append_assoc]
        exact grown up e5 e7 hl5 pd5 hy
    · have ej : j = m := by omega
      subst ej
      refine .inl ⟨by show (j : Int).toNat ≤ j; simp, e5, zs, hl5, ?_⟩
      rw [pairs_succ]
      exact pd5
  · have ei : i = n := by omega
    subst ei
    exact .inl ⟨by show (i : Int).toNat ≤ i; simp, q _ H2 (e1.trans e2) ⟨Dl, ys, rfl, dif_some.mpr ⟨fresh_back e1 hD, hl⟩, pd_imp (fun y b r => up b _ _ y (dif_mono e1 (off_same _ _)) r) pd⟩⟩

/-! ### a set of tuples, made of a list or a tuple of cells -/
/-- what a set has got of the first cells: its members' contents are just these -/
structure Has (cs : List (Int × Int)) (L : List (Addr × List Int)) : Prop where
  sub : ∀ p ∈ L, ∃ c ∈ cs, p.2 = [c.1, c.2]
  all : ∀ c ∈ cs, [c.1, c.2] ∈ L.map (·.2)
  len : L.length ≤ cs.length
theorem Has.nil : Has [] [] := ⟨fun p h => (by cases h), fun c h => (by cases h), Nat.le_refl _⟩
theorem Has.more {cs : List (Int × Int)} {L L' : List (Addr × List Int)} {c : Int × Int} {t : Addr} (h : Has cs L) (a : Added L t [c.1, c.2] L') : Has (cs ++ [c]) L' := by
  by_cases hm : [c.1, c.2] ∈ L.map (·.2)
  · rw [a.1 hm]
    refine ⟨fun p hp => ?_, fun d hd => ?_, ?_⟩
    · obtain ⟨d, h1, h2⟩ := h.sub p hp
      exact ⟨d, List.mem_append_left _ h1, h2⟩
    · rcases List.mem_append.mp hd with z | z
      · exact h.all d z
      · rw [List.mem_singleton.mp z]; exact hm
    · rw [List.length_append]; have := h.len; omega
  · have pm := a.2 hm
    refine ⟨fun p hp => ?_, fun d hd => ?_, ?_⟩
    · rcases List.mem_cons.mp (pm.mem_iff.mp hp) with z | z
      · exact ⟨c, List.mem_append_right _ (List.mem_singleton.mpr rfl), by rw [z]⟩
      · obtain ⟨d, h1, h2⟩ := h.sub p z
        exact ⟨d, List.mem_append_left _ h1, h2⟩
    · rw [(pm.map (·.2)).mem_iff, List.map_cons]
      rcases List.mem_append.mp hd with z | z
      · exact List.mem_cons_of_mem _ (h.all d z)
      · rw [List.mem_singleton.mp z]; exact List.mem_cons_self
    · rw [pm.length_eq, List.length_cons, List.length_append]
      exact Nat.succ_le_succ h.len
theorem Added.sub {L L' : List (Addr × List Int)} {t : Addr} {k : List Int} (a : Added L t k L') : ∀ p ∈ L', p = (t, k) ∨ p ∈ L := fun p hp => by
  by_cases hm : k ∈ L.map (·.2)
  · rw [a.1 hm] at hp; exact .inr hp
  · exact List.mem_cons.mp ((a.2 hm).mem_iff.mp hp)
theorem st_upd {H : Hp} {D t : Addr} {o : HO} {φ : Heap → Prop} {xs : List V} (hD : H D = some (.ext φ)) (h : SqT K H t xs) : SqT K (upd H D o) t xs := by
  rcases h with (h | ⟨u, h⟩) | h
  · have n : t ≠ D := fun z => by subst z; rw [hD] at h; cases h
    exact .inl (.inl (by rw [upd_ne n]; exact h))
  · have n : t ≠ D := fun z => by subst z; rw [hD] at h; cases h
    exact .inl (.inr ⟨u, by rw [upd_ne n]; exact h⟩)
  · exact .inr h
section
variable {P : Program} {w : World} {J : It} {n j : Nat} {G : Hp → Prop} {Yd : Nat → Hp → V → Hp → Prop} {vs : List Nat} {H1 : Hp} {D : Addr} {Qd : Hp → Prop} {xs : List V} {cs : List (Int × Int)}
theorem set_walk (wk : Walk J n G Yd) (hY : ∀ i H x H', i < n → Yd i H x H' → H' = H ∧ xs[i]? = some x) (hG : ∀ H', Same H1 H' → G H') (hn : xs.length = n) (hp : Paired (CellD K H1) xs cs) (few : n + 1 < 64) (hD : H1 D = none)
    (hw : ∀ x, wipe ((wipe σ vs).set j (some x)) vs = wipe σ vs) (he : ∀ H2 x c, Same H1 H2 → CellD K H2 x c → EvU te ((wipe σ vs).set j (some x)) H2 [.int c.1, .int c.2])
    (done : ∀ L H2, Same H1 H2 → H2 D = some (SetTO P w D L) → (∀ p ∈ L, SqT K H2 p.1 (p.2.map V.int)) → Has cs L → Qd H2) :
    ∃ W : Nat → Nat → Hp → Prop, (∃ m, W 0 m (upd H1 D ((kTup P w K).O D (kTup P w K).none0))) ∧ ∀ i m H, W i m H →
      (J.stop i H ∧ Qd H) ∨ (J.go i H ∧ ∃ Z : Hp → Prop, (∀ H', Z H' → ∃ m', m' < m ∧ W (i + 1) m' H') ∧ ∀ x H', J.yld i H x H' →
        gName j x (wipe σ vs) H' fun σ2 H2 => wipe σ2 vs = wipe σ vs ∧ tYes σ2 H2 fun b H3 => if b = true then te σ2 H3 fun y H4 => (kTup P w K).put y D H4 Z else Z H3) := by
  have hc : cs.length = n := by rw [← pd_len hp, hn]
  refine ⟨fun i m H => m = n - i ∧ i ≤ n ∧ Same H1 H ∧ ∃ L, H D = some (SetTO P w D L) ∧ (∀ p ∈ L, SqT K H p.1 (p.2.map V.int)) ∧ Has (cs.take i) L,
    ⟨n, by simp, Nat.zero_le _, same_new hD, [], upd_same, fun p h => (by cases h), by rw [List.take_zero]; exact Has.nil⟩, ?_⟩
  rintro i m H2 ⟨rfl, hi, e, L, hL, ht, hs⟩
  by_cases lt : i < n
  · refine .inr ⟨wk.goes i H2 lt (hG H2 e), fun H3 => Same H1 H3 ∧ ∃ L, H3 D = some (SetTO P w D L) ∧ (∀ p ∈ L, SqT K H3 p.1 (p.2.map V.int)) ∧ Has (cs.take (i + 1)) L, fun H3 z => ⟨n - (i + 1), by omega, rfl, lt, z⟩, fun x H3 y => ?_⟩
    obtain ⟨rfl, hx⟩ := hY i H2 x H3 lt (wk.yields i H2 x H3 lt (hG H2 e) y)
    obtain ⟨c, hc1, hc2⟩ := pd_get hp hx
    have tk : cs.take (i + 1) = cs.take i ++ [c] := by rw [List.take_succ, hc1]; rfl
    refine ⟨hw x, yes_of ?_⟩
    refine he H3 x c e (up_cell _ _ _ _ e hc2) H3 (Same.refl _) _ fun p H4 hp4 e4 hu => ?_
    have hL4 : H4 D = some (SetTO P w D L) := e4 _ _ hL
    refine ⟨p, [c.1, c.2], L, rfl, SqT.of hu, hL4, fun q hq => st_mono e4 (ht q hq), ?_, fun L' ad => ⟨same_mut (e.trans e4) hD, L', upd_same, fun q hq => ?_, by rw [tk]; exact hs.more ad⟩⟩
    · have := hs.len
      rw [List.length_take] at this
      omega
    · rcases ad.sub q hq with z | z
      · rw [z]
        exact st_upd hL4 (SqT.of hu)
      · exact st_upd hL4 (st_mono e4 (ht q z))
  · have ei : i = n := by omega
    subst ei
    rw [← hc, List.take_length] at hs
    exact .inl ⟨wk.stops H2 (hG H2 e), done L H2 e hL ht hs⟩
end
/-- {.. for x in xs}, xs a list or a tuple of cells -/
theorem set_cells {P : Program} {w : World} {tl : TE} {j : Nat} {vs : List Nat} {v : V} {cs : List (Int × Int)} {Q : VK} (h : Ev tl σ H v) (hd : LOf K (CellD K) H v cs ∨ TOf K (CellD K) H v cs) (few : cs.length + 1 < 64)
    (hw : ∀ x, wipe ((wipe σ vs).set j (some x)) vs = wipe σ vs) (he : ∀ H2 x c, Same H H2 → CellD K H2 x c → EvU te ((wipe σ vs).set j (some x)) H2 [.int c.1, .int c.2])
    (done : ∀ D L H2, H D = none → Same H H2 → H2 D = some (SetTO P w D L) → (∀ p ∈ L, SqT K H2 p.1 (p.2.map V.int)) → Has cs L → Q (.ref D) H2) : tSet (kTup P w K) (iSeq K tl) (gName j) tYes te vs σ H Q := by
  rcases hd with ⟨a, xs, rfl, hs, hp⟩ | ⟨a, xs, rfl, hs, hp⟩
  · refine .inl (h H (Same.refl _) _ fun H1 e1 => ⟨a, rfl, ⟨xs, sq_mono e1 hs⟩, fun D hD => ?_⟩)
    exact set_walk (n := xs.length) (walk_list (K := K) (a := a) (xs := xs)) (fun i H x H' _ y => y) (fun H' e => sq_mono (e1.trans e) hs) rfl (pd_imp (fun x c r => up_cell _ _ _ _ e1 r) hp) (by rw [pd_len hp]; exact few) hD hw
      (fun H2 x c e hc => he H2 x c (e1.trans e) hc) (fun L H2 e hL ht hh => done D L H2 (fresh_back e1 hD) (e1.trans e) hL ht hh)
  · refine .inr (h H (Same.refl _) _ fun H1 e1 => ⟨a, rfl, ⟨xs, st_mono e1 hs⟩, fun D hD => ?_⟩)
    exact set_walk (n := xs.length) (walk_tup (K := K) (a := a) (xs := xs)) (fun i H x H' _ y => y) (fun H' e => st_mono (e1.trans e) hs) rfl (pd_imp (fun x c r => up_cell _ _ _ _ e1 r) hp) (by rw [pd_len hp]; exact few) hD hw
      (fun H2 x c e hc => he H2 x c (e1.trans e) hc) (fun L H2 e hL ht hh => done D L H2 (fresh_back e1 hD) (e1.trans e) hL ht hh)
/-- a for over a list or a tuple of cells: nothing is changed, Pv tells of slots and heap -/
theorem for_seq {tl : TE} {g : TG} {tb : TS} {D : Ends} {α : Type} {S : Hp → V → α → Prop} {v : V} {as : List α} (up : Up S) (h : Ev tl σ H v) (hd : LOf K S H v as ∨ TOf K S H v as) (Pv : Nat → L2.St → Hp → Prop) (h0 : ∀ H1, Same H H1 → Pv 0 σ H1) (hP : ∀ i σ' H', Pv i σ' H' → Same H H')
    (hs : ∀ (i : Nat) x a σ' H', as[i]? = some a → S H' x a → Pv i σ' H' → g x σ' H' fun σ2 H2 => tb { D with nx := Pv (i + 1), ct := Pv (i + 1), bk := D.nx } σ2 H2) (hd' : ∀ σ' H', Pv as.length σ' H' → D.nx σ' H') : tFor (iSeq K tl) g tb D σ H := by
  rcases hd with ⟨a, xs, rfl, hs', hp⟩ | ⟨a, xs, rfl, hs', hp⟩
  · refine .inl (h H (Same.refl _) _ fun H1 e1 => ⟨a, rfl, ⟨xs, sq_mono e1 hs'⟩, ?_⟩)
    refine for_list (xs := xs) Pv (h0 H1 e1) (fun i σ' H' _ p => sq_mono (hP i σ' H' p) hs') (fun i x σ' H' hx p => ?_) (fun σ' H' p => hd' σ' H' (by rw [← pd_len hp]; exact p))
    obtain ⟨b, hb, hS⟩ := pd_get hp hx
    exact hs i x b σ' H' hb (up _ _ _ _ (hP i σ' H' p) hS) p
  · refine .inr (h H (Same.refl _) _ fun H1 e1 => ⟨a, rfl, ⟨xs, st_mono e1 hs'⟩, ?_⟩)
    refine for_tup (xs := xs) Pv (h0 H1 e1) (fun i σ' H' _ p => st_mono (hP i σ' H' p) hs') (fun i x σ' H' hx p => ?_) (fun σ' H' p => hd' σ' H' (by rw [← pd_len hp]; exact p))
    obtain ⟨b, hb, hS⟩ := pd_get hp hx
    exact hs i x b σ' H' hb (up _ _ _ _ (hP i σ' H' p) hS) p
theorem for_lof {tl : TE} {g : TG} {tb : TS} {D : Ends} {α : Type} {S : Hp → V → α → Prop} {v : V} {as : List α} (up : Up S) (h : Ev tl σ H v) (hd : LOf K S H v as) (Pv : Nat → L2.St → Hp → Prop) (h0 : ∀ H1, Same H H1 → Pv 0 σ H1) (hP : ∀ i σ' H', Pv i σ' H' → Same H H')
    (hs : ∀ (i : Nat) x a σ' H', as[i]? = some a → S H' x a → Pv i σ' H' → g x σ' H' fun σ2 H2 => tb { D with nx := Pv (i + 1), ct := Pv (i + 1), bk := D.nx } σ2 H2) (hd' : ∀ σ' H', Pv as.length σ' H' → D.nx σ' H') : tFor (iList K tl) g tb D σ H := by
  obtain ⟨a, xs, rfl, hs', hp⟩ := hd
  refine h H (Same.refl _) _ fun H1 e1 => ⟨a, rfl, ⟨xs, sq_mono e1 hs'⟩, ?_⟩
  refine for_list (xs := xs) Pv (h0 H1 e1) (fun i σ' H' _ p => sq_mono (hP i σ' H' p) hs') (fun i x σ' H' hx p => ?_) (fun σ' H' p => hd' σ' H' (by rw [← pd_len hp]; exact p))
  obtain ⟨b, hb, hS⟩ := pd_get hp hx
  exact hs i x b σ' H' hb (up _ _ _ _ (hP i σ' H' p) hS) p
end GK
/-! Lists of ints and tables of them: items, cuts, sums. -/
namespace GK
open PySem PySem.Spec PyProof.Rows L2 Evl
variable {K : PySem.W.Frag} {σ : L2.St} {H H' : Hp} {ta tb tc te tl : TE} {x y z v : V}
/-- -1 as it is written -/
abbrev tNeg1 : TE := tUn (rU fun i => .int (-i)) (tC (.int 1))
theorem ev_neg1 : Ev tNeg1 σ H (.int (-1)) := ev_uI ev_c
theorem cut_init {α : Type} (xs : List V) : cutV xs none (some (-1)) = xs.dropLast := by
  unfold cutV
  have h : HT.sIx xs.length xs.length (some (-1)) = xs.length - 1 := by
    unfold HT.sIx
    simp only
    rw [if_pos (by decide)]
    omega
  rw [h, HT.sIx_none, List.drop_zero, Nat.sub_zero, List.dropLast_eq_take]
theorem cut_tail (xs : List V) : cutV xs (some 1) none = xs.drop 1 := by
  unfold cutV
  rw [show HT.sIx xs.length 0 (some 1) = min 1 xs.length from HT.sIx_nat xs.length 0 1, HT.sIx_none]
  cases xs with
  | nil => rfl
  | cons x r =>
    have e : min 1 (x :: r).length = 1 := by rw [List.length_cons]; omega
    rw [e]
    exact List.take_of_length_le (by simp)
theorem cut_upto (xs : List V) (n : Nat) : cutV xs none (some (n : Int)) = xs.take n := by
  unfold cutV
  rw [show HT.sIx xs.length xs.length (some (n : Int)) = min n xs.length from HT.sIx_nat _ _ n, HT.sIx_none, List.drop_zero, Nat.sub_zero, ← List.take_take, List.take_length]
theorem cut_from_to (xs : List V) (a b : Nat) : cutV xs (some (a : Int)) (some (b : Int)) = (xs.drop a).take (b - a) := by
  unfold cutV
  rw [show HT.sIx xs.length xs.length (some (b : Int)) = min b xs.length from HT.sIx_nat _ _ b, show HT.sIx xs.length 0 (some (a : Int)) = min a xs.length from HT.sIx_nat _ _ a]
  by_cases h : a ≤ xs.length
  · rw [Nat.min_eq_left h]
    apply List.ext_getElem?
    intro i
    rw [List.getElem?_take, List.getElem?_take]
    by_cases h1 : i < min b xs.length - a
    · rw [if_pos h1, if_pos (by omega)]
    · rw [if_neg h1]
      by_cases h2 : i < b - a
      · rw [if_pos h2, List.getElem?_drop, List.getElem?_eq_none (by omega)]
      · rw [if_neg h2]
  · have e : xs.drop a = [] := List.drop_eq_nil_of_le (by omega)
    have e2 : min a xs.length = xs.length := Nat.min_eq_right (by omega)
    rw [e2, e, List.drop_length]
    simp
theorem at_neg1 {α : Type} {xs : List α} {d : α} (h : xs ≠ []) : atI xs (-1) = some (xs.getLastD d) := by
  have e : xs = xs.dropLast ++ [xs.getLast h] := (List.dropLast_concat_getLast h).symm
  have z : xs.getLastD d = xs.getLast h := by
    cases xs with
    | nil => exact absurd rfl h
    | cons a r => simp [List.getLastD, List.getLast?_eq_getLast]
  rw [z]
  conv => lhs; rw [e]
  exact atI_last _ _
theorem at_int {ns : List Int} {k : Nat} (h : k < ns.length) : atI (ns.map V.int) (k : Int) = some (.int (ns.getD k 0)) := by
  refine atI_nat ?_
  rw [List.getElem?_map, List.getElem?_eq_getElem h, List.getD_eq_getElem?_getD, List.getElem?_eq_getElem h]
  rfl
theorem map_last {ns : List Int} (h : ns ≠ []) : (ns.map V.int).getLastD .non = .int (ns.getLastD 0) := by
  cases ns with
  | nil => exact absurd rfl h
  | cons a r =>
    have e : ∀ (a : Int) (r : List Int), (V.int a :: r.map V.int).getLastD .non = .int ((a :: r).getLastD 0) := by
      intro a r
      induction r generalizing a with
      | nil => rfl
      | cons b r ih => simpa using ih b
    exact e a r
/-- row[-1], sum(row[:-1]), row[k] -/
theorem ev_last {ns : List Int} (ha : Ev ta σ H x) (h : IL K H x ns) (h0 : ns ≠ []) : Ev (tOp (rIxL K) ta tNeg1) σ H (.int (ns.getLastD 0)) := by
  obtain ⟨a, rfl, hs⟩ := il_sq h
  refine ev_ixL ha ev_neg1 hs ?_
  rw [at_neg1 (d := V.non) (by simpa using h0), map_last h0]
theorem el_init {ns : List Int} (ha : Ev ta σ H x) (h : IL K H x ns) : EvL (tSl (rSlL K) ta tNoPart (tPart tNeg1)) σ H (ns.dropLast.map V.int) := by
  obtain ⟨a, rfl, hs⟩ := il_sq h
  have z := el_sl ha eo_none (eo_some ev_neg1) hs
  rw [cut_init (α := Int), ← List.map_dropLast] at z
  exact z
theorem el_rest {ns : List Int} (ha : Ev ta σ H x) (h : IL K H x ns) : EvL (tSl (rSlL K) ta (tPart (tC (.int 1))) tNoPart) σ H ((ns.drop 1).map V.int) := by
  obtain ⟨a, rfl, hs⟩ := il_sq h
  have z := el_sl (lo := some 1) ha (eo_some (te := tC (.int 1)) ev_c) eo_none hs
  rw [cut_tail, ← List.map_drop] at z
  exact z
theorem ev_sumI {ns : List Int} (ha : Ev ta σ H x) (h : IL K H x ns) : Ev (tCB (rSum K) (tCons ta tNil)) σ H (.int ns.sum) := by
  obtain ⟨a, rfl, hs⟩ := il_sq h
  exact ev_sum ha hs
theorem ev_minI {ns : List Int} (ha : Ev ta σ H x) (h : IL K H x ns) (h0 : ns ≠ []) : Ev (tCB (rMin K) (tCons ta tNil)) σ H (.int (lowest ns)) := by
  obtain ⟨a, rfl, hs⟩ := il_sq h
  exact ev_minS ha hs h0
theorem ev_at {ns : List Int} {k : Nat} (ha : Ev ta σ H x) (hb : Ev tb σ H (.int (k : Int))) (h : IL K H x ns) (hk : k < ns.length) : Ev (tOp (rIxL K) ta tb) σ H (.int (ns.getD k 0)) := by
  obtain ⟨a, rfl, hs⟩ := il_sq h
  exact ev_ixL ha hb hs (at_int hk)
/-- things in a list: an item, the last one, the cuts -/
theorem at_lof {α : Type} {D : Hp → V → α → Prop} {as : List α} {d : α} {k : Nat} (h : LOf K D H v as) (hk : k < as.length) : ∃ a vs x, v = .ref a ∧ SqL K H a vs ∧ atI vs (k : Int) = some x ∧ D H x (as.getD k d) := by
  obtain ⟨a, vs, e, hs, hp⟩ := h
  obtain ⟨x, h1, h2⟩ := pd_back hp (List.getElem?_eq_getElem hk)
  refine ⟨a, vs, x, e, hs, atI_nat h1, ?_⟩
  rw [List.getD_eq_getElem?_getD, List.getElem?_eq_getElem hk]
  exact h2
theorem last_lof {α : Type} {D : Hp → V → α → Prop} {as : List α} {d : α} (h : LOf K D H v as) (h0 : as ≠ []) : ∃ a vs x, v = .ref a ∧ SqL K H a vs ∧ atI vs (-1) = some x ∧ D H x (as.getLastD d) := by
  obtain ⟨a, vs, e, hs, hp⟩ := h
  have hl := pd_len hp
  have pos : 0 < as.length := List.length_pos_iff.mpr h0
  have hv : vs ≠ [] := fun z => by rw [z] at hl; simp at hl; omega
  refine ⟨a, vs, _, e, hs, at_neg1 (d := V.non) hv, ?_⟩
  have k1 : vs[vs.length - 1]? = some (vs.getLastD .non) := by
    cases vs with
    | nil => exact absurd rfl hv
    | cons b r => rw [← List.getLast?_eq_getElem?]; simp [List.getLastD, List.getLast?_eq_getLast]
  obtain ⟨b, h1, h2⟩ := pd_get hp k1
  have k2 : as[as.length - 1]? = some (as.getLastD d) := by
    cases as with
    | nil => exact absurd rfl h0
    | cons b r => rw [← List.getLast?_eq_getElem?]; simp [List.getLastD, List.getLast?_eq_getLast]
  rw [hl] at h1
  rw [k2] at h1
  cases h1
  exact h2
theorem src_init {α : Type} {S : Hp → V → α → Prop} {as : List α} (up : Up S) (h : Ev tl σ H v) (hd : LOf K S H v as) : Src K (tSl (rSlL K) tl tNoPart (tPart tNeg1)) σ H S as.dropLast := by
  obtain ⟨a, xs, rfl, hs, hp⟩ := hd
  have z := el_sl h eo_none (eo_some ev_neg1) hs
  rw [cut_init (α := α)] at z
  refine src_l up z ?_
  rw [List.dropLast_eq_take, List.dropLast_eq_take, pd_len hp]
  exact pd_take _ hp
/-! ### truths -/
noncomputable def tr (p : Prop) : Bool := @decide p (Classical.propDecidable p)
theorem tr_iff {p : Prop} : tr p = true ↔ p := by unfold tr; exact @decide_eq_true_iff p (Classical.propDecidable p)
theorem tr_of {p : Prop} {b : Bool} (h : b = true ↔ p) : b = tr p := by
  rw [Bool.eq_iff_iff, h, tr_iff]
theorem tr_yes {p : Prop} (h : p) : tr p = true := tr_iff.mpr h
theorem tr_no {p : Prop} (h : ¬ p) : tr p = false := by
  cases e : tr p with
  | false => rfl
  | true => exact absurd (tr_iff.mp e) h
/-- comprehensions of values of one kind -/
theorem el_lcG {α β : Type} {S : Hp → V → α → Prop} {as : List α} {vs : List Nat} {j : Nat} {g : β → V} {f : α → β} (src : Src K tl σ H S as) (hz : as.length ≤ 100000) (hw : ∀ x, wipe ((wipe σ vs).set j (some x)) vs = wipe σ vs)
    (he : ∀ H1, Same H H1 → ∀ (i : Nat) b x, as[i]? = some b → S H1 x b → Ev te ((wipe σ vs).set j (some x)) H1 (g (f b))) : EvL (tLc (iList K tl) (gName j) tYes te vs) σ H ((as.map f).map g) := by
  rw [List.map_map]
  exact el_lcF (F := g ∘ f) src hz hw he
theorem el_lcRG {β : Type} {n : Nat} {ta : TA} {vs : List Nat} {j : Nat} {g : β → V} {f : Nat → β} (src : EvA ta σ H [.int (n : Int)]) (hn : n ≤ 100000) (hw : ∀ x, wipe ((wipe σ vs).set j (some x)) vs = wipe σ vs)
    (he : ∀ H1, Same H H1 → ∀ (i : Nat), i < n → Ev te ((wipe σ vs).set j (some (.int (i : Int)))) H1 (g (f i))) : EvL (tLc (iRng1 ta) (gName j) tYes te vs) σ H (((List.range n).map f).map g) := by
  rw [List.map_map]
  have z := el_lcRF (F := g ∘ f) (te := te) src (by omega) hw (fun H1 e i hi => he H1 e i (by omega))
  rw [Int.toNat_natCast] at z
  exact z
end GK
/-! Items kept as they are; items that are cells, unpacked. -/
namespace GK
open PySem PySem.Spec PyProof.Rows L2 Evl
variable {K : PySem.W.Frag} {σ : L2.St} {H H' : Hp} {ta tb tc te tl : TE} {t : TT} {x y z v : V}
theorem pd_zip {α : Type} {F : V → α → Prop} : ∀ {xs : List V} {as : List α}, Paired F xs as → Paired (fun x (p : V × α) => x = p.1 ∧ F x p.2) xs (xs.zip as)
  | _, _, .nil => .nil
  | _, _, .cons r t => .cons ⟨rfl, r⟩ (pd_zip t)
theorem pd_filter {α : Type} {F : V → α → Prop} (f : α → Bool) : ∀ {xs : List V} {as : List α}, Paired F xs as → Paired F (((xs.zip as).filter fun p => f p.2).map (·.1)) (as.filter f)
  | _, _, .nil => .nil
  | _, _, .cons (a := x) (b := a) r t => by
    rw [List.zip_cons_cons, List.filter_cons, List.filter_cons]
    by_cases h : f a = true
    · rw [if_pos h, if_pos h]
      exact .cons r (pd_filter f t)
    · rw [if_neg h, if_neg h]
      exact pd_filter f t
/-- [x for x in xs if ..] -/
theorem lc_sub {α : Type} {S : Hp → V → α → Prop} {as : List α} {vs : List Nat} {j : Nat} {f : α → Bool} (up : Up S) (src : Src K tl σ H S as) (hz : as.length ≤ 100000) (hw : ∀ x, wipe ((wipe σ vs).set j (some x)) vs = wipe σ vs) (hj : ∀ x, ((wipe σ vs).set j (some x))[j]? = some (some x))
    (ht : ∀ H1, Same H H1 → ∀ (i : Nat) b x, as[i]? = some b → S H1 x b → EvT t ((wipe σ vs).set j (some x)) H1 (f b)) :
    ∀ H1, Same H H1 → ∀ Q : VK, (∀ p ys H2, H1 p = none → Same H1 H2 → H2 p = some (.lst ys) → Paired (S H2) ys (as.filter f) → Q (.ref p) H2) → tLc (iList K tl) (gName j) t (tVar j) vs σ H1 Q := fun H0 e Q q =>
  src H0 e _ fun a xs H1 e1 hs hp => ⟨a, rfl, ⟨xs, hs⟩, fun Dl hD => by
    have hp' := pd_zip hp
    have hl := pd_len hp
    refine lc_pureL (K := K) (a := a) (xs := xs) (fun x (p : V × α) => x = p.1 ∧ S H1 x p.2) hs (xs.zip as) hp' (by omega) hD (fun p => f p.2) (fun p _ v => v = p.1) (fun _ _ _ _ _ h => h) (fun i b x hb hx hS => ?_) (fun ys H2 e2 hl2 pd => ?_)
    · obtain ⟨rfl, hS⟩ := hS
      obtain ⟨c, hc, _⟩ := pd_get hp hx
      have hbc : b.2 = c := by
        have z := List.getElem?_zip_eq_some.mp hb
        rw [hc] at z
        exact (Option.some.inj z.2).symm
      refine el_if (fun _ _ _ _ h => h) (hw _) (ht H1 (e.trans e1) i b.2 b.1 (by rw [hbc]; exact hc) hS) (fun _ => en_of (ev_var (hj _)))
    · refine q Dl ys H2 (fresh_back e1 hD) (e1.trans e2) hl2 ?_
      rw [pd_eq (f := fun p : V × α => p.1) pd]
      exact pd_imp (fun x b r => up _ _ x b e2 r) (pd_filter f hp)⟩
/-- one turn over a cell, its two numbers unpacked -/
theorem el_cell {vs : List Nat} {i j : Nat} {D : Hp → V → Prop} {c : Int × Int} (hw : wipe (((wipe σ vs).set i (some (.int c.1))).set j (some (.int c.2))) vs = wipe σ vs) (hc : CellD K H x c)
    (h : EvN te (((wipe σ vs).set i (some (.int c.1))).set j (some (.int c.2))) H D) : El (gTup K 2 (gCons (gName i) (gCons (gName j) gNil))) tYes te vs σ H x true D := fun H' e N Y _ hY => by
  obtain ⟨a, rfl, hs⟩ := hc
  refine ⟨a, [.int c.1, .int c.2], rfl, st_mono e hs, rfl, .int c.1, [.int c.2], rfl, .int c.2, [], rfl, rfl, hw, yes_of ?_⟩
  exact h H' e Y (hY rfl)
/-- the same in a for -/
theorem g_cell {i j : Nat} {c : Int × Int} {R : L2.St → Hp → Prop} (hc : CellD K H x c) (h : R ((σ.set i (some (.int c.1))).set j (some (.int c.2))) H) : gTup K 2 (gCons (gName i) (gCons (gName j) gNil)) x σ H R := by
  obtain ⟨a, rfl, hs⟩ := hc
  exact ⟨a, [.int c.1, .int c.2], rfl, hs, rfl, .int c.1, [.int c.2], rfl, .int c.2, [], rfl, rfl, h⟩
/-- values of one kind over a source of cells -/
theorem el_lcC {β : Type} {as : List (Int × Int)} {vs : List Nat} {i j : Nat} {g : β → V} {f : Int × Int → β} (src : Src K tl σ H (CellD K) as) (hz : as.length ≤ 100000) (hw : ∀ x y, wipe (((wipe σ vs).set i (some x)).set j (some y)) vs = wipe σ vs)
    (he : ∀ H1, Same H H1 → ∀ c ∈ as, Ev te (((wipe σ vs).set i (some (.int c.1))).set j (some (.int c.2))) H1 (g (f c))) : EvL (tLc (iList K tl) (gTup K 2 (gCons (gName i) (gCons (gName j) gNil))) tYes te vs) σ H ((as.map f).map g) := by
  rw [List.map_map]
  refine el_fix (F := g ∘ f) ?_
  have h := en_lc (f := fun _ => true) (g := gTup K 2 (gCons (gName i) (gCons (gName j) gNil))) (t := tYes) (te := te) (vs := vs) (D := fun c _ v => v = (g ∘ f) c) src hz (fun _ _ _ _ _ h => h) fun H1 e k c x hb hs => el_cell (hw _ _) hs (en_of (he H1 e c (List.mem_of_getElem? hb)))
  rw [filter_yes] at h
  exact h
theorem tr_q {Q : VK} {b : Bool} {p : Prop} (z : Q (.bl (tr p)) H) (h : b = true ↔ p) : Q (.bl b) H := by
  rw [tr_of h]
  exact z
/-! ### statements as they stand -/
section
variable {D : Ends} {tz : TS} {i : Nat}
theorem q_set (h : te σ H fun x H1 => tz D (σ.set i (some x)) H1) : tSeq (tAsg te (gName i)) tz D σ H := h
theorem s_set (h : te σ H fun x H1 => D.nx (σ.set i (some x)) H1) : tAsg te (gName i) D σ H := h
theorem q_do (h : te σ H fun _ H1 => tz D σ H1) : tSeq (tDrop te) tz D σ H := h
theorem s_do (h : te σ H fun _ H1 => D.nx σ H1) : tDrop te D σ H := h
theorem s_give (h : te σ H D.rt) : tRet te D σ H := h
theorem q_seq {t u : TS} (h : t { D with nx := u D } σ H) : tSeq t u D σ H := h
/-- a call, by the promise and what its arguments are -/
theorem t_call {sp : Sp} {dvs vs : List V} {E : XK} {ta : TA} {Q : VK} (h : EvA ta σ H vs) (k : ∀ H1, Same H H1 → sp (vs ++ dvs) H1 Q E) : tCall sp dvs E ta σ H Q := h H (Same.refl _) _ fun H1 e => k H1 e
end
end GK
/-! New lists put together; a for over what an expression makes. -/
namespace GK
open PySem PySem.Spec PyProof.Rows L2 Evl
variable {K : PySem.W.Frag} {σ : L2.St} {H H' : Hp} {ta tb tc te tl : TE} {t : TT} {x y z v : V}
theorem nl_mono {α : Type} {D : Hp → V → α → Prop} {as : List α} (up : Up D) (e : Same H H') (h : NL D H v as) : NL D H' v as := by
  obtain ⟨p, ys, e1, h1, h2⟩ := h
  exact ⟨p, ys, e1, e _ _ h1, pd_imp (fun x a r => up _ _ x a e r) h2⟩
theorem en_cat {α : Type} {S : Hp → V → α → Prop} {as bs : List α} (up : Up S) (ha : EvN ta σ H (fun H' v => NL S H' v as)) (hb : EvN tb σ H (fun H' v => NL S H' v bs)) (hz : as.length + bs.length ≤ 100000) : EvN (tOp rCat ta tb) σ H (fun H' v => NL S H' v (as ++ bs)) := fun H1 e Q q =>
  ha H1 e _ fun v H2 e2 ⟨p, ys, ev, hp, hpd⟩ => hb H2 (e.trans e2) _ fun v' H3 e3 ⟨p', ys', ev', hp', hpd'⟩ => by
    subst ev ev'
    have k1 := (dif_some.mp hp).2
    have k2 := (dif_some.mp hp').2
    refine ⟨p, p', ys, ys', rfl, rfl, e3 _ _ k1, k2, ?_, fun l hl => q _ _ ((e2.trans e3).trans (same_new hl)) ⟨l, ys ++ ys', rfl, dif_some.mpr ⟨(e2.trans e3).free hl, upd_same⟩, ?_⟩⟩
    · rw [pd_len hpd, pd_len hpd']
      exact sz_of hz
    · exact pd_append (pd_imp (fun x a r => up _ _ x a (dif_mono (Same.refl _) (Same.trans e3 (same_new hl))) r) hpd) (pd_imp (fun x a r => up _ _ x a (dif_mono e2 (same_new hl)) r) hpd')
theorem en_lst1 {α : Type} {S : Hp → V → α → Prop} {a : α} (up : Up S) (ha : EvN te σ H (fun H' v => S H' v a)) : EvN (tLst (tCons te tNil)) σ H (fun H' v => NL S H' v [a]) := fun H1 e Q q =>
  ha H1 e _ fun v H2 e2 hv => ⟨by show 1 ≤ sizeLine; decide, fun p hp => q _ _ (e2.trans (same_new hp)) ⟨p, [v], rfl, dif_some.mpr ⟨e2.free hp, upd_same⟩, .cons (up _ _ _ _ (dif_mono (Same.refl _) (same_new hp)) hv) .nil⟩⟩
theorem src_nl {α : Type} {S : Hp → V → α → Prop} {as : List α} (up : Up S) (h : EvN tl σ H (fun H' v => NL S H' v as)) : Src K tl σ H S as := src_new up (h.imp fun _ _ z => z.lof)
/-- a for over it; H1: the heap behind the making -/
theorem for_src {g : TG} {ts : TS} {D : Ends} {α : Type} {S : Hp → V → α → Prop} {as : List α} (up : Up S) (src : Src K tl σ H S as) (Pv : Hp → Nat → L2.St → Hp → Prop) (h0 : ∀ H1, Same H H1 → Pv H1 0 σ H1) (hP : ∀ H1 i σ' H', Pv H1 i σ' H' → Same H1 H')
    (hs : ∀ H1, Same H H1 → ∀ (i : Nat) x a σ' H', as[i]? = some a → S H' x a → Pv H1 i σ' H' → g x σ' H' fun σ2 H2 => ts { D with nx := Pv H1 (i + 1), ct := Pv H1 (i + 1), bk := D.nx } σ2 H2)
    (hd : ∀ H1, Same H H1 → ∀ σ' H', Pv H1 as.length σ' H' → D.nx σ' H') : tFor (iList K tl) g ts D σ H :=
  src H (Same.refl _) _ fun a xs H1 e1 hq hp => ⟨a, rfl, ⟨xs, hq⟩, for_list (xs := xs) (Pv H1) (h0 H1 e1) (fun i σ' H' _ p => sq_mono (hP H1 i σ' H' p) hq) (fun i x σ' H' hx p => by
    obtain ⟨b, hb, hS⟩ := pd_get hp hx
    exact hs H1 e1 i x b σ' H' hb (up _ _ _ _ (hP H1 i σ' H' p) hS) p) (fun σ' H' p => hd H1 e1 σ' H' (by rw [← pd_len hp]; exact p))⟩
/-- (a, b) not in cells -/
theorem ev_notInC {ta : TA} {c : Int × Int} {cs : List (Int × Int)} (ha : EvU (tTup ta) σ H [.int c.1, .int c.2]) (hb : Ev tb σ H v) (h : CL K H v cs) : Ev (tOp (rNotInD K) (tTup ta) tb) σ H (.bl (!decide (c ∈ cs))) := fun H1 e Q q =>
  ha H1 e _ fun p H2 hp e2 hu => hb H2 (e.trans e2) _ fun H3 e3 => ⟨cellP c, cs.map cellP, dp_cell ⟨p, rfl, SqT.of (e3 _ _ hu)⟩, dp_cl (up_cl _ _ _ _ ((e.trans e2).trans e3) h), shp_cell c, shp_cells cs, by
    rw [any_cell]
    exact q H3 (e2.trans e3)⟩
end GK
/-! Tables of one's own that are changed by place; a list of ints at r that draws change. -/
namespace GK
open PySem PySem.Spec PyProof.Rows L2 Evl
variable {K : PySem.W.Frag} {σ : L2.St} {H H' H0 H1 H2 : Hp} {ta tb tc te tl : TE} {t : TT} {x y z v : V}
/-! ### the state of draws: a list of three ints at r -/
def Rng (H : Hp) (r : Addr) : Prop := ∃ a b c : Int, H r = some (.lst [.int a, .int b, .int c])
/-- all but it stays -/
structure Fr (r : Addr) (H H' : Hp) : Prop where
  same : Same (off r H) (off r H')
  rng : Rng H' r
theorem Fr.trans {r : Addr} (a : Fr r H H1) (b : Fr r H1 H2) : Fr r H H2 := ⟨a.same.trans b.same, b.rng⟩
theorem Fr.of {r : Addr} (h : Rng H r) (e : Same H H') : Fr r H H' := ⟨off_mono e, by obtain ⟨a, b, c, h⟩ := h; exact ⟨a, b, c, e _ _ h⟩⟩
theorem Rng.up {r : Addr} (h : Rng H r) (e : Same H H') : Rng H' r := by obtain ⟨a, b, c, h⟩ := h; exact ⟨a, b, c, e _ _ h⟩
theorem Fr.then {r : Addr} (a : Fr r H H1) (e : Same H1 H2) : Fr r H H2 := a.trans (Fr.of a.rng e)
theorem Fr.refl {r : Addr} (h : Rng H r) : Fr r H H := Fr.of h (Same.refl _)
/-- what is new since H0 is kept -/
theorem Fr.dif {r : Addr} {o : HO} (h : H0 r = some o) (a : Fr r H H') : Same (dif H0 H) (dif H0 H') := fun c u hc => by
  obtain ⟨c1, c2⟩ := dif_some.mp hc
  have n : c ≠ r := fun z => by subst z; rw [h] at c1; cases c1
  exact dif_some.mpr ⟨c1, (off_some.mp (a.same c u (off_some.mpr ⟨n, c2⟩))).2⟩
/-- a thing unknown to H is changed -/
theorem Fr.mut {r p : Addr} {o : HO} (a : Fr r H H') (h : H p = none) (n : p ≠ r) : Fr r H (upd H' p o) := by
  refine ⟨fun c u hc => ?_, ?_⟩
  · obtain ⟨c1, c2⟩ := off_some.mp hc
    have z := off_some.mp (a.same c u hc)
    exact off_some.mpr ⟨c1, by rw [upd_ne (ne_of_none c2 h)]; exact z.2⟩
  · obtain ⟨x, y, z, e⟩ := a.rng
    exact ⟨x, y, z, by rw [upd_ne (Ne.symm n)]; exact e⟩
theorem dif_refl_none (H : Hp) : ∀ a, dif H H a = none := fun a => by
  unfold dif
  cases h : H a <;> simp
/-! ### a table of one's own -/
structure MT (H : Hp) (o : Addr) (rs : List Addr) (M : List (List Int)) : Prop where
  top : H o = some (.lst (rs.map V.ref))
  out : o ∉ rs
  nd : rs.Nodup
  rows : Paired (fun r row => H r = some (.lst (row.map V.int))) rs M
theorem MT.up {o : Addr} {rs : List Addr} {M : List (List Int)} (m : MT H o rs M) (e : Same H H') : MT H' o rs M := ⟨e _ _ m.top, m.out, m.nd, pd_imp (fun r row h => e _ _ h) m.rows⟩
theorem pd_impM {α β : Type} {F G : α → β → Prop} : ∀ {xs : List α} {as : List β}, (∀ x ∈ xs, ∀ a, F x a → G x a) → Paired F xs as → Paired G xs as
  | _, _, _, .nil => .nil
  | _, _, f, .cons r t => .cons (f _ List.mem_cons_self _ r) (pd_impM (fun x hx => f x (List.mem_cons_of_mem _ hx)) t)
theorem pd_mapL {α β γ : Type} {F : γ → β → Prop} {f : α → γ} : ∀ {xs : List α} {as : List β}, Paired (fun x a => F (f x) a) xs as → Paired F (xs.map f) as
  | _, _, .nil => .nil
  | _, _, .cons r t => .cons r (pd_mapL t)
theorem MT.tab {o : Addr} {rs : List Addr} {M : List (List Int)} (m : MT H o rs M) : TL K H (.ref o) M :=
  ⟨o, rs.map V.ref, rfl, SqL.of m.top, pd_mapL (pd_imp (fun r row h => il_of (SqL.of h)) m.rows)⟩
theorem MT.nl {o : Addr} {rs : List Addr} {M : List (List Int)} (m : MT H o rs M) : NL (IL K) H (.ref o) M :=
  ⟨o, rs.map V.ref, rfl, m.top, pd_mapL (pd_imp (fun r row h => il_of (SqL.of h)) m.rows)⟩
theorem pd_split {α β : Type} {F : α → β → Prop} {xs : List α} {as : List β} {i : Nat} {x : α} {a : β} {G : α → β → Prop} (h : Paired F xs as) (hx : xs[i]? = some x) (ha : as[i]? = some a) (hn : xs.Nodup) {a' : β} (f : ∀ y b, y ≠ x → F y b → G y b) (g : G x a') : Paired G xs (as.set i a') := by
  refine pd_ix (by rw [List.length_set]; exact pd_len h) fun j y b hy hb => ?_
  by_cases e : j = i
  · subst e
    rw [hx] at hy
    cases hy
    have lt : j < as.length := (List.getElem?_eq_some_iff.mp ha).1
    rw [List.getElem?_set_self lt] at hb
    cases hb
    exact g
  · rw [List.getElem?_set_ne (fun z => e z.symm)] at hb
    obtain ⟨c, hc, hF⟩ := pd_get h hy
    rw [hc] at hb
    cases hb
    refine f y _ (fun z => ?_) hF
    subst z
    exact e (nd_ix hn hy hx)
/-- M[i][j] = n -/
theorem MT.set {o r : Addr} {rs : List Addr} {M : List (List Int)} {i j : Nat} {row : List Int} {n : Int} (m : MT H o rs M) (hr : rs[i]? = some r) (hrow : M[i]? = some row) : MT (upd H r (.lst ((row.set j n).map V.int))) o rs (M.set i (row.set j n)) := by
  have hro : o ≠ r := fun z => m.out (by rw [z]; exact List.mem_of_getElem? hr)
  refine ⟨by rw [upd_ne hro]; exact m.top, m.out, m.nd, pd_split m.rows hr hrow m.nd (fun y b hy h => ?_) upd_same⟩
  rw [upd_ne hy]
  exact h
theorem dif_upd {p : Addr} {o : HO} (h : H0 p = none) : dif H0 (upd H p o) = upd (dif H0 H) p o := by
  funext a
  by_cases e : a = p
  · subst e
    rw [upd_same]
    exact dif_some.mpr ⟨h, upd_same⟩
  · rw [upd_ne e]
    unfold dif
    rw [upd_ne e]
/-- the same, told of what is new since H0 -/
theorem MT.setD {o r : Addr} {rs : List Addr} {M : List (List Int)} {i j : Nat} {row : List Int} {n : Int} (m : MT (dif H0 H) o rs M) (hr : rs[i]? = some r) (hrow : M[i]? = some row) : MT (dif H0 (upd H r (.lst ((row.set j n).map V.int)))) o rs (M.set i (row.set j n)) := by
  obtain ⟨row', h1, h2⟩ := pd_get m.rows hr
  rw [dif_upd (dif_some.mp h2).1]
  exact m.set hr hrow
theorem MT.row {o : Addr} {rs : List Addr} {M : List (List Int)} {i : Nat} (m : MT H o rs M) (hi : i < M.length) : ∃ r, rs[i]? = some r ∧ M[i]? = some (M.getD i []) ∧ H r = some (.lst ((M.getD i []).map V.int)) := by
  have e : M[i]? = some (M.getD i []) := by rw [List.getD_eq_getElem?_getD, List.getElem?_eq_getElem hi]; rfl
  obtain ⟨r, h1, h2⟩ := pd_back m.rows e
  exact ⟨r, h1, e, h2⟩
/-! ### [list(row) ..], [row[:-1] ..]: a table of one's own is made -/
theorem lc_own {α : Type} {S : Hp → V → α → Prop} {as : List α} {vs : List Nat} {j : Nat} {F : α → List Int} (src : Src K tl σ H S as) (hz : as.length ≤ 100000) (hw : ∀ x, wipe ((wipe σ vs).set j (some x)) vs = wipe σ vs)
    (he : ∀ H1, Same H H1 → ∀ (i : Nat) b x, as[i]? = some b → S H1 x b → EvL te ((wipe σ vs).set j (some x)) H1 ((F b).map V.int)) (up : Up S) :
    ∀ H1, Same H H1 → ∀ Q : VK, (∀ o rs H2, Same H1 H2 → MT (dif H1 H2) o rs (as.map F) → Q (.ref o) H2) → tLc (iList K tl) (gName j) tYes te vs σ H1 Q := fun H0 e Q q =>
  src H0 e _ fun a xs H1 e1 hs hp => ⟨a, rfl, ⟨xs, hs⟩, fun Dl hD => by
    have hl := pd_len hp
    let Pv : Nat → Hp → Prop := fun i H2 => Same H1 H2 ∧ ∃ rs, H2 Dl = some (.lst (rs.map V.ref)) ∧ Dl ∉ rs ∧ rs.Nodup ∧ Paired (fun r row => H1 r = none ∧ H2 r = some (.lst (row.map V.int))) rs ((as.take i).map F)
    refine lc_list (xs := xs) Pv ⟨same_new hD, [], upd_same, by simp, List.nodup_nil, by rw [List.take_zero]; exact .nil⟩ (fun i H2 _ p => sq_mono p.1 hs) (fun i x H2 hx p => ?_) (fun H2 p => ?_)
    · obtain ⟨e2, rs, hD2, out, nd, pd⟩ := p
      obtain ⟨b, hb, hS⟩ := pd_get hp hx
      have tk : as.take (i + 1) = as.take i ++ [b] := by rw [List.take_succ, hb]; rfl
      refine ⟨hw x, yes_of ?_⟩
      refine he H2 (e.trans (e1.trans e2)) i b x hb (up _ _ _ _ e2 hS) H2 (Same.refl _) _ fun r H3 hr e3 h3 => ?_
      have nrD : Dl ≠ r := fun z => by subst z; rw [hD2] at hr; cases hr
      have nr : r ∉ rs := fun z => by
        obtain ⟨row, _, _, h4⟩ := pd_mem pd z
        rw [hr] at h4
        cases h4
      refine ⟨rs.map V.ref, e3 _ _ hD2, ?_, same_mut (e2.trans e3) hD, rs ++ [r], ?_, ?_, ?_, ?_⟩
      · have h5 := pd_len pd
        rw [List.length_map, List.length_take] at h5
        rw [List.length_map, h5]
        exact Nat.lt_of_le_of_lt (by omega : min i as.length ≤ 100000) (by decide)
      · rw [upd_same, List.map_append]; rfl
      · intro z
        rcases List.mem_append.mp z with z | z
        · exact out z
        · exact nrD (List.mem_singleton.mp z)
      · rw [List.nodup_append]
        exact ⟨nd, by simp, fun c hc d hd => by rw [List.mem_singleton.mp hd]; exact fun z => nr (by rw [← z]; exact hc)⟩
      · rw [tk, List.map_append]
        refine pd_snoc (pd_impM (fun c hc row h => ⟨h.1, ?_⟩) pd) ⟨e2.free hr, by rw [upd_ne (Ne.symm nrD)]; exact h3⟩
        rw [upd_ne fun z => out (by rw [← z]; exact hc)]
        exact e3 _ _ h.2
    · obtain ⟨e2, rs, hD2, out, nd, pd⟩ := p
      rw [hl, List.take_length] at pd
      exact q Dl rs H2 (e1.trans e2) ⟨dif_some.mpr ⟨fresh_back e1 hD, hD2⟩, out, nd, pd_imp (fun r row h => dif_some.mpr ⟨fresh_back e1 h.1, h.2⟩) pd⟩⟩
end GK
/-! Comprehensions whose turns draw. -/
namespace GK
open PySem PySem.Spec PyProof.Rows L2 Evl
variable {K : PySem.W.Frag} {σ : L2.St} {H H' H0 H1 H2 : Hp} {ta tb tc te tl : TE} {t : TT} {x y z v : V}
theorem fr_off_dif {r Dl : Addr} {o : HO} {Ha Hb : Hp} (h : H1 r = some o) (f : Fr r Ha Hb) : Same (dif H1 (off Dl Ha)) (dif H1 (off Dl Hb)) := fun c u hc => by
  obtain ⟨c1, c2⟩ := dif_some.mp hc
  obtain ⟨c3, c4⟩ := off_some.mp c2
  have n : c ≠ r := fun z => by subst z; rw [h] at c1; cases c1
  exact dif_some.mpr ⟨c1, off_some.mpr ⟨c3, (off_some.mp (f.same c u (off_some.mpr ⟨n, c4⟩))).2⟩⟩
theorem fr_free {r a : Addr} {o : HO} (h : H r = some o) (f : Fr r H H') (n : H' a = none) : H a = none := by
  by_cases e : a = r
  · subst e
    obtain ⟨x, y, z, h1⟩ := f.rng
    rw [h1] at n
    cases n
  · cases q : H a with
    | none => rfl
    | some u =>
      rw [(off_some.mp (f.same a u (off_some.mpr ⟨e, q⟩))).2] at n
      cases n
theorem fr_keep {r a : Addr} {o : HO} (f : Fr r H H') (n : a ≠ r) (h : H a = some o) : H' a = some o := (off_some.mp (f.same a o (off_some.mpr ⟨n, h⟩))).2
theorem lc_fr {r Dl : Addr} {o : HO} {lo : Int} {m : Nat} {vs : List Nat} {j : Nat} {Qd : Hp → Prop} (hr : H1 r = some o) (hR : Rng H1 r) (hD : H1 Dl = none) (hz : m ≤ 100000) (D : Hp → V → Prop) (up : ∀ H H' v, Same H H' → D H v → D H' v) (hw : ∀ x, wipe ((wipe σ vs).set j (some x)) vs = wipe σ vs)
    (el : ∀ i H', i < m → Fr r H1 H' → ∀ Y : V → Hp → Prop, (∀ y H2, Fr r H' H2 → D (dif H' H2) y → Y y H2) → te ((wipe σ vs).set j (some (.int (lo + (i : Nat))))) H' Y)
    (done : ∀ ys H2, Fr r H1 H2 → H2 Dl = some (.lst ys) → ys.length = m → (∀ y ∈ ys, D (dif H1 (off Dl H2)) y) → Qd H2) :
    ∃ W : Nat → Nat → Hp → Prop, (∃ m, W 0 m (upd H1 Dl (.lst []))) ∧ ∀ i k H, W i k H →
      ((Itr lo m).stop i H ∧ Qd H) ∨ ((Itr lo m).go i H ∧ ∃ Nx : Hp → Prop, (∀ H', Nx H' → ∃ m', m' < k ∧ W (i + 1) m' H') ∧ ∀ x H', (Itr lo m).yld i H x H' → gName j x (wipe σ vs) H' fun σ2 H2 => wipe σ2 vs = wipe σ vs ∧ tYes σ2 H2 fun b H3 =>
        if b = true then te σ2 H3 fun y H4 => ∃ acc, H4 Dl = some (.lst acc) ∧ acc.length < sizeLine ∧ Nx (upd H4 Dl (.lst (acc ++ [y]))) else Nx H3) := by
  have nD : Dl ≠ r := fun z => by subst z; rw [hr] at hD; cases hD
  refine lc_range (fun i H => Fr r H1 H ∧ ∃ ys, H Dl = some (.lst ys) ∧ ys.length = i ∧ ∀ y ∈ ys, D (dif H1 (off Dl H)) y) ⟨Fr.of hR (same_new hD), [], upd_same, rfl, fun y hy => (by cases hy)⟩ (fun i H2 hi p => ?_) (fun H2 p => ?_)
  · obtain ⟨f, ys, hl, len, all⟩ := p
    refine ⟨hw _, yes_of ?_⟩
    refine el i H2 hi f _ fun y H3 f3 hy => ⟨ys, fr_keep f3 nD hl, Nat.lt_of_le_of_lt (by omega : ys.length ≤ 100000) (by decide), (f.trans f3).mut hD nD, ys ++ [y], upd_same, by rw [List.length_append, len]; rfl, fun z hz => ?_⟩
    rw [off_upd]
    rcases List.mem_append.mp hz with q | q
    · exact up _ _ _ (fr_off_dif hr f3) (all z q)
    · rw [List.mem_singleton.mp q]
      refine up _ _ _ (fun c u hc => ?_) hy
      obtain ⟨c1, c2⟩ := dif_some.mp hc
      exact dif_some.mpr ⟨fr_free hr f c1, off_some.mpr ⟨fun e => (by subst e; rw [hl] at c1; cases c1), c2⟩⟩
  · obtain ⟨f, ys, hl, len, all⟩ := p
    exact done ys H2 f hl len all
/-- data for each -/
theorem pd_choose {α : Type} {F : V → α → Prop} {G : α → Prop} : ∀ {ys : List V}, (∀ y ∈ ys, ∃ a, G a ∧ F y a) → ∃ as, Paired F ys as ∧ ∀ a ∈ as, G a
  | [], _ => ⟨[], .nil, fun a h => (by cases h)⟩
  | y :: ys, h => by
    obtain ⟨a, g, f⟩ := h y List.mem_cons_self
    obtain ⟨as, h1, h2⟩ := pd_choose fun z hz => h z (List.mem_cons_of_mem _ hz)
    refine ⟨a :: as, .cons f h1, fun b hb => ?_⟩
    rcases List.mem_cons.mp hb with e | e
    · rw [e]; exact g
    · exact h2 b e
end GK
namespace S38
open PySem PySem.Spec PyProof.Rows L2
def topS (i : Nat) : Stmt := PySem.Challenge.pw_skiphall_k38_tables_that_fit_but_for_one.main.body.getD i (.Pass ⟨0, 0, 0, 0⟩)
abbrev s_is_cell : Stmt := topS 5
theorem sc_is_cell : FnScope ["grid", "cell"] ["grid", "cell"] (defScope s_is_cell) := ⟨rfl, rfl, rfl, by decide +kernel, rfl, by decide +kernel, by decide +kernel⟩
abbrev s_asked_hidden : Stmt := topS 6
theorem sc_asked_hidden : FnScope ["grid", "hidden", "cell"] ["grid", "hidden"] (defScope s_asked_hidden) := ⟨rfl, rfl, rfl, by decide +kernel, rfl, by decide +kernel, by decide +kernel⟩
abbrev s_all_cells : Stmt := topS 7
theorem sc_all_cells : FnScope ["grid", "row", "column"] ["grid"] (defScope s_all_cells) := ⟨rfl, rfl, rfl, by decide +kernel, rfl, by decide +kernel, by decide +kernel⟩
abbrev s_sums_right : Stmt := topS 8
theorem sc_sums_right : FnScope ["table", "row", "k"] ["table"] (defScope s_sums_right) := ⟨rfl, rfl, rfl, by decide +kernel, rfl, by decide +kernel, by decide +kernel⟩
abbrev s_fits : Stmt := topS 9
theorem sc_fits : FnScope ["grid", "hidden", "table", "cells", "shown", "cell", "row", "column"] ["grid", "hidden", "table"] (defScope s_fits) := ⟨rfl, rfl, rfl, by decide +kernel, rfl, by decide +kernel, by decide +kernel⟩
abbrev s__law_cell : Stmt := topS 11
theorem sc__law_cell : FnScope ["_law_script", "_law_index"] ["_law_script", "_law_index"] (defScope s__law_cell) := ⟨rfl, rfl, rfl, by decide +kernel, rfl, by decide +kernel, by decide +kernel⟩
abbrev s__law_rng : Stmt := topS 12
theorem sc__law_rng : FnScope ["_law_cell_here"] ["_law_cell_here"] (defScope s__law_rng) := ⟨rfl, rfl, rfl, by decide +kernel, rfl, by decide +kernel, by decide +kernel⟩
abbrev s__law_draw : Stmt := topS 13
theorem sc__law_draw : FnScope ["_law_rng_here", "_law_limit", "_law_digit", "_law_mixed"] ["_law_rng_here", "_law_limit"] (defScope s__law_draw) := ⟨rfl, rfl, rfl, by decide +kernel, rfl, by decide +kernel, by decide +kernel⟩
abbrev s__law_pick : Stmt := topS 14
theorem sc__law_pick : FnScope ["_law_rng_here", "_law_items"] ["_law_rng_here", "_law_items"] (defScope s__law_pick) := ⟨rfl, rfl, rfl, by decide +kernel, rfl, by decide +kernel, by decide +kernel⟩
abbrev s__law_sample : Stmt := topS 15
theorem sc__law_sample : FnScope ["_law_rng_here", "_law_items", "_law_count", "_law_left", "_law_index"] ["_law_rng_here", "_law_items", "_law_count"] (defScope s__law_sample) := ⟨rfl, rfl, rfl, by decide +kernel, rfl, by decide +kernel, by decide +kernel⟩
abbrev s__law_with_sums : Stmt := topS 16
theorem sc__law_with_sums : FnScope ["_law_cells_here", "_law_rows", "_law_row", "_law_column"] ["_law_cells_here"] (defScope s__law_with_sums) := ⟨rfl, rfl, rfl, by decide +kernel, rfl, by decide +kernel, by decide +kernel⟩
abbrev s__law_random_grid : Stmt := topS 17
theorem sc__law_random_grid : FnScope ["_law_rng_here", "_law_count", "_law_limit", "_law_row", "_law_column"] ["_law_rng_here"] (defScope s__law_random_grid) := ⟨rfl, rfl, rfl, by decide +kernel, rfl, by decide +kernel, by decide +kernel⟩
abbrev s__law_cells : Stmt := topS 18
theorem sc__law_cells : FnScope ["_law_grid", "_law_result", "_law_row", "_law_column"] ["_law_grid"] (defScope s__law_cells) := ⟨rfl, rfl, rfl, by decide +kernel, rfl, by decide +kernel, by decide +kernel⟩
abbrev s__law_random_hidden : Stmt := topS 19
theorem sc__law_random_hidden : FnScope ["_law_rng_here", "_law_grid", "_law_cells_here", "_law_way", "_law_hidden"] ["_law_rng_here", "_law_grid"] (defScope s__law_random_hidden) := ⟨rfl, rfl, rfl, by decide +kernel, rfl, by decide +kernel, by decide +kernel⟩
abbrev s__law_fits : Stmt := topS 20
theorem sc__law_fits : FnScope ["_law_grid", "_law_hidden", "_law_table", "_law_row", "_law_column"] ["_law_grid", "_law_hidden", "_law_table"] (defScope s__law_fits) := ⟨rfl, rfl, rfl, by decide +kernel, rfl, by decide +kernel, by decide +kernel⟩
abbrev s__law_shifted : Stmt := topS 21
theorem sc__law_shifted : FnScope ["_law_rng_here", "_law_grid", "_law_hidden", "_law_table", "_law_attempt", "_law_changed", "_law_row"] ["_law_rng_here", "_law_grid", "_law_hidden"] (defScope s__law_shifted) := ⟨rfl, rfl, rfl, by decide +kernel, rfl, by decide +kernel, by decide +kernel⟩
abbrev s__law_square : Stmt := topS 22
theorem sc__law_square : FnScope ["_law_rng_here", "_law_table", "_law_much", "_law_result", "_law_first", "_law_second", "_law_left", "_law_right", "_law_row"] ["_law_rng_here", "_law_table", "_law_much"] (defScope s__law_square) := ⟨rfl, rfl, rfl, by decide +kernel, rfl, by decide +kernel, by decide +kernel⟩
abbrev s__law_broken : Stmt := topS 23
theorem sc__law_broken : FnScope ["_law_rng_here", "_law_grid", "_law_table", "_law_result", "_law_row", "_law_column", "_law_other", "_law_way", "_law_cells_here", "_law_line", "_law_number"] ["_law_rng_here", "_law_grid", "_law_table"] (defScope s__law_broken) := ⟨rfl, rfl, rfl, by decide +kernel, rfl, by decide +kernel, by decide +kernel⟩
abbrev s_law : Stmt := topS 24
theorem sc_law : FnScope ["_law_script", "_law_cell_here", "_law_rng_here", "_law_grid", "_law_hidden", "_law_table", "_law_copies", "_law_attempt", "_law_changed", "_law_some", "_law_row"] ["_law_script"] (defScope s_law) := ⟨rfl, rfl, rfl, by decide +kernel, rfl, by decide +kernel, by decide +kernel⟩
structure Txt (K : PySem.W.Frag) (mg : Str → Option Value) where
  a_is_cell : Addr
  d_is_cell : FuncData
  F_is_cell : Fun K "is_cell" "is_cell" s_is_cell a_is_cell d_is_cell
  g_is_cell : mg "is_cell" = some (.ref a_is_cell)
  b_is_cell : Binds K d_is_cell ["grid", "cell"] []
  a_asked_hidden : Addr
  d_asked_hidden : FuncData
  F_asked_hidden : Fun K "asked_hidden" "asked_hidden" s_asked_hidden a_asked_hidden d_asked_hidden
  g_asked_hidden : mg "asked_hidden" = some (.ref a_asked_hidden)
  b_asked_hidden : Binds K d_asked_hidden ["grid", "hidden"] []
  a_all_cells : Addr
  d_all_cells : FuncData
  F_all_cells : Fun K "all_cells" "all_cells" s_all_cells a_all_cells d_all_cells
  g_all_cells : mg "all_cells" = some (.ref a_all_cells)
  b_all_cells : Binds K d_all_cells ["grid"] []
  a_sums_right : Addr
  d_sums_right : FuncData
  F_sums_right : Fun K "sums_right" "sums_right" s_sums_right a_sums_right d_sums_right
  g_sums_right : mg "sums_right" = some (.ref a_sums_right)
  b_sums_right : Binds K d_sums_right ["table"] []
  a_fits : Addr
  d_fits : FuncData
  F_fits : Fun K "fits" "fits" s_fits a_fits d_fits
  g_fits : mg "fits" = some (.ref a_fits)
  b_fits : Binds K d_fits ["grid", "hidden", "table"] []
  a__law_cell : Addr
  d__law_cell : FuncData
  F__law_cell : Fun K "_law_cell" "_law_cell" s__law_cell a__law_cell d__law_cell
  g__law_cell : mg "_law_cell" = some (.ref a__law_cell)
  b__law_cell : Binds K d__law_cell ["_law_script", "_law_index"] []
  a__law_rng : Addr
  d__law_rng : FuncData
  F__law_rng : Fun K "_law_rng" "_law_rng" s__law_rng a__law_rng d__law_rng
  g__law_rng : mg "_law_rng" = some (.ref a__law_rng)
  b__law_rng : Binds K d__law_rng ["_law_cell_here"] []
  a__law_draw : Addr
  d__law_draw : FuncData
  F__law_draw : Fun K "_law_draw" "_law_draw" s__law_draw a__law_draw d__law_draw
  g__law_draw : mg "_law_draw" = some (.ref a__law_draw)
  b__law_draw : Binds K d__law_draw ["_law_rng_here", "_law_limit"] []
  a__law_pick : Addr
  d__law_pick : FuncData
  F__law_pick : Fun K "_law_pick" "_law_pick" s__law_pick a__law_pick d__law_pick
  g__law_pick : mg "_law_pick" = some (.ref a__law_pick)
  b__law_pick : Binds K d__law_pick ["_law_rng_here", "_law_items"] []
  a__law_sample : Addr
  d__law_sample : FuncData
  F__law_sample : Fun K "_law_sample" "_law_sample" s__law_sample a__law_sample d__law_sample
  g__law_sample : mg "_law_sample" = some (.ref a__law_sample)
  b__law_sample : Binds K d__law_sample ["_law_rng_here", "_law_items", "_law_count"] []
  a__law_with_sums : Addr
  d__law_with_sums : FuncData
  F__law_with_sums : Fun K "_law_with_sums" "_law_with_sums" s__law_with_sums a__law_with_sums d__law_with_sums
  g__law_with_sums : mg "_law_with_sums" = some (.ref a__law_with_sums)
  b__law_with_sums : Binds K d__law_with_sums ["_law_cells_here"] []
  a__law_random_grid : Addr
  d__law_random_grid : FuncData
  F__law_random_grid : Fun K "_law_random_grid" "_law_random_grid" s__law_random_grid a__law_random_grid d__law_random_grid
  g__law_random_grid : mg "_law_random_grid" = some (.ref a__law_random_grid)
  b__law_random_grid : Binds K d__law_random_grid ["_law_rng_here"] []
  a__law_cells : Addr
  d__law_cells : FuncData
  F__law_cells : Fun K "_law_cells" "_law_cells" s__law_cells a__law_cells d__law_cells
  g__law_cells : mg "_law_cells" = some (.ref a__law_cells)
  b__law_cells : Binds K d__law_cells ["_law_grid"] []
  a__law_random_hidden : Addr
  d__law_random_hidden : FuncData
  F__law_random_hidden : Fun K "_law_random_hidden" "_law_random_hidden" s__law_random_hidden a__law_random_hidden d__law_random_hidden
  g__law_random_hidden : mg "_law_random_hidden" = some (.ref a__law_random_hidden)
  b__law_random_hidden : Binds K d__law_random_hidden ["_law_rng_here", "_law_grid"] []
  a__law_fits : Addr
  d__law_fits : FuncData
  F__law_fits : Fun K "_law_fits" "_law_fits" s__law_fits a__law_fits d__law_fits
  g__law_fits : mg "_law_fits" = some (.ref a__law_fits)
  b__law_fits : Binds K d__law_fits ["_law_grid", "_law_hidden", "_law_table"] []
  a__law_shifted : Addr
  d__law_shifted : FuncData
  F__law_shifted : Fun K "_law_shifted" "_law_shifted" s__law_shifted a__law_shifted d__law_shifted
  g__law_shifted : mg "_law_shifted" = some (.ref a__law_shifted)
  b__law_shifted : Binds K d__law_shifted ["_law_rng_here", "_law_grid", "_law_hidden"] []
  a__law_square : Addr
  d__law_square : FuncData
  F__law_square : Fun K "_law_square" "_law_square" s__law_square a__law_square d__law_square
  g__law_square : mg "_law_square" = some (.ref a__law_square)
  b__law_square : Binds K d__law_square ["_law_rng_here", "_law_table", "_law_much"] []
  a__law_broken : Addr
  d__law_broken : FuncData
  F__law_broken : Fun K "_law_broken" "_law_broken" s__law_broken a__law_broken d__law_broken
  g__law_broken : mg "_law_broken" = some (.ref a__law_broken)
  b__law_broken : Binds K d__law_broken ["_law_rng_here", "_law_grid", "_law_table"] []
  a_law : Addr
  d_law : FuncData
  F_law : Fun K "law" "law" s_law a_law d_law
  g_law : mg "law" = some (.ref a_law)
  b_law : Binds K d_law ["_law_script"] []
  z_abs : mg "abs" = none
  z_all : mg "all" = none
  z_any : mg "any" = none
  z_int : mg "int" = none
  z_len : mg "len" = none
  z_list : mg "list" = none
  z_max : mg "max" = none
  z_min : mg "min" = none
  z_range : mg "range" = none
  z_sorted : mg "sorted" = none
  z_sum : mg "sum" = none
  z_tuple : mg "tuple" = none
end S38
namespace S38
open PySem PySem.Spec PyProof.Rows L2 GK Evl
variable {P : Program} {w : World} {K : PySem.W.Frag} {mg : Str → Option Value} {base : Heap}
/-! ### the grid's size -/
abbrev wide (M : List (List Int)) : Nat := (M.headD []).length
/-- a cell of it -/
def IsCell (M : List (List Int)) (c : Int × Int) : Prop := (0 ≤ c.1 ∧ c.1 < M.length) ∧ 0 ≤ c.2 ∧ c.2 < wide M
instance (M : List (List Int)) (c : Int × Int) : Decidable (IsCell M c) := by unfold IsCell; infer_instance
theorem len_of {v : V} {α : Type} {D : Hp → V → α → Prop} {H : Hp} {as : List α} (h : LOf K D H v as) : ∃ a vs, v = .ref a ∧ SqL K H a vs ∧ vs.length = as.length := by
  obtain ⟨a, vs, e, h1, h2⟩ := h
  exact ⟨a, vs, e, h1, pd_len h2⟩
theorem row_of {H : Hp} {v : V} {M : List (List Int)} (h : TL K H v M) (h0 : M ≠ []) : ∃ a vs x b, v = .ref a ∧ SqL K H a vs ∧ vs.length = M.length ∧ atI vs 0 = some x ∧ x = .ref b ∧ SqL K H b ((M.headD []).map V.int) := by
  obtain ⟨a, vs, e, h1, h2⟩ := h
  cases h2 with
  | nil => exact absurd rfl h0
  | @cons x r vs M r1 t =>
    obtain ⟨b, e2, h3⟩ := il_sq r1
    exact ⟨a, _, x, b, e, h1, by rw [List.length_cons, List.length_cons, pd_len t], atI_nat (j := 0) rfl, e2, h3⟩
section
variable {σ : L2.St} {H : Hp} {ta : TE} {v : V} {M : List (List Int)}
/-- len(xs), len(grid[0]) -/
theorem ev_lenD {α : Type} {D : Hp → V → α → Prop} {as : List α} (ha : Ev ta σ H v) (h : LOf K D H v as) : Ev (tCB (gLenQ K) (tCons ta tNil)) σ H (.int (as.length : Int)) := by
  obtain ⟨a, vs, rfl, h1, h2⟩ := len_of h
  rw [← h2]
  exact ev_lenS ha (.inl h1)
theorem ev_lenRow (ha : Ev ta σ H v) (h : TL K H v M) (h0 : M ≠ []) : Ev (tCB (gLenQ K) (tCons (tOp (rIxL K) ta (tC (.int 0))) tNil)) σ H (.int (wide M : Int)) := by
  obtain ⟨a, vs, x, b, rfl, h1, h2, h3, rfl, h4⟩ := row_of h h0
  have z := ev_lenS (ev_ixL ha ev_c h1 h3) (Or.inl h4)
  rw [List.length_map] at z
  exact z
end
theorem small2 {a b : V} : [a, b].length ≤ 100000 := by simp
/-! ### is_cell -/
def sp_is_cell (K : PySem.W.Frag) : Sp := fun vs H Q _ => ∃ (g c : V) (M : List (List Int)) (x : Int × Int), vs = [g, c] ∧ TL K H g M ∧ M ≠ [] ∧ CellD K H c x ∧ ∀ H', Same H H' → Q (.bl (decide (IsCell M x))) H'
theorem v_is_cell {g c : V} {M : List (List Int)} {x : Int × Int} {H : Hp} (h : TL K H g M) (h0 : M ≠ []) (hc : CellD K H c x) : SpV (sp_is_cell K) [g, c] H (.bl (decide (IsCell M x))) := fun H1 e Q q E =>
  ⟨g, c, M, x, rfl, up_tl _ _ _ _ e h, h0, up_cell _ _ _ _ e hc, q⟩
theorem ok_is_cell (T : Txt K mg) : FnOk P w K mg base CX0 1 T.a_is_cell T.d_is_cell ["grid", "cell"] (sp_is_cell K) := by
  refine T.F_is_cell.ok sc_is_cell (fun vs H Q E h => ?_) (fun cdv A outer s H vs Q E hr h => ?_)
  · obtain ⟨g, c, M, x, rfl, _⟩ := h
    rfl
  · obtain ⟨g, c, M, x, rfl, hM, h0, ⟨t, rfl, ht⟩, q⟩ := h
    refine ⟨(tRet (tAndV (tChain (rI0 fun i j => .bl (decide (i ≤ j))) (rI0 fun i j => .bl (decide (i < j))) (tC (.int 0)) (tOp (rIxT K) (tVar 1) (tC (.int 0))) (tCB (gLenQ K) (tCons (tVar 0) tNil))) (tChain (rI0 fun i j => .bl (decide (i ≤ j))) (rI0 fun i j => .bl (decide (i < j))) (tC (.int 0)) (tOp (rIxT K) (tVar 1) (tC (.int 1))) (tCB (gLenQ K) (tCons (tOp (rIxL K) (tVar 0) (tC (.int 0))) tNil))))),
(pss_one (ps_ret (pe_and (pe_chain op_le op_lt pe_int (pe_ix ix_tup (pv 1) pe_int (fun _ _ => rfl)) (pe_callB call_len_seq (by rfl) T.z_len (by decide +kernel) (pa_cons (pv 0) pa_nil))) (pe_one (pe_chain op_le op_lt pe_int (pe_ix ix_tup (pv 1) pe_int (fun _ _ => rfl)) (pe_callB call_len_seq (by rfl) T.z_len (by decide +kernel) (pa_cons (pe_ix ix_list (pv 0) pe_int (fun _ _ => rfl)) pa_nil))))))), ?_⟩
    have e : decide (IsCell M x) = ((decide (0 ≤ x.1) && decide (x.1 < (M.length : Int))) && (decide (0 ≤ x.2) && decide (x.2 < (wide M : Int)))) := by
      rw [Bool.eq_iff_iff, decide_eq_true_iff]
      simp [IsCell]
    rw [e] at q
    exact s_ret (ev_andV (ev_chain ev_c (ev_ixT (ev_var rfl) ev_c ht (atI_nat (j := 0) rfl)) (ev_lenD (ev_var rfl) hM)) (fun _ => ev_chain ev_c (ev_ixT (ev_var rfl) ev_c ht (atI_nat (j := 1) rfl)) (ev_lenRow (ev_var rfl) hM h0))) q
/-! ### all_cells -/
def cellsOf (h w : Nat) : List (Int × Int) := (pairs h w).map fun p => ((p.1 : Int), (p.2 : Int))
theorem mem_cellsOf {h w : Nat} {c : Int × Int} : c ∈ cellsOf h w ↔ (0 ≤ c.1 ∧ c.1 < h) ∧ 0 ≤ c.2 ∧ c.2 < w := by
  unfold cellsOf pairs
  rw [List.mem_map]
  constructor
  · rintro ⟨⟨a, b⟩, hp, rfl⟩
    rw [List.mem_flatMap] at hp
    obtain ⟨r, hr, hc⟩ := hp
    obtain ⟨k, hk, e⟩ := List.mem_map.mp hc
    rw [List.mem_range] at hr hk
    cases e
    exact ⟨⟨by simp, by simpa using hr⟩, by simp, by simpa using hk⟩
  · rintro ⟨⟨h1, h2⟩, h3, h4⟩
    obtain ⟨a, b⟩ := c
    simp only at h1 h2 h3 h4
    refine ⟨(a.toNat, b.toNat), ?_, ?_⟩
    · rw [List.mem_flatMap]
      exact ⟨a.toNat, List.mem_range.mpr (by omega), List.mem_map.mpr ⟨b.toNat, List.mem_range.mpr (by omega), rfl⟩⟩
    · show ((a.toNat : Int), (b.toNat : Int)) = (a, b)
      rw [Int.toNat_of_nonneg h1, Int.toNat_of_nonneg h3]
theorem cellsOf_len (h w : Nat) : (cellsOf h w).length = h * w := by unfold cellsOf; rw [List.length_map, GK.pairs_len]
theorem pd_mapR {α β γ : Type} {F : α → γ → Prop} {f : β → γ} : ∀ {xs : List α} {as : List β}, Paired (fun x a => F x (f a)) xs as → Paired F xs (as.map f)
  | _, _, .nil => .nil
  | _, _, .cons r t => .cons r (pd_mapR t)
def sp_all_cells (K : PySem.W.Frag) : Sp := fun vs H Q _ => ∃ (g : V) (M : List (List Int)), vs = [g] ∧ TL K H g M ∧ M ≠ [] ∧ M.length ≤ 100 ∧ wide M ≤ 100 ∧
  ∀ v H', Same H H' → NL (CellD K) (dif H H') v (cellsOf M.length (wide M)) → Q v H'
theorem ok_all_cells (T : Txt K mg) : FnOk P w K mg base CX0 1 T.a_all_cells T.d_all_cells ["grid"] (sp_all_cells K) := by
  refine T.F_all_cells.ok sc_all_cells (fun vs H Q E h => ?_) (fun cdv A outer s H vs Q E hr h => ?_)
  · obtain ⟨g, M, rfl, _⟩ := h
    rfl
  · obtain ⟨g, M, rfl, hM, h0, hl, hw, q⟩ := h
    refine ⟨(tRet (tLc2 (iRng1 (tCons (tCB (gLenQ K) (tCons (tVar 0) tNil)) tNil)) (gName 1) tYes (iRng1 (tCons (tCB (gLenQ K) (tCons (tOp (rIxL K) (tVar 0) (tC (.int 0))) tNil)) tNil)) (gName 2) tYes (tTup (tCons (tVar 1) (tCons (tVar 2) tNil))) [1, 2] [2])),
(pss_one (ps_ret (pe_lc2 (own := [("row", 1), ("column", 2)]) (vs1 := [2]) (g := (gName 1)) (tt := tYes) (wi1 := (iRng1 (tCons (tCB (gLenQ K) (tCons (tOp (rIxL K) (tVar 0) (tC (.int 0))) tNil)) tNil))) (g1 := (gName 2)) (tt1 := tYes) (te := (tTup (tCons (tVar 1) (tCons (tVar 2) tNil)))) rfl sc_all_cells.nd (pi_range1 (by rfl) T.z_range (pa_cons (pe_callB call_len_seq (by rfl) T.z_len (by decide +kernel) (pa_cons (pv 0) pa_nil)) pa_nil)) (blkOk_by (N := ["grid", "row", "column"]) (sc := defScope s_all_cells) (own := [("row", 1), ("column", 2)]) (by decide +kernel)) (by decide) (fun _ _ _ _ _ => (pg_name (i := 1) sc_all_cells.nd rfl (.inl rfl))) (fun _ _ _ _ _ => pts_nil) (fun _ _ _ _ _ => (pi_range1 (by rfl) T.z_range (pa_cons (pe_callB call_len_seq (by rfl) T.z_len (by decide +kernel) (pa_cons (pe_ix ix_list (pv 0) pe_int (fun _ _ => rfl)) pa_nil)) pa_nil))) (fun _ _ _ _ _ => (pg_name (i := 2) sc_all_cells.nd rfl (.inl rfl))) (fun _ _ _ _ _ => pts_nil) (fun _ _ _ _ _ => (pe_tup (pa_cons (pv 1) (pa_cons (pv 2) pa_nil))))))), ?_⟩
    have ev := en_lc2R (n := M.length) (m := wide M) (σ := L2.start ["grid", "row", "column"] [g]) (H := H) (j0 := 1) (j1 := 2) (vs := [1, 2]) (vs1 := [2]) (D := fun p H v => CellD K H v ((p.1 : Int), (p.2 : Int)))
      (te := (tTup (tCons (tVar 1) (tCons (tVar 2) tNil)))) (ta := (tCons (tCB (gLenQ K) (tCons (tVar 0) tNil)) tNil)) (ta1 := (tCons (tCB (gLenQ K) (tCons (tOp (rIxL K) (tVar 0) (tC (.int 0))) tNil)) tNil))
      (ea_cons (ev_lenD (ev_var rfl) hM) ea_nil) (by omega) (fun H1 e i _ => ea_cons (ev_lenRow (ev_var rfl) (up_tl _ _ _ _ e hM) h0) ea_nil) (by omega) (fun a H H' v e h => up_cell _ _ _ _ e h)
      (fun x => rfl) (fun x y => rfl)
      (fun H1 e i j _ _ => (en_u (eu_tup (ea_cons (ev_var rfl) (ea_cons (ev_var rfl) ea_nil)) small2)).imp fun H' v ⟨p, ev, hp⟩ => ⟨p, ev, SqT.of hp⟩)
    exact ev H (Same.refl _) _ fun v H2 e ⟨p, ys, e1, e2, e3⟩ => q v H2 e ⟨p, ys, e1, e2, pd_mapR e3⟩
/-! ### asked_hidden -/
/-- ahead, row by row -/
def Lex (c d : Int × Int) : Prop := c.1 < d.1 ∨ (c.1 = d.1 ∧ c.2 < d.2)
def sp_asked_hidden (K : PySem.W.Frag) : Sp := fun vs H Q _ => ∃ (g hid : V) (M : List (List Int)) (cs : List (Int × Int)), vs = [g, hid] ∧ TL K H g M ∧ M ≠ [] ∧ M.length ≤ 60 ∧ wide M ≤ 60 ∧ (CL K H hid cs ∨ TOf K (CellD K) H hid cs) ∧ cs.length + 1 < 64 ∧
  (∀ c ∈ cs, IsCell M c ∧ c ≠ ((M.length : Int) - 1, (wide M : Int) - 1)) ∧ ∀ v ds H', Same H H' → CL K H' v ds → (∀ c, c ∈ ds ↔ c ∈ cs) → ds.Pairwise Lex → Q v H'
theorem rv_eqCell {H : Hp} {x y : V} {c d : Int × Int} (hx : CellD K H x c) (hy : CellD K H y d) : RV (rEqD K) x y H (.bl (decide (c = d))) := rv_val fun H1 e Q q =>
  ⟨cellP c, cellP d, dp_cell (up_cell _ _ _ _ e hx), dp_cell (up_cell _ _ _ _ e hy), shp_cell c, shp_cell d, by rw [eqv_cell]; exact q⟩
theorem ok_asked_hidden (T : Txt K mg) : FnOk P w K mg base CX0 2 T.a_asked_hidden T.d_asked_hidden ["grid", "hidden"] (sp_asked_hidden K) := by
  have G_is_cell : FnOk P w K mg base CX0 1 T.a_is_cell T.d_is_cell ["grid", "cell"] (sp_is_cell K) := ok_is_cell T
  refine T.F_asked_hidden.ok sc_asked_hidden (fun vs H Q E h => ?_) (fun cdv A outer s H vs Q E hr h => ?_)
  · obtain ⟨g, hid, M, cs, rfl, _⟩ := h
    rfl
  · obtain ⟨g, hid, M, cs, rfl, hM, h0, hl, hw, hc, few, good, q⟩ := h
    refine ⟨(tSeq (tFor (iSeq K (tVar 1)) (gName 2)
  (tIfS (tOr (tNot (tB (tCall (sp_is_cell K) [] E0 (tCons (tVar 0) (tCons (tVar 2) tNil))))) (tTest (tOp (rEqD K) (tCB (gTupT K) (tCons (tVar 2) tNil)) (tTup (tCons (tOp (rI0 fun i j => .int (i - j)) (tCB (gLenQ K) (tCons (tVar 0) tNil)) (tC (.int 1))) (tCons (tOp (rI0 fun i j => .int (i - j)) (tCB (gLenQ K) (tCons (tOp (rIxL K) (tVar 0) (tC (.int 0))) tNil)) (tC (.int 1))) tNil)))))) tNever tNext))
  (tRet (tCB (rSortedT K P w) (tCons (tSet (kTup P w K) (iSeq K (tVar 1)) (gName 2) tYes (tTup (tCons (tOp (rIxT K) (tVar 2) (tC (.int 0))) (tCons (tOp (rIxT K) (tVar 2) (tC (.int 1))) tNil))) [2]) tNil)))),
(pss_cons (ps_for PassesOwn.never rfl (pi_seq (pv 1)) (pg_name (i := 2) sc_asked_hidden.nd rfl (.inl rfl))
  (pss_one (ps_if (PW.pt (pw_or (pt_not (pt_val (pe_call (G_is_cell.mono (by decide)) hr (by rfl) T.g_is_cell T.F_is_cell.kp T.b_is_cell .nil pass0 (pa_cons (pv 0) (pa_cons (pv 2) pa_nil))))) (pw_or1 (pt_cmpR (op_eqD hr.units) (pe_callTy call_tupleT (by rfl) T.z_tuple (by decide +kernel) (pa_cons (pv 2) pa_nil)) (pe_tup (pa_cons (pe_op op_sub (pe_callB call_len_seq (by rfl) T.z_len (by decide +kernel) (pa_cons (pv 0) pa_nil)) pe_int) (pa_cons (pe_op op_sub (pe_callB call_len_seq (by rfl) T.z_len (by decide +kernel) (pa_cons (pe_ix ix_list (pv 0) pe_int (fun _ _ => rfl)) pa_nil)) pe_int) pa_nil))) (nomark _))))) (pss_one ps_never) pss_nil)))
  (pss_one (ps_ret (pe_callB (cr_sortedT rfl) (by rfl) T.z_sorted (by decide +kernel) (pa_cons (pe_set (kTup P w K) rfl rfl rfl (own := [("cell", 2)]) (g := (gName 2)) (tt := tYes) (te := (tTup (tCons (tOp (rIxT K) (tVar 2) (tC (.int 0))) (tCons (tOp (rIxT K) (tVar 2) (tC (.int 1))) tNil)))) hr.units rfl sc_asked_hidden.nd (pi_seq (pv 1)) (blkOk_by (N := ["grid", "hidden", "cell"]) (sc := defScope s_asked_hidden) (own := [("cell", 2)]) (by decide +kernel)) (fun _ _ _ _ _ => (pg_name (i := 2) sc_asked_hidden.nd rfl (.inl rfl))) (fun _ _ _ _ _ => pts_nil) (fun _ _ _ _ _ => (pe_tup (pa_cons (pe_ix ix_tup (pv 2) pe_int (fun _ _ => rfl)) (pa_cons (pe_ix ix_tup (pv 2) pe_int (fun _ _ => rfl)) pa_nil))))) pa_nil))))), ?_⟩
    refine for_seq (α := Int × Int) (S := CellD K) (as := cs) up_cell (ev_var rfl) hc (fun i σ' H' => Same H H' ∧ ∃ y, σ' = [some g, some hid, y]) (fun H1 e => ⟨e, none, rfl⟩) (fun i σ' H' p => p.1) (fun i x c σ' H' hx hS p => ?_) (fun σ' H' p => ?_)
    · obtain ⟨e, y, rfl⟩ := p
      obtain ⟨g1, g2⟩ := good c (List.mem_of_getElem? hx)
      have hM' : TL K H' g M := up_tl _ _ _ _ e hM
      obtain ⟨t, rfl, ht⟩ := hS
      refine s_when (b := false) (et_is (et_or (et_not (et_B (ev_call (ea_cons (ev_var rfl) (ea_cons (ev_var rfl) ea_nil)) (v_is_cell hM' h0 ⟨t, rfl, ht⟩)))) fun _ => et_test
          (ev_opU (ev_tupT (ev_var rfl) ht) (eu_tup (ea_cons (ev_oI (ev_lenD (ev_var rfl) hM') ev_c) (ea_cons (ev_oI (ev_lenRow (ev_var rfl) hM' h0) ev_c) ea_nil)) small2)
            fun p H1 hp e1 => rv_eqCell (c := c) (d := ((M.length : Int) - 1, (wide M : Int) - 1)) ⟨t, rfl, st_mono e1 ht⟩ ⟨p, rfl, SqT.of hp⟩)) ?_) (fun z => by cases z) (fun _ H1 e1 => ⟨e.trans e1, some (.ref t), rfl⟩)
      rw [decide_eq_true g1, decide_eq_false g2]
      rfl
    · obtain ⟨e, y, rfl⟩ := p
      have hc' : CL K H' hid cs ∨ TOf K (CellD K) H' hid cs := hc.imp (up_cl _ _ _ _ e) (up_t up_cell _ _ _ _ e)
      show tSet (kTup P w K) (iSeq K (tVar 1)) (gName 2) tYes (tTup (tCons (tOp (rIxT K) (tVar 2) (tC (.int 0))) (tCons (tOp (rIxT K) (tVar 2) (tC (.int 1))) tNil))) [2] [some g, some hid, y] H' fun x H1 => rSortedT K P w [x] H1 Q
      refine set_cells (ev_var rfl) hc' few (fun x => rfl) (fun H2 x c e2 hx => ?_) (fun D L H2 hD e2 hL ht hh => ?_)
      · obtain ⟨t, rfl, ht⟩ := hx
        exact eu_tup (ea_cons (ev_ixT (ev_var rfl) ev_c ht (atI_nat (j := 0) rfl)) (ea_cons (ev_ixT (ev_var rfl) ev_c ht (atI_nat (j := 1) rfl)) ea_nil)) small2
      · have form : ∀ p ∈ L, ∃ c ∈ cs, p.2 = [c.1, c.2] ∧ (0 ≤ c.1 ∧ c.1 < 64) ∧ 0 ≤ c.2 ∧ c.2 < 64 := fun p hp => by
          obtain ⟨c, h1, h2⟩ := hh.sub p hp
          obtain ⟨⟨a1, a2⟩, a3, a4⟩ := (good c h1).1
          exact ⟨c, h1, h2, ⟨a1, by omega⟩, a3, by omega⟩
        refine ⟨D, L, 2, 64, rfl, hL, ht, by decide, fun p hp => ?_, fun L' p pm nd _ pw hp => ?_⟩
        · obtain ⟨c, _, h2, h3, h4⟩ := form p hp
          rw [h2]
          refine ⟨rfl, fun n hn => ?_⟩
          rcases List.mem_cons.mp hn with z | z
          · rw [z]; exact h3
          · rw [List.mem_singleton.mp z]; exact h4
        · refine q _ (L'.map fun r => (r.2.getD 0 0, r.2.getD 1 0)) _ (e.trans (e2.trans (same_new hp))) ?_ (fun c => ?_) ?_
          · refine lof_new upd_same (pd_of L' fun r hr => ?_)
            obtain ⟨c, _, h2, _⟩ := form r (pm.mem_iff.mp hr)
            refine ⟨r.1, rfl, ?_⟩
            have z := st_mono (same_new (o := .lst (L'.map fun q => V.ref q.1)) hp) (ht r (pm.mem_iff.mp hr))
            rw [h2] at z ⊢
            exact z
          · rw [List.mem_map]
            constructor
            · rintro ⟨r, hr, rfl⟩
              obtain ⟨c, h1, h2, _⟩ := form r (pm.mem_iff.mp hr)
              rw [h2]
              exact h1
            · intro hc
              obtain ⟨r, hr, h2⟩ := List.mem_map.mp (hh.all c hc)
              exact ⟨r, pm.mem_iff.mpr hr, by rw [h2]; rfl⟩
          · rw [List.pairwise_map]
            have nd' := List.pairwise_map.mp nd
            refine List.Pairwise.imp_of_mem (fun {r t} hr ht' z => ?_) (List.Pairwise.and pw nd')
            obtain ⟨c, _, h2, h3, h4⟩ := form r (pm.mem_iff.mp hr)
            obtain ⟨d, _, k2, k3, k4⟩ := form t (pm.mem_iff.mp ht')
            rw [h2, k2] at z ⊢
            exact pair_lt z.1 z.2 h3 h4 k3 k4
end S38
namespace S38
open PySem PySem.Spec PyProof.Rows L2 GK Evl
variable {P : Program} {w : World} {K : PySem.W.Frag} {mg : Str → Option Value} {base : Heap}
/-! ### sums_right -/
def RowOk (row : List Int) : Prop := row.dropLast.sum = row.getLastD 0
def ColOk (T : List (List Int)) (k : Nat) : Prop := (T.dropLast.map fun row => row.getD k 0).sum = (T.getLastD []).getD k 0
def SumsOk (n : Nat) (T : List (List Int)) : Prop := (∀ row ∈ T, RowOk row) ∧ ∀ k, k < n → ColOk T k
def sp_sums_right (K : PySem.W.Frag) : Sp := fun vs H Q _ => ∃ (t : V) (n : Nat) (T : List (List Int)), vs = [t] ∧ TL K H t T ∧ T ≠ [] ∧ T.length ≤ 1000 ∧ 0 < n ∧ n ≤ 1000 ∧ (∀ row ∈ T, row.length = n) ∧
  ∀ H', Same H H' → Q (.bl (tr (SumsOk n T))) H'
theorem v_sums_right {t : V} {n : Nat} {T : List (List Int)} {H : Hp} (h : TL K H t T) (h0 : T ≠ []) (h1 : T.length ≤ 1000) (h2 : 0 < n) (h3 : n ≤ 1000) (h4 : ∀ row ∈ T, row.length = n) : SpV (sp_sums_right K) [t] H (.bl (tr (SumsOk n T))) := fun H1 e Q q E =>
  ⟨t, n, T, rfl, up_tl _ _ _ _ e h, h0, h1, h2, h3, h4, q⟩
theorem last_mem {α : Type} {T : List α} {d : α} (h : T ≠ []) : T.getLastD d ∈ T := by
  cases T with
  | nil => exact absurd rfl h
  | cons a r => rw [show (a :: r).getLastD d = (a :: r).getLast (by simp) by simp [List.getLastD, List.getLast?_eq_getLast]]; exact List.getLast_mem _
theorem ok_sums_right (T : Txt K mg) : FnOk P w K mg base CX0 1 T.a_sums_right T.d_sums_right ["table"] (sp_sums_right K) := by
  refine T.F_sums_right.ok sc_sums_right (fun vs H Q E h => ?_) (fun cdv A outer s H vs Q E hr h => ?_)
  · obtain ⟨t, n, M, rfl, _⟩ := h
    rfl
  · obtain ⟨t, n, M, rfl, hM, h0, hl, hn, hn1, hw, q⟩ := h
    refine ⟨(tSeq (tFor (iList K (tVar 0)) (gName 1)
  (tIfS (tTest (tOp rNe (tCB (rSum K) (tCons (tSl (rSlL K) (tVar 1) tNoPart (tPart (tUn (rU fun i => .int (-i)) (tC (.int 1))))) tNil)) (tOp (rIxL K) (tVar 1) (tUn (rU fun i => .int (-i)) (tC (.int 1)))))) (tRet (tC (.bl false))) tNext))
  (tRet (tCB (rAll K) (tCons (tLc (iRng1 (tCons (tCB (gLenQ K) (tCons (tOp (rIxL K) (tVar 0) (tC (.int 0))) tNil)) tNil)) (gName 2) tYes (tOp rEq (tCB (rSum K) (tCons (tLc (iList K (tSl (rSlL K) (tVar 0) tNoPart (tPart (tUn (rU fun i => .int (-i)) (tC (.int 1)))))) (gName 1) tYes (tOp (rIxL K) (tVar 1) (tVar 2)) [1]) tNil)) (tOp (rIxL K) (tOp (rIxL K) (tVar 0) (tUn (rU fun i => .int (-i)) (tC (.int 1)))) (tVar 2))) [2]) tNil)))),
(pss_cons (ps_for PassesOwn.never rfl (pi_list (pv 0)) (pg_name (i := 1) sc_sums_right.nd rfl (.inl rfl))
  (pss_one (ps_if (pt_cmpR op_ne (pe_callB (cr_sum rfl) (by rfl) T.z_sum (by decide +kernel) (pa_cons (pe_slice sl_list (pv 1) po_none (po_some (pe_un un_neg pe_int))) pa_nil)) (pe_ix ix_list (pv 1) (pe_un un_neg pe_int) (fun _ _ => rfl)) (nomark _)) (pss_one (ps_ret pe_bl)) pss_nil)))
  (pss_one (ps_ret (pe_callB (cr_all rfl) (by rfl) T.z_all (by decide +kernel) (pa_cons (pe_lc (own := [("k", 2)]) (g := (gName 2)) (tt := tYes) (te := (tOp rEq (tCB (rSum K) (tCons (tLc (iList K (tSl (rSlL K) (tVar 0) tNoPart (tPart (tUn (rU fun i => .int (-i)) (tC (.int 1)))))) (gName 1) tYes (tOp (rIxL K) (tVar 1) (tVar 2)) [1]) tNil)) (tOp (rIxL K) (tOp (rIxL K) (tVar 0) (tUn (rU fun i => .int (-i)) (tC (.int 1)))) (tVar 2)))) rfl sc_sums_right.nd (pi_range1 (by rfl) T.z_range (pa_cons (pe_callB call_len_seq (by rfl) T.z_len (by decide +kernel) (pa_cons (pe_ix ix_list (pv 0) pe_int (fun _ _ => rfl)) pa_nil)) pa_nil)) (blkOk_by (N := ["table", "row", "k"]) (sc := defScope s_sums_right) (own := [("k", 2)]) (by decide +kernel)) (fun _ _ _ _ _ => (pg_name (i := 2) sc_sums_right.nd rfl (.inr rfl))) (fun _ _ _ _ _ => pts_nil) (fun _ _ _ _ _ => (pe_cmpR op_eq (pe_callB (cr_sum rfl) (by rfl) T.z_sum (by decide +kernel) (pa_cons (pe_lc (own := [("row", 1)]) (g := (gName 1)) (tt := tYes) (te := (tOp (rIxL K) (tVar 1) (tVar 2))) rfl sc_sums_right.nd (pi_list (pe_slice sl_list (pv 0) po_none (po_some (pe_un un_neg pe_int)))) (blkOk_by (own := [("row", 1)]) (by kernel_rfl)) (fun _ _ _ _ _ => (pg_name (i := 1) sc_sums_right.nd rfl (.inl rfl))) (fun _ _ _ _ _ => pts_nil) (fun _ _ _ _ _ => (pe_ix ix_list (pv 1) (pv 2) (fun _ _ => rfl)))) pa_nil)) (pe_ix ix_list (pe_ix ix_list (pv 0) (pe_un un_neg pe_int) (fun _ _ => rfl)) (pv 2) (fun _ _ => rfl)) (nomark _)))) pa_nil))))), ?_⟩
    refine for_lof (S := IL K) up_il (ev_var rfl) hM (fun i σ' H' => Same H H' ∧ (∃ y, σ' = [some t, y, none]) ∧ ∀ row ∈ M.take i, RowOk row) (fun H1 e => ⟨e, ⟨none, rfl⟩, by simp⟩) (fun i σ' H' p => p.1) (fun i x row σ' H' hx hS p => ?_) (fun σ' H' p => ?_)
    · obtain ⟨e, ⟨y, rfl⟩, pre⟩ := p
      have hlen := hw row (List.mem_of_getElem? hx)
      have h0' : row ≠ [] := fun z => by rw [z] at hlen; simp at hlen; omega
      refine s_when (et_test (ev_neS (ev_sumN (el_init (ev_var rfl) hS)) (ev_last (ev_var rfl) hS h0') rfl)) (fun hb H1 e1 => ?_) (fun hb H1 e1 => ?_)
      · have bad : ¬ RowOk row := fun z => by
          unfold RowOk at z
          rw [z] at hb
          simp at hb
        have z := q H1 (e.trans e1)
        rw [tr_no fun hh => bad (hh.1 row (List.mem_of_getElem? hx))] at z
        exact z
      · refine ⟨e.trans e1, ⟨_, rfl⟩, fun r hr => ?_⟩
        rw [List.take_succ, hx] at hr
        rcases List.mem_append.mp hr with z | z
        · exact pre r z
        · rw [List.mem_singleton.mp z]
          unfold RowOk
          simpa using hb
    · obtain ⟨e, ⟨y, rfl⟩, rows⟩ := p
      rw [List.take_length] at rows
      have hM' := up_tl _ _ _ _ e hM
      have hwide : wide M = n := by
        cases M with
        | nil => exact absurd rfl h0
        | cons r M => exact hw r List.mem_cons_self
      have ev := ev_allN (K := K) (bs := (List.range n).map fun k => decide (V.int ((M.dropLast.map fun row => row.getD k 0).sum) = V.int ((M.getLastD []).getD k 0)))
        (el_lcRG (σ := [some t, y, none]) (H := H') (vs := [2]) (j := 2) (g := V.bl)
          (ta := (tCons (tCB (gLenQ K) (tCons (tOp (rIxL K) (tVar 0) (tC (.int 0))) tNil)) tNil))
          (te := (tOp rEq (tCB (rSum K) (tCons (tLc (iList K (tSl (rSlL K) (tVar 0) tNoPart (tPart tNeg1))) (gName 1) tYes (tOp (rIxL K) (tVar 1) (tVar 2)) [1]) tNil)) (tOp (rIxL K) (tOp (rIxL K) (tVar 0) tNeg1) (tVar 2))))
          (by rw [← hwide]; exact ea_cons (ev_lenRow (ev_var rfl) hM' h0) ea_nil) (by omega) (fun x => rfl) (fun H1 e1 k hk => by
            have hM1 := up_tl _ _ _ _ e1 hM'
            obtain ⟨a, vs', xl, ea, hs, hat, hD⟩ := last_lof (d := []) hM1 h0
            subst ea
            refine ev_eqS (ev_sumN (el_lcG (S := IL K) (as := M.dropLast) (g := V.int) (f := fun row => row.getD k 0) (src_init up_il (ev_var rfl) hM1) (by rw [List.length_dropLast]; omega) (fun x => rfl) (fun H2 e2 i row x hx hS => ?_)))
              (ev_at (ev_ixL (ev_var rfl) ev_neg1 hs hat) (ev_var rfl) hD (by rw [hw _ (last_mem h0)]; exact hk)) rfl
            refine ev_at (ev_var rfl) (ev_var rfl) hS ?_
            rw [hw row (List.dropLast_subset _ (List.mem_of_getElem? hx))]
            exact hk))
      refine s_ret ev (fun H1 e1 => ?_)
      have z := q H1 (e.trans e1)
      rw [tr_of (b := ((List.range n).map fun k => decide (V.int ((M.dropLast.map fun row => row.getD k 0).sum) = V.int ((M.getLastD []).getD k 0))).all id) (p := SumsOk n M)]
      · exact z
      · rw [List.all_map, List.all_eq_true]
        constructor
        · intro h
          refine ⟨rows, fun k hk => ?_⟩
          have := h k (List.mem_range.mpr hk)
          simp only [Function.comp, id] at this
          exact V.int.inj (of_decide_eq_true this)
        · intro h k hk
          simp only [Function.comp, id]
          exact decide_eq_true (congrArg V.int (h.2 k (List.mem_range.mp hk)))
end S38
namespace S38
open PySem PySem.Spec PyProof.Rows L2 GK Evl
variable {P : Program} {w : World} {K : PySem.W.Frag} {mg : Str → Option Value} {base : Heap}
/-! ### what fits is -/
def at2 (M : List (List Int)) (c : Int × Int) : Int := (M.getD c.1.toNat []).getD c.2.toNat 0
structure Fits (G : List (List Int)) (cs : List (Int × Int)) (T : List (List Int)) : Prop where
  tall : T.length = G.length
  wid : ∀ row ∈ T, row.length = wide G
  nn : ∀ row ∈ T, ∀ n ∈ row, 0 ≤ n
  sums : SumsOk (wide G) T
  shown : ∀ c, IsCell G c → c ∉ cs → at2 T c = at2 G c
/-- a grid: rows of one length -/
structure Rect (G : List (List Int)) : Prop where
  tall : 2 ≤ G.length
  tall' : G.length ≤ 60
  wid : 2 ≤ wide G
  wid' : wide G ≤ 60
  rows : ∀ row ∈ G, row.length = wide G
theorem Rect.ne {G : List (List Int)} (h : Rect G) : G ≠ [] := fun z => by have := h.tall; rw [z] at this; simp at this
/-- the hidden cells: cells, none of them the last -/
def Hid (G : List (List Int)) (cs : List (Int × Int)) : Prop := cs.length + 1 < 64 ∧ ∀ c ∈ cs, IsCell G c ∧ c ≠ ((G.length : Int) - 1, (wide G : Int) - 1)
/-- M[r][c] -/
theorem ev_at2 {σ : L2.St} {H : Hp} {ta tb tc : TE} {v : V} {M : List (List Int)} {c : Int × Int} (ha : Ev ta σ H v) (hb : Ev tb σ H (.int c.1)) (hc : Ev tc σ H (.int c.2)) (h : TL K H v M) (h1 : 0 ≤ c.1 ∧ c.1 < M.length) (h2 : 0 ≤ c.2 ∧ c.2 < ((M.getD c.1.toNat []).length : Int)) :
    Ev (tOp (rIxL K) (tOp (rIxL K) ta tb) tc) σ H (.int (at2 M c)) := by
  obtain ⟨a, vs, x, rfl, hs, hat, hD⟩ := at_lof (d := []) (k := c.1.toNat) h (by omega)
  rw [Int.toNat_of_nonneg h1.1] at hat
  have hc' : Ev tc σ H (.int ((c.2.toNat : Nat) : Int)) := by rw [Int.toNat_of_nonneg h2.1]; exact hc
  exact ev_at (ev_ixL ha hb hs hat) hc' hD (by omega)
theorem nf {b : Bool} (h : (!b) = false) : b = true := by cases b <;> simp_all
theorem getD_mem {α : Type} {M : List α} {k : Nat} {d : α} (h : k < M.length) : M.getD k d ∈ M := by
  rw [List.getD_eq_getElem?_getD, List.getElem?_eq_getElem h]
  exact List.getElem_mem h
def sp_fits (K : PySem.W.Frag) : Sp := fun vs H Q _ => ∃ (g hid t : V) (G : List (List Int)) (cs : List (Int × Int)) (T : List (List Int)), vs = [g, hid, t] ∧ TL K H g G ∧ Rect G ∧ (CL K H hid cs ∨ TOf K (CellD K) H hid cs) ∧ Hid G cs ∧ TL K H t T ∧ T.length ≤ 1000 ∧
  ∀ H', Same H H' → Q (.bl (tr (Fits G cs T))) H'
theorem v_fits {g hid t : V} {G T : List (List Int)} {cs : List (Int × Int)} {H : Hp} (h1 : TL K H g G) (h2 : Rect G) (h3 : CL K H hid cs ∨ TOf K (CellD K) H hid cs) (h4 : Hid G cs) (h5 : TL K H t T) (h6 : T.length ≤ 1000) : SpV (sp_fits K) [g, hid, t] H (.bl (tr (Fits G cs T))) := fun H1 e Q q E =>
  ⟨g, hid, t, G, cs, T, rfl, up_tl _ _ _ _ e h1, h2, h3.imp (up_cl _ _ _ _ e) (up_t up_cell _ _ _ _ e), h4, up_tl _ _ _ _ e h5, h6, q⟩
theorem src_all {σ : L2.St} {H : Hp} {ta : TE} {v : V} {M : List (List Int)} (ha : Ev ta σ H v) (h : TL K H v M) (r : Rect M) : Src K (tCall (sp_all_cells K) [] E0 (tCons ta tNil)) σ H (CellD K) (cellsOf M.length (wide M)) := by
  refine src_new up_cell fun H1 e Q q => ?_
  refine ha H1 e _ fun H2 e2 => ⟨v, M, rfl, up_tl _ _ _ _ (e.trans e2) h, r.ne, by have := r.tall'; omega, by have := r.wid'; omega, fun x H3 e3 hx => ?_⟩
  refine q x H3 (e2.trans e3) ?_
  obtain ⟨p, ys, e1, h1, h2⟩ := hx
  exact ⟨p, ys, e1, SqL.of (dif_mono e2 (Same.refl _) _ _ h1), pd_imp (fun y c r => up_cell _ _ _ _ (dif_mono e2 (Same.refl _)) r) h2⟩
theorem ok_fits (T : Txt K mg) : FnOk P w K mg base CX0 3 T.a_fits T.d_fits ["grid", "hidden", "table"] (sp_fits K) := by
  have G_asked_hidden : FnOk P w K mg base CX0 2 T.a_asked_hidden T.d_asked_hidden ["grid", "hidden"] (sp_asked_hidden K) := ok_asked_hidden T
  have G_sums_right : FnOk P w K mg base CX0 1 T.a_sums_right T.d_sums_right ["table"] (sp_sums_right K) := ok_sums_right T
  have G_all_cells : FnOk P w K mg base CX0 1 T.a_all_cells T.d_all_cells ["grid"] (sp_all_cells K) := ok_all_cells T
  refine T.F_fits.ok sc_fits (fun vs H Q E h => ?_) (fun cdv A outer s H vs Q E hr h => ?_)
  · obtain ⟨g, hid, t, G, cs, M, rfl, _⟩ := h
    rfl
  · obtain ⟨g, hid, t, G, cs, M, rfl, hG, rect, hc, hh, hM, hl, q⟩ := h
    refine ⟨(tSeq (tAsg (tCall (sp_asked_hidden K) [] E0 (tCons (tVar 0) (tCons (tVar 1) tNil))) (gName 3))
  (tSeq (tIfS (tOr (tTest (tOp rNe (tCB (gLenQ K) (tCons (tVar 2) tNil)) (tCB (gLenQ K) (tCons (tVar 0) tNil)))) (tB (tCB (rAny K) (tCons (tLc (iList K (tVar 2)) (gName 6) tYes (tOp rNe (tCB (gLenQ K) (tCons (tVar 6) tNil)) (tCB (gLenQ K) (tCons (tOp (rIxL K) (tVar 0) (tC (.int 0))) tNil))) [6]) tNil)))) (tRet (tC (.bl false))) tNext)
  (tSeq (tIfS (tOr (tTest (tOp (rI0 fun i j => .bl (decide (i < j))) (tCB (rMin K) (tCons (tLc (iList K (tVar 2)) (gName 6) tYes (tCB (rMin K) (tCons (tVar 6) tNil)) [6]) tNil)) (tC (.int 0)))) (tNot (tB (tCall (sp_sums_right K) [] E0 (tCons (tVar 2) tNil))))) (tRet (tC (.bl false))) tNext)
  (tSeq (tAsg (tLc (iList K (tCall (sp_all_cells K) [] E0 (tCons (tVar 0) tNil))) (gName 5) (tTest (tOp (rNotInD K) (tVar 5) (tVar 3))) (tVar 5) [5]) (gName 4))
  (tRet (tCB (rAll K) (tCons (tLc (iList K (tVar 4)) (gTup K 2 (gCons (gName 6) (gCons (gName 7) gNil))) tYes (tOp rEq (tOp (rIxL K) (tOp (rIxL K) (tVar 2) (tVar 6)) (tVar 7)) (tOp (rIxL K) (tOp (rIxL K) (tVar 0) (tVar 6)) (tVar 7))) [6, 7]) tNil))))))),
(pss_cons (ps_set (i := 3) sc_fits.nd rfl (.inr rfl) (pe_call (G_asked_hidden.mono (by decide)) hr (by rfl) T.g_asked_hidden T.F_asked_hidden.kp T.b_asked_hidden .nil pass0 (pa_cons (pv 0) (pa_cons (pv 1) pa_nil))))
  (pss_cons (ps_if (PW.pt (pw_or (pt_cmpR op_ne (pe_callB call_len_seq (by rfl) T.z_len (by decide +kernel) (pa_cons (pv 2) pa_nil)) (pe_callB call_len_seq (by rfl) T.z_len (by decide +kernel) (pa_cons (pv 0) pa_nil)) (nomark _)) (pw_or1 (pt_val (pe_callB (cr_any rfl) (by rfl) T.z_any (by decide +kernel) (pa_cons (pe_lc (own := [("row", 6)]) (g := (gName 6)) (tt := tYes) (te := (tOp rNe (tCB (gLenQ K) (tCons (tVar 6) tNil)) (tCB (gLenQ K) (tCons (tOp (rIxL K) (tVar 0) (tC (.int 0))) tNil)))) rfl sc_fits.nd (pi_list (pv 2)) (blkOk_by (N := ["grid", "hidden", "table", "cells", "shown", "cell", "row", "column"]) (sc := defScope s_fits) (own := [("row", 6)]) (by decide +kernel)) (fun _ _ _ _ _ => (pg_name (i := 6) sc_fits.nd rfl (.inl rfl))) (fun _ _ _ _ _ => pts_nil) (fun _ _ _ _ _ => (pe_cmpR op_ne (pe_callB call_len_seq (by rfl) T.z_len (by decide +kernel) (pa_cons (pv 6) pa_nil)) (pe_callB call_len_seq (by rfl) T.z_len (by decide +kernel) (pa_cons (pe_ix ix_list (pv 0) pe_int (fun _ _ => rfl)) pa_nil)) (nomark _)))) pa_nil)))))) (pss_one (ps_ret pe_bl)) pss_nil)
  (pss_cons (ps_if (PW.pt (pw_or (pt_cmpR op_lt (pe_callB (cr_min rfl) (by rfl) T.z_min (by decide +kernel) (pa_cons (pe_lc (own := [("row", 6)]) (g := (gName 6)) (tt := tYes) (te := (tCB (rMin K) (tCons (tVar 6) tNil))) rfl sc_fits.nd (pi_list (pv 2)) (blkOk_by (N := ["grid", "hidden", "table", "cells", "shown", "cell", "row", "column"]) (sc := defScope s_fits) (own := [("row", 6)]) (by decide +kernel)) (fun _ _ _ _ _ => (pg_name (i := 6) sc_fits.nd rfl (.inl rfl))) (fun _ _ _ _ _ => pts_nil) (fun _ _ _ _ _ => (pe_callB (cr_min rfl) (by rfl) T.z_min (by decide +kernel) (pa_cons (pv 6) pa_nil)))) pa_nil)) pe_int (nomark _)) (pw_or1 (pt_not (pt_val (pe_call (G_sums_right.mono (by decide)) hr (by rfl) T.g_sums_right T.F_sums_right.kp T.b_sums_right .nil pass0 (pa_cons (pv 2) pa_nil))))))) (pss_one (ps_ret pe_bl)) pss_nil)
  (pss_cons (ps_setLc (i := 4) (own := [("cell", 5)]) (g := (gName 5)) (tt := (tTest (tOp (rNotInD K) (tVar 5) (tVar 3)))) (te := (tVar 5)) rfl sc_fits.nd rfl rfl (sw_true rfl rfl rfl (by decide +kernel)) (pi_list (pe_call (G_all_cells.mono (by decide)) hr (by rfl) T.g_all_cells T.F_all_cells.kp T.b_all_cells .nil pass0 (pa_cons (pv 0) pa_nil))) (blkOk_by (N := ["grid", "hidden", "table", "cells", "shown", "cell", "row", "column"]) (sc := defScope s_fits) (own := [("cell", 5)]) (by decide +kernel)) (fun _ _ _ _ _ => (pg_name (i := 5) sc_fits.nd rfl (.inl rfl))) (fun _ _ _ _ _ => (pts_one (pt_cmpR (op_notInD (hr65 hr)) (pv 5) (pv 3) (by rfl)))) (fun _ _ _ _ _ => (pv 5)))
  (pss_one (ps_ret (pe_callB (cr_all rfl) (by rfl) T.z_all (by decide +kernel) (pa_cons (pe_lc (own := [("row", 6), ("column", 7)]) (g := (gTup K 2 (gCons (gName 6) (gCons (gName 7) gNil)))) (tt := tYes) (te := (tOp rEq (tOp (rIxL K) (tOp (rIxL K) (tVar 2) (tVar 6)) (tVar 7)) (tOp (rIxL K) (tOp (rIxL K) (tVar 0) (tVar 6)) (tVar 7)))) rfl sc_fits.nd (pi_list (pv 4)) (blkOk_by (N := ["grid", "hidden", "table", "cells", "shown", "cell", "row", "column"]) (sc := defScope s_fits) (own := [("row", 6), ("column", 7)]) (by decide +kernel)) (fun _ _ _ _ _ => (pg_tup rfl (pgs_cons (pg_name (i := 6) sc_fits.nd rfl (.inl rfl)) (pgs_cons (pg_name (i := 7) sc_fits.nd rfl (.inl rfl)) pgs_nil)))) (fun _ _ _ _ _ => pts_nil) (fun _ _ _ _ _ => (pe_cmpR op_eq (pe_ix ix_list (pe_ix ix_list (pv 2) (pv 6) (fun _ _ => rfl)) (pv 7) (fun _ _ => rfl)) (pe_ix ix_list (pe_ix ix_list (pv 0) (pv 6) (fun _ _ => rfl)) (pv 7) (fun _ _ => rfl)) (nomark _)))) pa_nil)))))))), ?_⟩
    -- cells = asked_hidden(grid, hidden)
    refine ⟨g, rfl, hid, rfl, g, hid, G, cs, rfl, hG, rect.ne, rect.tall', rect.wid', hc, hh.1, hh.2, fun v ds H1 e1 hv hm pw => ?_⟩
    have hG1 := up_tl _ _ _ _ e1 hG
    have hM1 := up_tl _ _ _ _ e1 hM
    -- the size
    refine q_when (et_or (et_test (ev_neS (ev_lenD (ev_var rfl) hM1) (ev_lenD (ev_var rfl) hG1) rfl)) fun _ => et_B (ev_anyN (el_lcG (S := IL K) (g := V.bl) (f := fun row => !decide (V.int (row.length : Int) = V.int (wide G : Int)))
      (src_of (D := IL K) up_il (ev_var rfl) hM1) (by omega) (fun x => rfl) (fun H2 e2 i row x hx hS => ev_neS (ev_lenD (ev_var rfl) hS) (ev_lenRow (ev_var rfl) (up_tl _ _ _ _ e2 hG1) rect.ne) rfl)))) (fun hb H2 e2 => ?_) (fun hb H2 e2 => ?_)
    · have z := q H2 (e1.trans e2)
      rw [tr_no (p := Fits G cs M)] at z
      · exact z
      · intro f
        rcases Bool.or_eq_true_iff.mp hb with b | b
        · rw [f.tall] at b
          simp at b
        · rw [List.any_map] at b
          obtain ⟨row, hr, hrb⟩ := List.any_eq_true.mp b
          simp only [Function.comp, id] at hrb
          rw [f.wid row hr] at hrb
          simp at hrb
    have tall : M.length = G.length := by
      have z := (Bool.or_eq_false_iff.mp hb).1
      have := V.int.inj (of_decide_eq_true (nf z))
      omega
    have wid : ∀ row ∈ M, row.length = wide G := fun row hr => by
      have z := (Bool.or_eq_false_iff.mp hb).2
      rw [List.any_map] at z
      have z2 := List.any_eq_false.mp z row hr
      simp only [Function.comp, id, Bool.not_eq_true, Bool.not_eq_false'] at z2
      have := V.int.inj (of_decide_eq_true z2)
      omega
    have h0 : M ≠ [] := fun z => by have := rect.tall; rw [z] at tall; simp at tall; omega
    have rne : ∀ row ∈ M, row ≠ [] := fun row hr z => by have h1 := wid row hr; have h2 := rect.wid; rw [z] at h1; simp at h1; omega
    have hG2 := up_tl _ _ _ _ e2 hG1
    have hM2 := up_tl _ _ _ _ e2 hM1
    -- no number below nought, right sums
    refine q_when (et_or (et_test (ev_oI (ev_minN (el_lcG (S := IL K) (g := V.int) (f := lowest) (src_of (D := IL K) up_il (ev_var rfl) hM2) (by omega) (fun x => rfl) (fun H3 e3 i row x hx hS => ev_minI (ev_var rfl) hS (rne row (List.mem_of_getElem? hx)))) (by simpa using h0)) ev_c))
      fun _ => et_not (et_B (ev_call (ea_cons (ev_var rfl) ea_nil) (v_sums_right (n := wide G) hM2 h0 hl (by have := rect.wid; omega) (by have := rect.wid'; omega) wid)))) (fun hb2 H3 e3 => ?_) (fun hb2 H3 e3 => ?_)
    · have z := q H3 ((e1.trans e2).trans e3)
      rw [tr_no (p := Fits G cs M)] at z
      · exact z
      · intro f
        rcases Bool.or_eq_true_iff.mp hb2 with b | b
        · have b := of_decide_eq_true b
          obtain ⟨n, hn, hn0⟩ := (lowest_neg (by simpa using h0)).mp b
          obtain ⟨row, hr, rfl⟩ := List.mem_map.mp hn
          obtain ⟨m, hm', hm0⟩ := (lowest_neg (rne row hr)).mp hn0
          have := f.nn row hr m hm'
          omega
        · rw [tr_yes f.sums] at b
          cases b
    have nn : ∀ row ∈ M, ∀ n ∈ row, 0 ≤ n := fun row hr n hn => by
      have z := (Bool.or_eq_false_iff.mp hb2).1
      have z := of_decide_eq_false z
      rcases Int.lt_or_le n 0 with c | c
      · exact absurd ((lowest_neg (by simpa using h0)).mpr ⟨lowest row, List.mem_map.mpr ⟨row, hr, rfl⟩, (lowest_neg (rne row hr)).mpr ⟨n, hn, c⟩⟩) z
      · exact c
    have sums : SumsOk (wide G) M := by
      have z := (Bool.or_eq_false_iff.mp hb2).2
      exact tr_iff.mp (nf z)
    have hG3 := up_tl _ _ _ _ e3 hG2
    have hM3 := up_tl _ _ _ _ e3 hM2
    have hv3 := up_cl _ _ _ _ e3 (up_cl _ _ _ _ e2 hv)
    -- shown
    refine q_set (lc_sub (K := K) (S := CellD K) (as := cellsOf G.length (wide G)) (f := fun c => !decide (c ∈ ds)) (σ := [some g, some hid, some t, some v, none, none, none, none]) (vs := [5]) (j := 5) (t := (tTest (tOp (rNotInD K) (tVar 5) (tVar 3)))) up_cell (src_all (ev_var (i := 0) rfl) hG3 rect)
      (by rw [cellsOf_len]; exact Nat.le_trans (Nat.mul_le_mul rect.tall' rect.wid') (by decide)) (fun x => rfl) (fun x => rfl) (fun H4 e4 i c x hx hS => ?_) H3 (Same.refl _) _ fun p ys H4 hp e4 hl4 pd => ?_)
    · refine et_test (ev_op (ev_var rfl) (ev_var rfl) (rv_val fun H5 e5 Q' q' => ?_))
      refine ⟨cellP c, ds.map cellP, dp_cell (up_cell _ _ _ _ e5 hS), dp_cl (up_cl _ _ _ _ (e4.trans e5) hv3), shp_cell c, shp_cells ds, ?_⟩
      rw [any_cell]
      exact q'
    -- the numbers shown
    have hG4 := up_tl _ _ _ _ e4 hG3
    have hM4 := up_tl _ _ _ _ e4 hM3
    have inG : ∀ c ∈ (cellsOf G.length (wide G)).filter (fun c => !decide (c ∈ ds)), IsCell G c ∧ c ∉ ds := fun c hc => by
      have z := List.mem_filter.mp hc
      exact ⟨mem_cellsOf.mp z.1, by simpa using z.2⟩
    refine s_ret (ev_allN (el_lcC (K := K) (g := V.bl) (f := fun c => decide (V.int (at2 M c) = V.int (at2 G c))) (as := (cellsOf G.length (wide G)).filter (fun c => !decide (c ∈ ds))) (src_of (D := CellD K) up_cell (ev_var rfl) (lof_new hl4 pd))
      (Nat.le_trans (List.length_filter_le _ _) (by rw [cellsOf_len]; exact Nat.le_trans (Nat.mul_le_mul rect.tall' rect.wid') (by decide))) (fun x y => rfl) (fun H5 e5 c hc => ?_))) (fun H5 e5 => ?_)
    · obtain ⟨⟨⟨c1, c2⟩, c3, c4⟩, _⟩ := inG c hc
      refine ev_eqS (ev_at2 (ev_var rfl) (ev_var rfl) (ev_var rfl) (up_tl _ _ _ _ e5 hM4) ⟨c1, by omega⟩ ⟨c3, ?_⟩) (ev_at2 (ev_var rfl) (ev_var rfl) (ev_var rfl) (up_tl _ _ _ _ e5 hG4) ⟨c1, c2⟩ ⟨c3, ?_⟩) rfl
      · rw [wid _ (getD_mem (by omega))]; exact c4
      · rw [rect.rows _ (getD_mem (by omega))]; exact c4
    · have z := q H5 ((((e1.trans e2).trans e3).trans e4).trans e5)
      refine tr_q z ?_
      rw [List.all_map, List.all_eq_true]
      constructor
      · intro h
        refine ⟨tall, wid, nn, sums, fun c hc hn => ?_⟩
        have := h c (List.mem_filter.mpr ⟨mem_cellsOf.mpr hc, by simpa using fun z => hn ((hm c).mp z)⟩)
        simp only [Function.comp, id] at this
        exact V.int.inj (of_decide_eq_true this)
      · intro f c hc
        simp only [Function.comp, id]
        obtain ⟨h1, h2⟩ := inG c hc
        exact decide_eq_true (congrArg V.int (f.shown c h1 fun z => h2 ((hm c).mpr z)))
end S38
namespace S38
open PySem PySem.Spec PyProof.Rows L2 GK Evl
variable {P : Program} {w : World} {K : PySem.W.Frag} {mg : Str → Option Value} {base : Heap}
/-! ### _law_cells -/
def sp__law_cells (K : PySem.W.Frag) : Sp := fun vs H Q _ => ∃ (g : V) (M : List (List Int)), vs = [g] ∧ TL K H g M ∧ M ≠ [] ∧ M.length ≤ 100 ∧ wide M ≤ 100 ∧
  ∀ v H', Same H H' → NL (CellD K) (dif H H') v (cellsOf M.length (wide M)).dropLast → Q v H'
theorem cellsOf_succ (n m : Nat) : cellsOf (n + 1) m = cellsOf n m ++ (List.range m).map fun (j : Nat) => ((n : Int), (j : Int)) := by
  unfold cellsOf
  rw [pairs_succ, List.map_append, List.map_map]
  rfl
theorem ok__law_cells (T : Txt K mg) : FnOk P w K mg base CX0 1 T.a__law_cells T.d__law_cells ["_law_grid"] (sp__law_cells K) := by
  refine T.F__law_cells.ok sc__law_cells (fun vs H Q E h => ?_) (fun cdv A outer s H vs Q E hr h => ?_)
  · obtain ⟨g, M, rfl, _⟩ := h
    rfl
  · obtain ⟨g, M, rfl, hM, h0, hl, hw, q⟩ := h
    refine ⟨(tSeq (tAsg (tLst tNil) (gName 1))
  (tSeq (tFor (iRng1 (tCons (tCB (gLenQ K) (tCons (tVar 0) tNil)) tNil)) (gName 2)
  (tDrop (tBM K "list" rExtend (tVar 1) (tCons (tLc (iRng1 (tCons (tCB (gLenQ K) (tCons (tOp (rIxL K) (tVar 0) (tC (.int 0))) tNil)) tNil)) (gName 3) tYes (tTup (tCons (tVar 2) (tCons (tVar 3) tNil))) [3]) tNil))))
  (tRet (tSl (rSlL K) (tVar 1) tNoPart (tPart (tUn (rU fun i => .int (-i)) (tC (.int 1)))))))),
(pss_cons (ps_set (i := 1) sc__law_cells.nd rfl (.inl rfl) (pe_lst pa_nil))
  (pss_cons (ps_for PassesOwn.never rfl (pi_range1 (by rfl) T.z_range (pa_cons (pe_callB call_len_seq (by rfl) T.z_len (by decide +kernel) (pa_cons (pv 0) pa_nil)) pa_nil)) (pg_name (i := 2) sc__law_cells.nd rfl (.inr rfl))
  (pss_one (ps_expr (pe_bm PySem.F.plainAttrs_list PySem.F.slot_list_extend PySem.F.type_list_extend mt_extend (pv 1) (pa_cons (pe_lc (own := [("_law_column", 3)]) (g := (gName 3)) (tt := tYes) (te := (tTup (tCons (tVar 2) (tCons (tVar 3) tNil)))) rfl sc__law_cells.nd (pi_range1 (by rfl) T.z_range (pa_cons (pe_callB call_len_seq (by rfl) T.z_len (by decide +kernel) (pa_cons (pe_ix ix_list (pv 0) pe_int (fun _ _ => rfl)) pa_nil)) pa_nil)) (blkOk_by (N := ["_law_grid", "_law_result", "_law_row", "_law_column"]) (sc := defScope s__law_cells) (own := [("_law_column", 3)]) (by decide +kernel)) (fun _ _ _ _ _ => (pg_name (i := 3) sc__law_cells.nd rfl (.inl rfl))) (fun _ _ _ _ _ => pts_nil) (fun _ _ _ _ _ => (pe_tup (pa_cons (pv 2) (pa_cons (pv 3) pa_nil))))) pa_nil)))))
  (pss_one (ps_ret (pe_slice sl_list (pv 1) po_none (po_some (pe_un un_neg pe_int))))))), ?_⟩
    refine ⟨Nat.zero_le _, fun o no => ?_⟩
    have s1 : Same H (upd H o (.lst [])) := same_new no
    refine q_forR1 (n := (M.length : Int)) (ea_cons (ev_lenD (ev_var rfl) (up_tl _ _ _ _ s1 hM)) ea_nil) (by omega)
      (fun i σ' H' => Same H H' ∧ (∃ y, σ' = [some g, some (.ref o), y, none]) ∧ ∃ ys, H' o = some (.lst ys) ∧ Paired (CellD K (dif H (off o H'))) ys (cellsOf i (wide M)))
      (fun H1 e1 => ⟨s1.trans e1, ⟨none, rfl⟩, [], e1 _ _ upd_same, .nil⟩) (fun i σ' H' hi p => ?_) (fun σ' H' p => ?_)
    · obtain ⟨e, ⟨y, rfl⟩, ys, ho, pd⟩ := p
      have hM' := up_tl _ _ _ _ e hM
      have ev := en_lcRA (n := (wide M : Int)) (σ := [some g, some (.ref o), some (.int (i : Int)), none]) (H := H') (vs := [3]) (j := 3) (te := (tTup (tCons (tVar 2) (tCons (tVar 3) tNil)))) (ta := (tCons (tCB (gLenQ K) (tCons (tOp (rIxL K) (tVar 0) (tC (.int 0))) tNil)) tNil))
        (D := fun j H v => CellD K H v ((i : Int), (j : Int))) (ea_cons (ev_lenRow (ev_var rfl) hM' h0) ea_nil) (by omega) (fun a H H' v e h => up_cell _ _ _ _ e h) (fun x => rfl)
        (fun H1 e1 j hj => (en_u (eu_tup (ea_cons (ev_var rfl) (ea_cons (ev_var rfl) ea_nil)) small2)).imp fun H' v ⟨p, ev, hp⟩ => ⟨p, ev, SqT.of hp⟩)
      refine ⟨.ref o, rfl, Or.inl ⟨rfl, ys, SqL.of ho⟩, ev H' (Same.refl _) _ fun v H2 e2 hv => ?_⟩
      obtain ⟨p, zs, rfl, hz, pz⟩ := hv
      obtain ⟨hp1, hp2⟩ := dif_some.mp hz
      have ho2 : H2 o = some (.lst ys) := e2 _ _ ho
      have hly := pd_len pd
      rw [cellsOf_len] at hly
      have hlz := pd_len pz
      rw [List.length_range, Int.toNat_natCast] at hlz
      have hbig : i * wide M ≤ 100 * 100 := Nat.mul_le_mul (by omega) hw
      refine ⟨o, p, ys, zs, rfl, rfl, ho2, hp2, ?_, same_mut (e.trans e2) no, ⟨_, rfl⟩, ys ++ zs, upd_same, ?_⟩
      · exact Nat.le_trans (by omega : ys.length + zs.length ≤ 20000) (by decide)
      · rw [cellsOf_succ, off_upd]
        refine pd_append (pd_imp (fun x c r => up_cell _ _ _ _ (dif_mono (Same.refl _) (off_mono e2)) r) pd) ?_
        rw [Int.toNat_natCast] at pz
        refine pd_mapR (f := fun (j : Nat) => ((i : Int), (j : Int))) (pd_imp (fun x j r => up_cell _ _ _ _ (fun c o' hc => ?_) r) pz)
        obtain ⟨c1, c2⟩ := dif_some.mp hc
        exact dif_some.mpr ⟨e.free c1, off_some.mpr ⟨fun z => (by subst z; rw [ho] at c1; cases c1), c2⟩⟩
    · obtain ⟨e, ⟨y, rfl⟩, ys, ho, pd⟩ := p
      rw [Int.toNat_natCast] at pd
      have z := el_sl (K := K) (σ := [some g, some (.ref o), y, none]) (te := tVar 1) (ev_var rfl) eo_none (eo_some ev_neg1) (SqL.of ho)
      rw [cut_init (α := Int)] at z
      refine s_retL z fun p H2 hp e2 h2 => q _ H2 (e.trans e2) ⟨p, _, rfl, dif_some.mpr ⟨e.free hp, h2⟩, ?_⟩
      rw [List.dropLast_eq_take, List.dropLast_eq_take, pd_len pd]
      exact pd_take _ (pd_imp (fun x c r => up_cell _ _ _ _ (dif_mono (Same.refl _) (Same.trans (off_same _ _) e2)) r) pd)
/-! ### _law_fits -/
def sp__law_fits (K : PySem.W.Frag) : Sp := fun vs H Q _ => ∃ (g hid t : V) (G : List (List Int)) (cs : List (Int × Int)) (T : List (List Int)), vs = [g, hid, t] ∧ TL K H g G ∧ Rect G ∧ CL K H hid cs ∧ Hid G cs ∧ TL K H t T ∧ T.length ≤ 1000 ∧
  ∀ H', Same H H' → Q (.bl (tr (Fits G cs T))) H'
theorem v_law_fits {g hid t : V} {G T : List (List Int)} {cs : List (Int × Int)} {H : Hp} (h1 : TL K H g G) (h2 : Rect G) (h3 : CL K H hid cs) (h4 : Hid G cs) (h5 : TL K H t T) (h6 : T.length ≤ 1000) : SpV (sp__law_fits K) [g, hid, t] H (.bl (tr (Fits G cs T))) := fun H1 e Q q E =>
  ⟨g, hid, t, G, cs, T, rfl, up_tl _ _ _ _ e h1, h2, up_cl _ _ _ _ e h3, h4, up_tl _ _ _ _ e h5, h6, q⟩
theorem filter_nil {α : Type} {f : α → Bool} {as : List α} : as.filter f = [] ↔ ∀ a ∈ as, f a = false := by
  rw [List.filter_eq_nil_iff]
  exact ⟨fun h a ha => by simpa using h a ha, fun h a ha => by rw [h a ha]; decide⟩
theorem cells_all {h w : Nat} (h1 : 0 < h) (h2 : 0 < w) (c : Int × Int) : c ∈ (cellsOf h w).dropLast ++ [((h : Int) - 1, (w : Int) - 1)] ↔ c ∈ cellsOf h w := by
  have e : cellsOf h w = (cellsOf h w).dropLast ++ [((h : Int) - 1, (w : Int) - 1)] := by
    obtain ⟨n, rfl⟩ : ∃ n, h = n + 1 := ⟨h - 1, by omega⟩
    obtain ⟨m, rfl⟩ : ∃ m, w = m + 1 := ⟨w - 1, by omega⟩
    rw [cellsOf_succ, List.range_succ, List.map_append, ← List.append_assoc]
    show _ = List.dropLast (_ ++ [((n : Int), (m : Int))]) ++ _
    rw [List.dropLast_concat]
    have e1 : ((n + 1 : Nat) : Int) - 1 = (n : Int) := by omega
    have e2 : ((m + 1 : Nat) : Int) - 1 = (m : Int) := by omega
    rw [e1, e2]
    rfl
  rw [← e]
theorem ok__law_fits (T : Txt K mg) : FnOk P w K mg base CX0 2 T.a__law_fits T.d__law_fits ["_law_grid", "_law_hidden", "_law_table"] (sp__law_fits K) := by
  have G__law_cells : FnOk P w K mg base CX0 1 T.a__law_cells T.d__law_cells ["_law_grid"] (sp__law_cells K) := ok__law_cells T
  refine T.F__law_fits.ok sc__law_fits (fun vs H Q E h => ?_) (fun cdv A outer s H vs Q E hr h => ?_)
  · obtain ⟨g, hid, t, G, cs, M, rfl, _⟩ := h
    rfl
  · obtain ⟨g, hid, t, G, cs, M, rfl, hG, rect, hc, hh, hM, hl, q⟩ := h
    refine ⟨(tSeq (tIfS (tOr (tTest (tOp rNe (tCB (gLenQ K) (tCons (tVar 2) tNil)) (tCB (gLenQ K) (tCons (tVar 0) tNil)))) (tTest (tOp (rNeD K) (tLc (iList K (tVar 2)) (gName 3) (tTest (tOp rNe (tCB (gLenQ K) (tCons (tVar 3) tNil)) (tCB (gLenQ K) (tCons (tOp (rIxL K) (tVar 0) (tC (.int 0))) tNil)))) (tVar 3) [3]) (tLst tNil)))) (tRet (tC (.bl false))) tNext)
  (tSeq (tFor (iList K (tVar 2)) (gName 3)
  (tIfS (tOr (tTest (tOp (rI0 fun i j => .bl (decide (i < j))) (tCB (rMin K) (tCons (tVar 3) tNil)) (tC (.int 0)))) (tTest (tOp rNe (tCB (rSum K) (tCons (tSl (rSlL K) (tVar 3) tNoPart (tPart (tUn (rU fun i => .int (-i)) (tC (.int 1))))) tNil)) (tOp (rIxL K) (tVar 3) (tUn (rU fun i => .int (-i)) (tC (.int 1))))))) (tRet (tC (.bl false))) tNext))
  (tSeq (tFor (iRng1 (tCons (tCB (gLenQ K) (tCons (tOp (rIxL K) (tVar 0) (tC (.int 0))) tNil)) tNil)) (gName 4)
  (tIfS (tTest (tOp rNe (tCB (rSum K) (tCons (tLc (iList K (tSl (rSlL K) (tVar 2) tNoPart (tPart (tUn (rU fun i => .int (-i)) (tC (.int 1)))))) (gName 3) tYes (tOp (rIxL K) (tVar 3) (tVar 4)) [3]) tNil)) (tOp (rIxL K) (tOp (rIxL K) (tVar 2) (tUn (rU fun i => .int (-i)) (tC (.int 1)))) (tVar 4)))) (tRet (tC (.bl false))) tNext))
  (tSeq (tFor (iList K (tOp rCat (tCall (sp__law_cells K) [] E0 (tCons (tVar 0) tNil)) (tLst (tCons (tTup (tCons (tOp (rI0 fun i j => .int (i - j)) (tCB (gLenQ K) (tCons (tVar 0) tNil)) (tC (.int 1))) (tCons (tOp (rI0 fun i j => .int (i - j)) (tCB (gLenQ K) (tCons (tOp (rIxL K) (tVar 0) (tC (.int 0))) tNil)) (tC (.int 1))) tNil))) tNil)))) (gTup K 2 (gCons (gName 3) (gCons (gName 4) gNil)))
  (tIfS (tAnd (tTest (tOp (rNotInD K) (tTup (tCons (tVar 3) (tCons (tVar 4) tNil))) (tVar 1))) (tTest (tOp rNe (tOp (rIxL K) (tOp (rIxL K) (tVar 2) (tVar 3)) (tVar 4)) (tOp (rIxL K) (tOp (rIxL K) (tVar 0) (tVar 3)) (tVar 4))))) (tRet (tC (.bl false))) tNext))
  (tRet (tC (.bl true))))))),
(pss_cons (ps_if (PW.pt (pw_or (pt_cmpR op_ne (pe_callB call_len_seq (by rfl) T.z_len (by decide +kernel) (pa_cons (pv 2) pa_nil)) (pe_callB call_len_seq (by rfl) T.z_len (by decide +kernel) (pa_cons (pv 0) pa_nil)) (nomark _)) (pw_or1 (pt_cmpR (op_neD hr.units) (pe_lc (own := [("_law_row", 3)]) (g := (gName 3)) (tt := (tTest (tOp rNe (tCB (gLenQ K) (tCons (tVar 3) tNil)) (tCB (gLenQ K) (tCons (tOp (rIxL K) (tVar 0) (tC (.int 0))) tNil))))) (te := (tVar 3)) rfl sc__law_fits.nd (pi_list (pv 2)) (blkOk_by (N := ["_law_grid", "_law_hidden", "_law_table", "_law_row", "_law_column"]) (sc := defScope s__law_fits) (own := [("_law_row", 3)]) (by decide +kernel)) (fun _ _ _ _ _ => (pg_name (i := 3) sc__law_fits.nd rfl (.inl rfl))) (fun _ _ _ _ _ => (pts_one (pt_cmpR op_ne (pe_callB call_len_seq (by rfl) T.z_len (by decide +kernel) (pa_cons (pv 3) pa_nil)) (pe_callB call_len_seq (by rfl) T.z_len (by decide +kernel) (pa_cons (pe_ix ix_list (pv 0) pe_int (fun _ _ => rfl)) pa_nil)) (nomark _)))) (fun _ _ _ _ _ => (pv 3))) (pe_lst pa_nil) (nomark _))))) (pss_one (ps_ret pe_bl)) pss_nil)
  (pss_cons (ps_for PassesOwn.never rfl (pi_list (pv 2)) (pg_name (i := 3) sc__law_fits.nd rfl (.inl rfl))
  (pss_one (ps_if (PW.pt (pw_or (pt_cmpR op_lt (pe_callB (cr_min rfl) (by rfl) T.z_min (by decide +kernel) (pa_cons (pv 3) pa_nil)) pe_int (nomark _)) (pw_or1 (pt_cmpR op_ne (pe_callB (cr_sum rfl) (by rfl) T.z_sum (by decide +kernel) (pa_cons (pe_slice sl_list (pv 3) po_none (po_some (pe_un un_neg pe_int))) pa_nil)) (pe_ix ix_list (pv 3) (pe_un un_neg pe_int) (fun _ _ => rfl)) (nomark _))))) (pss_one (ps_ret pe_bl)) pss_nil)))
  (pss_cons (ps_for PassesOwn.never rfl (pi_range1 (by rfl) T.z_range (pa_cons (pe_callB call_len_seq (by rfl) T.z_len (by decide +kernel) (pa_cons (pe_ix ix_list (pv 0) pe_int (fun _ _ => rfl)) pa_nil)) pa_nil)) (pg_name (i := 4) sc__law_fits.nd rfl (.inr rfl))
  (pss_one (ps_if (pt_cmpR op_ne (pe_callB (cr_sum rfl) (by rfl) T.z_sum (by decide +kernel) (pa_cons (pe_lc (own := [("_law_row", 3)]) (g := (gName 3)) (tt := tYes) (te := (tOp (rIxL K) (tVar 3) (tVar 4))) rfl sc__law_fits.nd (pi_list (pe_slice sl_list (pv 2) po_none (po_some (pe_un un_neg pe_int)))) (blkOk_by (N := ["_law_grid", "_law_hidden", "_law_table", "_law_row", "_law_column"]) (sc := defScope s__law_fits) (own := [("_law_row", 3)]) (by decide +kernel)) (fun _ _ _ _ _ => (pg_name (i := 3) sc__law_fits.nd rfl (.inl rfl))) (fun _ _ _ _ _ => pts_nil) (fun _ _ _ _ _ => (pe_ix ix_list (pv 3) (pv 4) (fun _ _ => rfl)))) pa_nil)) (pe_ix ix_list (pe_ix ix_list (pv 2) (pe_un un_neg pe_int) (fun _ _ => rfl)) (pv 4) (fun _ _ => rfl)) (nomark _)) (pss_one (ps_ret pe_bl)) pss_nil)))
  (pss_cons (ps_for PassesOwn.never rfl (pi_list (pe_op op_cat (pe_call (G__law_cells.mono (by decide)) hr (by rfl) T.g__law_cells T.F__law_cells.kp T.b__law_cells .nil pass0 (pa_cons (pv 0) pa_nil)) (pe_lst (pa_cons (pe_tup (pa_cons (pe_op op_sub (pe_callB call_len_seq (by rfl) T.z_len (by decide +kernel) (pa_cons (pv 0) pa_nil)) pe_int) (pa_cons (pe_op op_sub (pe_callB call_len_seq (by rfl) T.z_len (by decide +kernel) (pa_cons (pe_ix ix_list (pv 0) pe_int (fun _ _ => rfl)) pa_nil)) pe_int) pa_nil))) pa_nil)))) (pg_tup rfl (pgs_cons (pg_name (i := 3) sc__law_fits.nd rfl (.inl rfl)) (pgs_cons (pg_name (i := 4) sc__law_fits.nd rfl (.inr rfl)) pgs_nil)))
  (pss_one (ps_if (PW.pt (pw_and (pt_cmpR (op_notInD (hr65 hr)) (pe_tup (pa_cons (pv 3) (pa_cons (pv 4) pa_nil))) (pv 1) (by rfl)) (pw_and1 (pt_cmpR op_ne (pe_ix ix_list (pe_ix ix_list (pv 2) (pv 3) (fun _ _ => rfl)) (pv 4) (fun _ _ => rfl)) (pe_ix ix_list (pe_ix ix_list (pv 0) (pv 3) (fun _ _ => rfl)) (pv 4) (fun _ _ => rfl)) (nomark _))))) (pss_one (ps_ret pe_bl)) pss_nil)))
  (pss_one (ps_ret pe_bl)))))), ?_⟩
    have no : ∀ H', Same H H' → ¬ Fits G cs M → Q (.bl false) H' := fun H' e n => by
      have z := q H' e
      rw [tr_no n] at z
      exact z
    -- the size
    have evL : Ev (tOp (rNeD K) (tLc (iList K (tVar 2)) (gName 3) (tTest (tOp rNe (tCB (gLenQ K) (tCons (tVar 3) tNil)) (tCB (gLenQ K) (tCons (tOp (rIxL K) (tVar 0) (tC (.int 0))) tNil)))) (tVar 3) [3]) (tLst tNil)) [some g, some hid, some t, none, none] H
        (.bl (!decide ((M.filter fun row => !decide (V.int (row.length : Int) = V.int (wide G : Int))) = []))) := fun H1 e1 Q' q' =>
      lc_sub (K := K) (S := IL K) (f := fun row => !decide (V.int (row.length : Int) = V.int (wide G : Int))) up_il (src_of (D := IL K) up_il (ev_var (i := 2) rfl) hM) (by omega) (fun x => rfl) (fun x => rfl)
        (fun H2 e2 i row x hx hS => et_test (ev_neS (ev_lenD (ev_var rfl) hS) (ev_lenRow (ev_var rfl) (up_tl _ _ _ _ e2 hG) rect.ne) rfl)) H1 e1 _ fun p ys H2 hp e2 hl2 pd =>
          ⟨Nat.zero_le _, fun l hl' => ⟨tabD (M.filter fun row => !decide (V.int (row.length : Int) = V.int (wide G : Int))), tabD [], dp_tl (up_tl _ _ _ _ (same_new hl') (lof_new hl2 pd)), dp_tl (M := []) (lof_new upd_same .nil), shp_tab _, shp_tab _, by
            rw [eqv_tab]
            exact q' _ (e2.trans (same_new hl'))⟩⟩
    refine q_when (et_or (et_test (ev_neS (ev_lenD (ev_var rfl) hM) (ev_lenD (ev_var rfl) hG) rfl)) fun _ => et_test evL) (fun hb H1 e1 => ?_) (fun hb H1 e1 => ?_)
    · refine no H1 e1 fun f => ?_
      rcases Bool.or_eq_true_iff.mp hb with b | b
      · rw [f.tall] at b
        simp at b
      · have z : (M.filter fun row => !decide (V.int (row.length : Int) = V.int (wide G : Int))) = [] := filter_nil.mpr fun row hr => by rw [f.wid row hr]; simp
        rw [decide_eq_true z] at b
        cases b
    have tall : M.length = G.length := by
      have z := (Bool.or_eq_false_iff.mp hb).1
      have := V.int.inj (of_decide_eq_true (nf z))
      omega
    have wid : ∀ row ∈ M, row.length = wide G := fun row hr => by
      have z := filter_nil.mp (of_decide_eq_true (nf (Bool.or_eq_false_iff.mp hb).2)) row hr
      have := V.int.inj (of_decide_eq_true (nf z))
      omega
    have h0 : M ≠ [] := fun z => by have := rect.tall; rw [z] at tall; simp at tall; omega
    have rne : ∀ row ∈ M, row ≠ [] := fun row hr z => by have h1 := wid row hr; have h2 := rect.wid; rw [z] at h1; simp at h1; omega
    -- the rows
    refine q_seq (for_lof (S := IL K) up_il (ev_var rfl) (up_tl _ _ _ _ e1 hM) (fun i σ' H' => Same H1 H' ∧ (∃ y, σ' = [some g, some hid, some t, y, none]) ∧ ∀ row ∈ M.take i, RowOk row ∧ ∀ n ∈ row, 0 ≤ n) (fun H2 e2 => ⟨e2, ⟨none, rfl⟩, by simp⟩) (fun i σ' H' p => p.1) (fun i x row σ' H' hx hS p => ?_) (fun σ' H' p => ?_))
    · obtain ⟨e, ⟨y, rfl⟩, pre⟩ := p
      have hr := List.mem_of_getElem? hx
      refine s_when (et_or (et_test (ev_oI (ev_minI (ev_var rfl) hS (rne row hr)) ev_c)) fun _ => et_test (ev_neS (ev_sumN (el_init (ev_var rfl) hS)) (ev_last (ev_var rfl) hS (rne row hr)) rfl)) (fun hb2 H2 e2 => ?_) (fun hb2 H2 e2 => ?_)
      · refine no H2 ((e1.trans e).trans e2) fun f => ?_
        rcases Bool.or_eq_true_iff.mp hb2 with b | b
        · obtain ⟨n, hn, hn0⟩ := (lowest_neg (rne row hr)).mp (of_decide_eq_true b)
          have := f.nn row hr n hn
          omega
        · have z := f.sums.1 row hr
          unfold RowOk at z
          rw [z] at b
          simp at b
      · refine ⟨e.trans e2, ⟨_, rfl⟩, fun r hr2 => ?_⟩
        rw [List.take_succ, hx] at hr2
        rcases List.mem_append.mp hr2 with z | z
        · exact pre r z
        · rw [List.mem_singleton.mp z]
          obtain ⟨b1, b2⟩ := Bool.or_eq_false_iff.mp hb2
          refine ⟨by unfold RowOk; simpa using b2, fun n hn => ?_⟩
          rcases Int.lt_or_le n 0 with c | c
          · exact absurd ((lowest_neg (rne row hr)).mpr ⟨n, hn, c⟩) (of_decide_eq_false b1)
          · exact c
    obtain ⟨e2, ⟨y, rfl⟩, rows⟩ := p
    rw [List.take_length] at rows
    have e12 := e1.trans e2
    -- the columns
    refine q_forR1 (n := (wide G : Int)) (ea_cons (ev_lenRow (ev_var rfl) (up_tl _ _ _ _ e12 hG) rect.ne) ea_nil) (by have := rect.wid'; omega) (fun i σ' H2 => Same H' H2 ∧ (∃ y z, σ' = [some g, some hid, some t, y, z]) ∧ ∀ k, k < i → ColOk M k) (fun H2 e3 => ⟨e3, ⟨_, _, rfl⟩, fun k hk => absurd hk (Nat.not_lt_zero k)⟩) (fun i σ' H2 hi p => ?_) (fun σ' H2 p => ?_)
    · obtain ⟨e3, ⟨y, z, rfl⟩, pre⟩ := p
      have hM2 := up_tl _ _ _ _ (e12.trans e3) hM
      obtain ⟨a, vs', xl, ea, hs, hat, hD⟩ := last_lof (d := []) hM2 h0
      subst ea
      refine s_when (et_test (ev_neS (ev_sumN (el_lcG (S := IL K) (as := M.dropLast) (g := V.int) (f := fun row => row.getD i 0) (src_init up_il (ev_var rfl) hM2) (by rw [List.length_dropLast]; omega) (fun x => rfl) (fun H3 e4 k row x hx hS => ?_)))
        (ev_at (ev_ixL (ev_var rfl) ev_neg1 hs hat) (ev_var rfl) hD (by rw [wid _ (last_mem h0)]; omega)) rfl)) (fun hb2 H3 e4 => ?_) (fun hb2 H3 e4 => ?_)
      · refine ev_at (ev_var rfl) (ev_var rfl) hS ?_
        rw [wid row (List.dropLast_subset _ (List.mem_of_getElem? hx))]
        omega
      · refine no H3 ((e12.trans e3).trans e4) fun f => ?_
        have z := f.sums.2 i (by omega)
        unfold ColOk at z
        rw [z] at hb2
        simp at hb2
      · refine ⟨e3.trans e4, ⟨_, _, rfl⟩, fun k hk => ?_⟩
        by_cases hki : k = i
        · subst hki
          unfold ColOk
          simpa using hb2
        · exact pre k (by omega)
    obtain ⟨e3, ⟨y, z, rfl⟩, cols⟩ := p
    rw [Int.toNat_natCast] at cols
    have e123 := e12.trans e3
    have hG2 := up_tl _ _ _ _ e123 hG
    have hM2 := up_tl _ _ _ _ e123 hM
    have hc2 := up_cl _ _ _ _ e123 hc
    -- the cells
    have hz : (cellsOf G.length (wide G)).dropLast.length + 1 ≤ 100000 := by
      rw [List.length_dropLast, cellsOf_len]
      have := Nat.mul_le_mul rect.tall' rect.wid'
      omega
    have srcC : Src K (tOp rCat (tCall (sp__law_cells K) [] E0 (tCons (tVar 0) tNil)) (tLst (tCons (tTup (tCons (tOp (rI0 fun i j => .int (i - j)) (tCB (gLenQ K) (tCons (tVar 0) tNil)) (tC (.int 1))) (tCons (tOp (rI0 fun i j => .int (i - j)) (tCB (gLenQ K) (tCons (tOp (rIxL K) (tVar 0) (tC (.int 0))) tNil)) (tC (.int 1))) tNil))) tNil)))
        [some g, some hid, some t, y, z] H2 (CellD K) ((cellsOf G.length (wide G)).dropLast ++ [((G.length : Int) - 1, (wide G : Int) - 1)]) := by
      refine src_nl up_cell (en_cat up_cell (fun H3 e4 Q' q' => ?_) (en_lst1 up_cell ((en_u (eu_tup (ea_cons (ev_oI (ev_lenD (ev_var rfl) hG2) ev_c) (ea_cons (ev_oI (ev_lenRow (ev_var rfl) hG2 rect.ne) ev_c) ea_nil)) small2)).imp fun H' v ⟨p, ev, hp⟩ => ⟨p, ev, SqT.of hp⟩)) hz)
      exact ⟨g, rfl, g, G, rfl, up_tl _ _ _ _ e4 hG2, rect.ne, by have := rect.tall'; omega, by have := rect.wid'; omega, fun v H4 e5 hv => q' v H4 e5 hv⟩
    have inG : ∀ c ∈ (cellsOf G.length (wide G)).dropLast ++ [((G.length : Int) - 1, (wide G : Int) - 1)], IsCell G c := fun c hc' =>
      mem_cellsOf.mp ((cells_all (by have := rect.tall; omega) (by have := rect.wid; omega) c).mp hc')
    refine q_seq (for_src up_cell srcC (fun H3 i σ' H4 => Same H3 H4 ∧ (∃ y z, σ' = [some g, some hid, some t, y, z]) ∧ ∀ c ∈ ((cellsOf G.length (wide G)).dropLast ++ [((G.length : Int) - 1, (wide G : Int) - 1)]).take i, c ∉ cs → at2 M c = at2 G c)
      (fun H3 e4 => ⟨Same.refl _, ⟨_, _, rfl⟩, by simp⟩) (fun H3 i σ' H4 p => p.1) (fun H3 e4 i x c σ' H4 hx hS p => ?_) (fun H3 e4 σ' H4 p => ?_))
    · obtain ⟨e5, ⟨y, z, rfl⟩, pre⟩ := p
      obtain ⟨⟨c1, c2⟩, c3, c4⟩ := inG c (List.mem_of_getElem? hx)
      have e45 : Same H2 H4 := Same.trans e4 e5
      refine g_cell hS ?_
      refine s_when (et_and (et_test (ev_notInC (c := c) (eu_tup (ea_cons (ev_var rfl) (ea_cons (ev_var rfl) ea_nil)) small2) (ev_var rfl) (up_cl _ _ _ _ e45 hc2))) fun _ => et_test (ev_neS (ev_at2 (c := c) (ev_var rfl) (ev_var rfl) (ev_var rfl) (up_tl _ _ _ _ e45 hM2) ⟨c1, by omega⟩ ⟨c3, ?_⟩) (ev_at2 (c := c) (ev_var rfl) (ev_var rfl) (ev_var rfl) (up_tl _ _ _ _ e45 hG2) ⟨c1, c2⟩ ⟨c3, ?_⟩) rfl)) (fun hb2 H5 e6 => ?_) (fun hb2 H5 e6 => ?_)
      · rw [wid _ (getD_mem (by omega))]; exact c4
      · rw [rect.rows _ (getD_mem (by omega))]; exact c4
      · refine no H5 ((e123.trans e45).trans e6) fun f => ?_
        obtain ⟨b1, b2⟩ := Bool.and_eq_true_iff.mp hb2
        have b1 : c ∉ cs := by simpa using b1
        rw [f.shown c ⟨⟨c1, c2⟩, c3, c4⟩ b1] at b2
        simp at b2
      · refine ⟨e5.trans e6, ⟨_, _, rfl⟩, fun d hd hn => ?_⟩
        rw [List.take_succ, hx] at hd
        rcases List.mem_append.mp hd with z | z
        · exact pre d z hn
        · rw [List.mem_singleton.mp z] at hn ⊢
          rw [decide_eq_false hn] at hb2
          simpa using hb2
    · obtain ⟨e5, ⟨y, z, rfl⟩, shown⟩ := p
      rw [List.take_length] at shown
      refine tr_q (b := true) (q H4 (e123.trans (Same.trans e4 e5))) ⟨fun _ => ⟨tall, wid, fun row hr => (rows row hr).2, ⟨fun row hr => (rows row hr).1, cols⟩, fun c hc hn => shown c ((cells_all (by have := rect.tall; omega) (by have := rect.wid; omega) c).mpr (mem_cellsOf.mpr hc)) hn⟩, fun _ => rfl⟩
end S38
namespace S38
open PySem PySem.Spec PyProof.Rows L2 GK Evl
variable {P : Program} {w : World} {K : PySem.W.Frag} {mg : Str → Option Value} {base : Heap}
/-! ### _law_cell, _law_rng -/
def sp__law_cell (K : PySem.W.Frag) : Sp := fun vs H Q _ => ∃ (s : V) (ns : List Int) (i : Nat), vs = [s, .int (i : Int)] ∧ IL K H s ns ∧ ∀ H', Same H H' → Q (.int (ns.getD i 0)) H'
theorem ok__law_cell (T : Txt K mg) : FnOk P w K mg base CX0 1 T.a__law_cell T.d__law_cell ["_law_script", "_law_index"] (sp__law_cell K) := by
  refine T.F__law_cell.ok sc__law_cell (fun vs H Q E h => ?_) (fun cdv A outer s H vs Q E hr h => ?_)
  · obtain ⟨g, ns, i, rfl, _⟩ := h
    rfl
  · obtain ⟨g, ns, i, rfl, hs, q⟩ := h
    refine ⟨(tSeq (tIfS (tTest (tOp (rI0 fun i j => .bl (decide (i < j))) (tVar 1) (tCB (gLenQ K) (tCons (tVar 0) tNil)))) (tRet (tOp (rIxL K) (tVar 0) (tVar 1))) tNext)
  (tRet (tC (.int 0)))),
(pss_cons (ps_if (pt_cmpR op_lt (pv 1) (pe_callB call_len_seq (by rfl) T.z_len (by decide +kernel) (pa_cons (pv 0) pa_nil)) (nomark _)) (pss_one (ps_ret (pe_ix ix_list (pv 0) (pv 1) (fun _ _ => rfl)))) pss_nil)
  (pss_one (ps_ret pe_int))), ?_⟩
    refine q_when (et_test (ev_oI (ev_var rfl) (ev_lenD (ev_var rfl) hs))) (fun hb H1 e1 => ?_) (fun hb H1 e1 => ?_)
    · exact s_ret (ev_at (ev_var rfl) (ev_var rfl) (up_il _ _ _ _ e1 hs) (by have := of_decide_eq_true hb; omega)) fun H2 e2 => q H2 (e1.trans e2)
    · have z := q H1 e1
      have hlt := of_decide_eq_false hb
      rw [List.getD_eq_getElem?_getD, List.getElem?_eq_none (by omega)] at z
      exact z
def sp__law_rng (K : PySem.W.Frag) : Sp := fun vs H Q _ => ∃ (n : Int), vs = [.int n] ∧ ∀ r H', Same H H' → H r = none → Rng H' r → Q (.ref r) H'
theorem small3 {a b c : V} : [a, b, c].length ≤ 100000 := by simp
theorem ok__law_rng (T : Txt K mg) : FnOk P w K mg base CX0 1 T.a__law_rng T.d__law_rng ["_law_cell_here"] (sp__law_rng K) := by
  refine T.F__law_rng.ok sc__law_rng (fun vs H Q E h => ?_) (fun cdv A outer s H vs Q E hr h => ?_)
  · obtain ⟨n, rfl, _⟩ := h
    rfl
  · obtain ⟨n, rfl, q⟩ := h
    refine ⟨(tRet (tLst (tCons (tCB gAbs (tCons (tVar 0) tNil)) (tCons (tOp (rI (fun _ j => 0 < j) fun i j => .int (i % j)) (tCB gInt1 (tCons (tVar 0) tNil)) (tC (.int 2147483629))) (tCons (tC (.int 0)) tNil))))),
(pss_one (ps_ret (pe_lst (pa_cons (pe_callB call_abs (by rfl) T.z_abs (by decide +kernel) (pa_cons (pv 0) pa_nil)) (pa_cons (pe_op op_mod (pe_callTy call_int1 (by rfl) T.z_int (by decide +kernel) (pa_cons (pv 0) pa_nil)) pe_int) (pa_cons pe_int pa_nil)))))), ?_⟩
    exact s_retL (el_lst (ea_cons (ev_abs (ev_var rfl)) (ea_cons (ev_oC (ev_int1 (ev_var rfl)) ev_c (by decide)) (ea_cons ev_c ea_nil))) small3) fun p H1 hp e1 h1 => q p H1 e1 hp ⟨_, _, _, h1⟩
/-! ### _law_draw: some number below the limit -/
def sp__law_draw (K : PySem.W.Frag) : Sp := fun vs H Q _ => ∃ (r : Addr) (n : Int), vs = [.ref r, .int n] ∧ Rng H r ∧ 0 < n ∧ n < 1073741824 ∧ ∀ k H', 0 ≤ k → k < n → Fr r H H' → Q (.int k) H'
theorem ok__law_draw (T : Txt K mg) : FnOk P w K mg base CX0 1 T.a__law_draw T.d__law_draw ["_law_rng_here", "_law_limit"] (sp__law_draw K) := by
  refine T.F__law_draw.ok sc__law_draw (fun vs H Q E h => ?_) (fun cdv A outer s H vs Q E hr h => ?_)
  · obtain ⟨r, n, rfl, _⟩ := h
    rfl
  · obtain ⟨r, n, rfl, ⟨a, b, c, hR⟩, hn0, hn1, q⟩ := h
    refine ⟨(tSeq (tIfS (tTest (tOp (rI0 fun i j => .bl (decide (j ≤ i))) (tOp (rIxL K) (tVar 0) (tC (.int 0))) (tOp (rI CPow fun i j => .int (i ^ j.toNat)) (tC (.int 10)) (tC (.int 18))))) (tSeq (tAsg (tOp (rI (fun _ j => 0 < j) fun i j => .int (i % j)) (tCB gInt1 (tCons (tOp (rIxL K) (tVar 0) (tC (.int 0))) tNil)) (tVar 1)) (gName 2))
  (tSeq (tAsg (tOp (rI CDiv fun i j => .int (i / j)) (tOp (rIxL K) (tVar 0) (tC (.int 0))) (tVar 1)) (gSub (tVar 0) (tC (.int 0)) rSetL))
  (tRet (tVar 2)))) tNext)
  (tSeq (tAsg (tOp (rI0 fun i j => .int (i + j)) (tOp (rIxL K) (tVar 0) (tC (.int 2))) (tC (.int 1))) (gSub (tVar 0) (tC (.int 2)) rSetL))
  (tSeq (tAsg (tOp (rI (fun _ j => 0 < j) fun i j => .int (i % j)) (tCB gInt1 (tCons (tOp (rI CMul fun i j => .int (i * j)) (tOp (rI0 fun i j => .int (i + j)) (tOp (rI0 fun i j => .int (i + j)) (tOp (rIxL K) (tVar 0) (tC (.int 1))) (tOp (rI CMul fun i j => .int (i * j)) (tC (.int 7919)) (tOp (rIxL K) (tVar 0) (tC (.int 2))))) (tC (.int 1))) (tC (.int 48271))) tNil)) (tC (.int 2147483647))) (gName 3))
  (tSeq (tAsg (tOp (rI (fun _ j => 0 < j) fun i j => .int (i % j)) (tCB gInt1 (tCons (tOp (rI CMul fun i j => .int (i * j)) (tVar 3) (tOp (rI0 fun i j => .int (i + j)) (tOp (rI CDiv fun i j => .int (i / j)) (tVar 3) (tC (.int 1013))) (tC (.int 69621)))) tNil)) (tC (.int 2147483587))) (gName 3))
  (tRet (tOp (rI (fun _ j => 0 < j) fun i j => .int (i % j)) (tCB gInt1 (tCons (tOp (rI (fun _ j => 0 < j) fun i j => .int (i % j)) (tCB gInt1 (tCons (tOp (rI0 fun i j => .int (i + j)) (tOp (rI CDiv fun i j => .int (i / j)) (tVar 3) (tC (.int 7))) (tOp (rI CMul fun i j => .int (i * j)) (tOp (rI (fun _ j => 0 < j) fun i j => .int (i % j)) (tCB gInt1 (tCons (tVar 3) tNil)) (tC (.int 7919))) (tC (.int 40692)))) tNil)) (tC (.int 2147483399))) tNil)) (tVar 1))))))),
(pss_cons (ps_if (pt_cmpR op_ge (pe_ix ix_list (pv 0) pe_int (fun _ _ => rfl)) (pe_op op_pow pe_int pe_int) (nomark _)) (pss_cons (ps_set (i := 2) sc__law_draw.nd rfl (.inl rfl) (pe_op op_mod (pe_callTy call_int1 (by rfl) T.z_int (by decide +kernel) (pa_cons (pe_ix ix_list (pv 0) pe_int (fun _ _ => rfl)) pa_nil)) (pv 1)))
  (pss_cons (ps_asg (pe_op op_fdiv (pe_ix ix_list (pv 0) pe_int (fun _ _ => rfl)) (pv 1)) (pg_sub (pv 0) pe_int set_list))
  (pss_one (ps_ret (pv 2))))) pss_nil)
  (pss_cons (ps_asg (pe_op op_add (pe_ix ix_list (pv 0) pe_int (fun _ _ => rfl)) pe_int) (pg_sub (pv 0) pe_int set_list))
  (pss_cons (ps_set (i := 3) sc__law_draw.nd rfl (.inl rfl) (pe_op op_mod (pe_callTy call_int1 (by rfl) T.z_int (by decide +kernel) (pa_cons (pe_op op_mul (pe_op op_add (pe_op op_add (pe_ix ix_list (pv 0) pe_int (fun _ _ => rfl)) (pe_op op_mul pe_int (pe_ix ix_list (pv 0) pe_int (fun _ _ => rfl)))) pe_int) pe_int) pa_nil)) pe_int))
  (pss_cons (ps_set (i := 3) sc__law_draw.nd rfl (.inl rfl) (pe_op op_mod (pe_callTy call_int1 (by rfl) T.z_int (by decide +kernel) (pa_cons (pe_op op_mul (pv 3) (pe_op op_add (pe_op op_fdiv (pv 3) pe_int) pe_int)) pa_nil)) pe_int))
  (pss_one (ps_ret (pe_op op_mod (pe_callTy call_int1 (by rfl) T.z_int (by decide +kernel) (pa_cons (pe_op op_mod (pe_callTy call_int1 (by rfl) T.z_int (by decide +kernel) (pa_cons (pe_op op_add (pe_op op_fdiv (pv 3) pe_int) (pe_op op_mul (pe_op op_mod (pe_callTy call_int1 (by rfl) T.z_int (by decide +kernel) (pa_cons (pv 3) pa_nil)) pe_int) pe_int)) pa_nil)) pe_int) pa_nil)) (pv 1)))))))), ?_⟩
    have at0 : ∀ {H1 : Hp} {x y z : V}, H1 r = some (.lst [x, y, z]) → SqL K H1 r [x, y, z] := fun h => SqL.of h
    have fr : ∀ {H' : Hp} {x y z : Int}, Same H H' → Fr r H (upd H' r (.lst [.int x, .int y, .int z])) := fun {H' x y z} e => ⟨by rw [off_upd]; exact off_mono e, x, y, z, upd_same⟩
    refine q_when (et_test (ev_oI (ev_ixL (ev_var rfl) ev_c (at0 hR) (atI_nat (j := 0) rfl)) (ev_oC ev_c ev_c (by unfold CPow; decide)))) (fun hb H1 e1 => ?_) (fun hb H1 e1 => ?_)
    · refine q_asg (ev_oC (ev_int1 (ev_ixL (ev_var rfl) ev_c (at0 (e1 _ _ hR)) (atI_nat (j := 0) rfl))) (ev_var rfl) hn0) fun H2 e2 => ?_
      have h2 : H2 r = some (.lst [.int a, .int b, .int c]) := e2 _ _ (e1 _ _ hR)
      refine q_setL (j := 0) h2 (ev_oC (ev_ixL (ev_var rfl) ev_c (at0 h2) (atI_nat (j := 0) rfl)) (ev_var rfl) ⟨hn0, hn1⟩) (ev_var rfl) ev_c (by simp) fun H3 e3 => ?_
      exact s_ret (ev_var rfl) fun H4 e4 => q _ H4 (Int.emod_nonneg _ (by omega)) (Int.emod_lt_of_pos _ hn0) ((fr (e1.trans (e2.trans e3))).then e4)
    · have h1 : H1 r = some (.lst [.int a, .int b, .int c]) := e1 _ _ hR
      refine q_setL (j := 2) h1 (ev_oI (ev_ixL (ev_var rfl) ev_c (at0 h1) (atI_nat (j := 2) rfl)) ev_c) (ev_var rfl) ev_c (by simp) fun H2 e2 => ?_
      have h2 : (upd H2 r (.lst [.int a, .int b, .int (c + 1)])) r = some (.lst [.int a, .int b, .int (c + 1)]) := upd_same
      refine q_asg (ev_oC (ev_int1 (ev_oC (ev_oI (ev_oI (ev_ixL (ev_var rfl) ev_c (at0 h2) (atI_nat (j := 1) rfl)) (ev_oC ev_c (ev_ixL (ev_var rfl) ev_c (at0 h2) (atI_nat (j := 2) rfl)) (.inl (by decide)))) ev_c) ev_c (.inr (by decide)))) ev_c (by decide)) fun H3 e3 => ?_
      generalize hm : ((b + 7919 * (c + 1) + 1) * 48271 % 2147483647 : Int) = m
      have m0 : 0 ≤ m := by rw [← hm]; exact Int.emod_nonneg _ (by decide)
      have m1 : m < 2147483647 := by rw [← hm]; exact Int.emod_lt_of_pos _ (by decide)
      refine q_asg (ev_oC (ev_int1 (ev_oC (ev_var rfl) (ev_oI (ev_oC (ev_var rfl) ev_c ⟨by decide, by decide⟩) ev_c) (.inl ⟨by omega, by omega⟩))) ev_c (by decide)) fun H4 e4 => ?_
      generalize hk : (m * (m / 1013 + 69621) % 2147483587 : Int) = k
      refine s_ret (ev_oC (ev_int1 (ev_oC (ev_int1 (ev_oI (ev_oC (ev_var rfl) ev_c ⟨by decide, by decide⟩) (ev_oC (ev_oC (ev_int1 (ev_var rfl)) ev_c (by decide)) ev_c (.inr (by decide))))) ev_c (by decide))) (ev_var rfl) hn0) fun H5 e5 => ?_
      exact q _ H5 (Int.emod_nonneg _ (by omega)) (Int.emod_lt_of_pos _ hn0) ((fr (e1.trans e2)).then (e3.trans (e4.trans e5)))
theorem t_draw {σ : L2.St} {H : Hp} {ta : TA} {r : Addr} {n : Int} {Q : VK} (h : EvA ta σ H [.ref r, .int n]) (hr : Rng H r) (h0 : 0 < n) (h1 : n < 1073741824) (k : ∀ k H', 0 ≤ k → k < n → Fr r H H' → Q (.int k) H') : tCall (sp__law_draw K) [] E0 ta σ H Q :=
  t_call h fun H1 e => ⟨r, n, rfl, hr.up e, h0, h1, fun k' H' a b f => k k' H' a b ((Fr.of hr e).trans f)⟩
/-! ### _law_pick: one of the items -/
def sp__law_pick (K : PySem.W.Frag) : Sp := fun vs H Q _ => ∃ (r a : Addr) (xs : List V), vs = [.ref r, .ref a] ∧ Rng H r ∧ SqL K (off r H) a xs ∧ xs ≠ [] ∧ xs.length < 1073741824 ∧ ∀ x H', x ∈ xs → Fr r H H' → Q x H'
theorem at_in {α : Type} {xs : List α} {k : Int} (h0 : 0 ≤ k) (h1 : k < xs.length) : ∃ x, atI xs k = some x ∧ x ∈ xs := by
  have hk : k.toNat < xs.length := by omega
  refine ⟨xs[k.toNat], ?_, List.getElem_mem hk⟩
  have z := atI_nat (xs := xs) (j := k.toNat) (List.getElem?_eq_getElem hk)
  rw [Int.toNat_of_nonneg h0] at z
  exact z
theorem ok__law_pick (T : Txt K mg) : FnOk P w K mg base CX0 2 T.a__law_pick T.d__law_pick ["_law_rng_here", "_law_items"] (sp__law_pick K) := by
  have G__law_draw : FnOk P w K mg base CX0 1 T.a__law_draw T.d__law_draw ["_law_rng_here", "_law_limit"] (sp__law_draw K) := ok__law_draw T
  refine T.F__law_pick.ok sc__law_pick (fun vs H Q E h => ?_) (fun cdv A outer s H vs Q E hr h => ?_)
  · obtain ⟨r, a, xs, rfl, _⟩ := h
    rfl
  · obtain ⟨r, a, xs, rfl, hR, hx, h0, h1, q⟩ := h
    refine ⟨(tRet (tOp (rIxL K) (tVar 1) (tCall (sp__law_draw K) [] E0 (tCons (tVar 0) (tCons (tCB (gLenQ K) (tCons (tVar 1) tNil)) tNil))))),
(pss_one (ps_ret (pe_ix ix_list (pv 1) (pe_call (G__law_draw.mono (by decide)) hr (by rfl) T.g__law_draw T.F__law_draw.kp T.b__law_draw .nil pass0 (pa_cons (pv 0) (pa_cons (pe_callB call_len_seq (by rfl) T.z_len (by decide +kernel) (pa_cons (pv 1) pa_nil)) pa_nil))) (fun _ _ => rfl)))), ?_⟩
    have pos := List.length_pos_iff.mpr h0
    refine ⟨.ref a, rfl, t_draw (n := (xs.length : Int)) (ea_cons (ev_var rfl) (ea_cons (ev_lenS (ev_var rfl) (.inl (sq_mono (off_same _ _) hx))) ea_nil)) hR (by omega) (by omega) fun k H1 k0 k1 f => ?_⟩
    obtain ⟨x, hx1, hx2⟩ := at_in k0 k1
    exact ⟨a, xs, k, x, rfl, rfl, sq_mono (off_same _ _) (sq_mono f.same hx), hx1, q x H1 hx2 f⟩
end S38
namespace S38
open PySem PySem.Spec PyProof.Rows L2 GK Evl
variable {P : Program} {w : World} {K : PySem.W.Frag} {mg : Str → Option Value} {base : Heap}
theorem Rng.some {H : Hp} {r : Addr} (h : Rng H r) : ∃ o, H r = some o := by obtain ⟨a, b, c, e⟩ := h; exact ⟨_, e⟩
/-! ### _law_sample: some of the items -/
def sp__law_sample (K : PySem.W.Frag) : Sp := fun vs H Q _ => ∃ (r a : Addr) (xs : List V) (c : Nat), vs = [.ref r, .ref a, .int (c : Int)] ∧ Rng H r ∧ SqL K (off r H) a xs ∧ c ≤ xs.length ∧ xs.length ≤ 1000 ∧
  ∀ p ys H', Fr r H H' → H p = none → H' p = some (.lst ys) → (∀ y ∈ ys, y ∈ xs) → ys.length = c → Q (.ref p) H'
theorem ok__law_sample (T : Txt K mg) : FnOk P w K mg base CX0 2 T.a__law_sample T.d__law_sample ["_law_rng_here", "_law_items", "_law_count"] (sp__law_sample K) := by
  have G__law_draw : FnOk P w K mg base CX0 1 T.a__law_draw T.d__law_draw ["_law_rng_here", "_law_limit"] (sp__law_draw K) := ok__law_draw T
  refine T.F__law_sample.ok sc__law_sample (fun vs H Q E h => ?_) (fun cdv A outer s H vs Q E hr h => ?_)
  · obtain ⟨r, a, xs, c, rfl, _⟩ := h
    rfl
  · obtain ⟨r, a, xs, c, rfl, hR, hx, hc, hl, q⟩ := h
    refine ⟨(tSeq (tAsg (tCB (gListOf K) (tCons (tVar 1) tNil)) (gName 3))
  (tRet (tLc (iRng1 (tCons (tVar 2) tNil)) (gName 4) tYes (tBM K "list" rPopAt (tVar 3) (tCons (tCall (sp__law_draw K) [] E0 (tCons (tVar 0) (tCons (tCB (gLenQ K) (tCons (tVar 3) tNil)) tNil))) tNil)) [4]))),
(pss_cons (ps_set (i := 3) sc__law_sample.nd rfl (.inr rfl) (pe_callTy call_list_of (by rfl) T.z_list (by decide +kernel) (pa_cons (pv 1) pa_nil)))
  (pss_one (ps_ret (pe_lc (own := [("_law_index", 4)]) (g := (gName 4)) (tt := tYes) (te := (tBM K "list" rPopAt (tVar 3) (tCons (tCall (sp__law_draw K) [] E0 (tCons (tVar 0) (tCons (tCB (gLenQ K) (tCons (tVar 3) tNil)) tNil))) tNil))) rfl sc__law_sample.nd (pi_range1 (by rfl) T.z_range (pa_cons (pv 2) pa_nil)) (blkOk_by (N := ["_law_rng_here", "_law_items", "_law_count", "_law_left", "_law_index"]) (sc := defScope s__law_sample) (own := [("_law_index", 4)]) (by decide +kernel)) (fun _ _ _ _ _ => (pg_name (i := 4) sc__law_sample.nd rfl (.inl rfl))) (fun _ _ _ _ _ => pts_nil) (fun _ _ _ _ _ => (pe_bm PySem.F.plainAttrs_list PySem.F.slot_list_pop PySem.F.type_list_pop mt_popAt (pv 3) (pa_cons (pe_call (G__law_draw.mono (by decide)) hr (by rfl) T.g__law_draw T.F__law_draw.kp T.b__law_draw .nil pass0 (pa_cons (pv 0) (pa_cons (pe_callB call_len_seq (by rfl) T.z_len (by decide +kernel) (pa_cons (pv 3) pa_nil)) pa_nil))) pa_nil))))))), ?_⟩
    obtain ⟨o, hro⟩ := Rng.some hR
    refine q_asgL (el_listOf (ev_var rfl) (.inl (sq_mono (off_same _ _) hx))) fun l H1 hl1 e1 h1 => ?_
    have e1 : Same H H1 := e1
    have nl : l ≠ r := fun z => by subst z; rw [hro] at hl1; cases hl1
    have hR1 := hR.up e1
    refine ⟨.int (c : Int), rfl, (c : Int), rfl, by omega, by omega, fun Dl hD => ?_⟩
    have nD : Dl ≠ r := fun z => by subst z; rw [e1 _ _ hro] at hD; cases hD
    have nDl : Dl ≠ l := fun z => by subst z; rw [h1] at hD; cases hD
    refine lc_range (fun i H2 => Fr r H H2 ∧ ∃ left ys, H2 l = some (.lst left) ∧ H2 Dl = some (.lst ys) ∧ left.length + i = xs.length ∧ ys.length = i ∧ (∀ x ∈ left, x ∈ xs) ∧ ∀ y ∈ ys, y ∈ xs)
      ⟨(Fr.of hR e1).mut (e1.free hD) nD, xs, [], by rw [upd_ne (Ne.symm nDl)]; exact h1, upd_same, by omega, rfl, fun x hx => hx, fun y hy => (by cases hy)⟩ (fun i H2 hi p => ?_) (fun H2 p => ?_)
    · obtain ⟨f, left, ys, hl2, hD2, len, leny, inl, iny⟩ := p
      have hi' : i < c := by simpa using hi
      refine ⟨rfl, yes_of ?_⟩
      refine ⟨.ref l, rfl, Or.inl ⟨rfl, left, SqL.of hl2⟩, ?_⟩
      refine t_draw (n := (left.length : Int)) (ea_cons (ev_var rfl) (ea_cons (ev_lenS (ev_var rfl) (.inl (SqL.of hl2))) ea_nil)) f.rng (by omega) (by omega) fun k H3 k0 k1 f3 => ?_
      have hl3 := fr_keep f3 nl hl2
      have hD3 := fr_keep f3 nD hD2
      have hk : k.toNat < left.length := by omega
      have hix : ixN left.length k = some k.toNat := by
        have z := ixN_nat (n := left.length) hk
        rw [Int.toNat_of_nonneg k0] at z
        exact z
      refine ⟨l, left, k, k.toNat, left[k.toNat], rfl, rfl, hl3, by omega, by omega, (ixN_seq hix).1, List.getElem?_eq_getElem hk, ys, by rw [upd_ne nDl]; exact hD3, Nat.lt_of_le_of_lt (by omega : ys.length ≤ 100000) (by decide), ?_, left.eraseIdx k.toNat, ys ++ [left[k.toNat]], ?_, upd_same, ?_, ?_, ?_, ?_⟩
      · exact ((f.trans f3).mut hl1 nl).mut (e1.free hD) nD
      · rw [upd_ne (Ne.symm nDl), upd_same]
      · rw [List.length_eraseIdx_of_lt hk]; omega
      · rw [List.length_append, leny]; rfl
      · exact fun x hx => inl x (List.mem_of_mem_eraseIdx hx)
      · intro y hy
        rcases List.mem_append.mp hy with z | z
        · exact iny y z
        · rw [List.mem_singleton.mp z]; exact inl _ (List.getElem_mem hk)
    · obtain ⟨f, left, ys, hl2, hD2, len, leny, inl, iny⟩ := p
      exact q Dl ys H2 f (e1.free hD) hD2 iny (by simpa using leny)
/-! ### _law_with_sums -/
def withRows (M : List (List Int)) : List (List Int) := M.map fun r => r ++ [r.sum]
def withSums (n : Nat) (M : List (List Int)) : List (List Int) := withRows M ++ [(List.range (n + 1)).map fun k => ((withRows M).map fun row => row.getD k 0).sum]
def sp__law_with_sums (K : PySem.W.Frag) : Sp := fun vs H Q _ => ∃ (c : V) (n : Nat) (M : List (List Int)), vs = [c] ∧ TL K H c M ∧ M ≠ [] ∧ M.length ≤ 100 ∧ n ≤ 100 ∧ (∀ row ∈ M, row.length = n) ∧
  ∀ v H', Same H H' → NL (IL K) (dif H H') v (withSums n M) → Q v H'
theorem ok__law_with_sums (T : Txt K mg) : FnOk P w K mg base CX0 1 T.a__law_with_sums T.d__law_with_sums ["_law_cells_here"] (sp__law_with_sums K) := by
  refine T.F__law_with_sums.ok sc__law_with_sums (fun vs H Q E h => ?_) (fun cdv A outer s H vs Q E hr h => ?_)
  · obtain ⟨c, n, M, rfl, _⟩ := h
    rfl
  · obtain ⟨c, n, M, rfl, hM, h0, hl, hn, hw, q⟩ := h
    refine ⟨(tSeq (tAsg (tLc (iList K (tVar 0)) (gName 2) tYes (tOp rCat (tCB (gListOf K) (tCons (tVar 2) tNil)) (tLst (tCons (tCB (rSum K) (tCons (tVar 2) tNil)) tNil))) [2]) (gName 1))
  (tSeq (tDrop (tBM K "list" rAppend (tVar 1) (tCons (tLc (iRng1 (tCons (tCB (gLenQ K) (tCons (tOp (rIxL K) (tVar 1) (tC (.int 0))) tNil)) tNil)) (gName 3) tYes (tCB (rSum K) (tCons (tLc (iList K (tVar 1)) (gName 2) tYes (tOp (rIxL K) (tVar 2) (tVar 3)) [2]) tNil)) [3]) tNil)))
  (tRet (tVar 1)))),
(pss_cons (ps_set (i := 1) sc__law_with_sums.nd rfl (.inr rfl) (pe_lc (own := [("_law_row", 2)]) (g := (gName 2)) (tt := tYes) (te := (tOp rCat (tCB (gListOf K) (tCons (tVar 2) tNil)) (tLst (tCons (tCB (rSum K) (tCons (tVar 2) tNil)) tNil)))) rfl sc__law_with_sums.nd (pi_list (pv 0)) (blkOk_by (N := ["_law_cells_here", "_law_rows", "_law_row", "_law_column"]) (sc := defScope s__law_with_sums) (own := [("_law_row", 2)]) (by decide +kernel)) (fun _ _ _ _ _ => (pg_name (i := 2) sc__law_with_sums.nd rfl (.inl rfl))) (fun _ _ _ _ _ => pts_nil) (fun _ _ _ _ _ => (pe_op op_cat (pe_callTy call_list_of (by rfl) T.z_list (by decide +kernel) (pa_cons (pv 2) pa_nil)) (pe_lst (pa_cons (pe_callB (cr_sum rfl) (by rfl) T.z_sum (by decide +kernel) (pa_cons (pv 2) pa_nil)) pa_nil))))))
  (pss_cons (ps_expr (pe_bm PySem.F.plainAttrs_list PySem.F.slot_list_append PySem.F.type_list_append mt_append (pv 1) (pa_cons (pe_lc (own := [("_law_column", 3)]) (g := (gName 3)) (tt := tYes) (te := (tCB (rSum K) (tCons (tLc (iList K (tVar 1)) (gName 2) tYes (tOp (rIxL K) (tVar 2) (tVar 3)) [2]) tNil))) rfl sc__law_with_sums.nd (pi_range1 (by rfl) T.z_range (pa_cons (pe_callB call_len_seq (by rfl) T.z_len (by decide +kernel) (pa_cons (pe_ix ix_list (pv 1) pe_int (fun _ _ => rfl)) pa_nil)) pa_nil)) (blkOk_by (N := ["_law_cells_here", "_law_rows", "_law_row", "_law_column"]) (sc := defScope s__law_with_sums) (own := [("_law_column", 3)]) (by decide +kernel)) (fun _ _ _ _ _ => (pg_name (i := 3) sc__law_with_sums.nd rfl (.inr rfl))) (fun _ _ _ _ _ => pts_nil) (fun _ _ _ _ _ => (pe_callB (cr_sum rfl) (by rfl) T.z_sum (by decide +kernel) (pa_cons (pe_lc (own := [("_law_row", 2)]) (g := (gName 2)) (tt := tYes) (te := (tOp (rIxL K) (tVar 2) (tVar 3))) rfl sc__law_with_sums.nd (pi_list (pv 1)) (blkOk_by (own := [("_law_row", 2)]) (by kernel_rfl)) (fun _ _ _ _ _ => (pg_name (i := 2) sc__law_with_sums.nd rfl (.inl rfl))) (fun _ _ _ _ _ => pts_nil) (fun _ _ _ _ _ => (pe_ix ix_list (pv 2) (pv 3) (fun _ _ => rfl)))) pa_nil)))) pa_nil)))
  (pss_one (ps_ret (pv 1))))), ?_⟩
    refine q_set (lc_own (S := IL K) (as := M) (F := fun r => r ++ [r.sum]) (src_of (D := IL K) up_il (ev_var rfl) hM) (by omega) (fun x => rfl) (fun H1 e1 i row x hx hS => ?_) up_il H (Same.refl _) _ fun o rs H1 e1 m => ?_)
    · obtain ⟨a, rfl, hs⟩ := il_sq hS
      have hrl := hw row (List.mem_of_getElem? hx)
      rw [List.map_append]
      exact el_cat (el_listOf (ev_var rfl) (.inl hs)) (el_lst (ea_cons (ev_sumI (ev_var rfl) hS) ea_nil) (by simp)) (by rw [List.length_map]; simp; omega)
    · have hrows : ∀ row ∈ withRows M, row.length = n + 1 := fun row hr => by
        obtain ⟨r, h1, rfl⟩ := List.mem_map.mp hr
        rw [List.length_append, hw r h1]
        rfl
      have hne : withRows M ≠ [] := by unfold withRows; simpa using h0
      have hwide : wide (withRows M) = n + 1 := by
        cases hM' : withRows M with
        | nil => exact absurd hM' hne
        | cons r M' => exact hrows r (by rw [hM']; exact List.mem_cons_self)
      have m : MT (dif H H1) o rs (withRows M) := m
      have m1 : MT H1 o rs (withRows M) := m.up (dif_same _ _)
      have hlr : rs.length ≤ 100 := by rw [pd_len m.rows]; unfold withRows; rw [List.length_map]; exact hl
      refine q_appL m1.top (ev_var rfl) (el_lcRG (g := V.int) (f := fun k => ((withRows M).map fun row => row.getD k 0).sum) (n := n + 1) (by rw [← hwide]; exact ea_cons (ev_lenRow (ev_var rfl) m1.tab hne) ea_nil) (by omega) (fun x => rfl) (fun H2 e2 k hk => ?_)) (by rw [List.length_map]; omega) fun p H2 hp e2 h2 => ?_
      · exact ev_sumN (el_lcG (S := IL K) (as := withRows M) (g := V.int) (f := fun row => row.getD k 0) (src_of (D := IL K) up_il (ev_var rfl) (m1.up e2).tab) (by unfold withRows; rw [List.length_map]; omega) (fun x => rfl) (fun H3 e3 i row x hx hS => ev_at (ev_var rfl) (ev_var rfl) hS (by rw [hrows row (List.mem_of_getElem? hx)]; exact hk)))
      · have no : H o = none := (dif_some.mp m.top).1
        have npo : p ≠ o := fun z => by subst z; rw [m1.top] at hp; cases hp
        refine s_ret (ev_var rfl) fun H3 e3 => q _ H3 (Same.trans (same_mut (e1.trans e2) no) e3) ⟨o, rs.map V.ref ++ [.ref p], rfl, dif_some.mpr ⟨no, e3 _ _ upd_same⟩, ?_⟩
        refine pd_append (pd_mapL (pd_impM (fun r hr row h => ?_) m.rows)) (.cons ?_ .nil)
        · obtain ⟨h3, h4⟩ := dif_some.mp h
          exact il_of (SqL.of (dif_some.mpr ⟨h3, e3 _ _ (by rw [upd_ne fun z => m.out (by rw [← z]; exact hr)]; exact e2 _ _ h4)⟩))
        · exact il_of (SqL.of (dif_some.mpr ⟨e1.free hp, e3 _ _ (by rw [upd_ne npo]; exact h2)⟩))
/-! ### what with_sums makes has right sums -/
theorem lastD_snoc {α : Type} (a : List α) (x d : α) : (a ++ [x]).getLastD d = x := by rw [List.getLastD_eq_getLast?]; simp
theorem rowOk_snoc (r : List Int) : RowOk (r ++ [r.sum]) := by
  unfold RowOk
  rw [List.dropLast_concat, lastD_snoc]
theorem sum_append (a b : List Int) : (a ++ b).sum = a.sum + b.sum := by
  induction a with
  | nil => simp
  | cons x a ih => rw [List.cons_append, List.sum_cons, List.sum_cons, ih]; omega
theorem sum_nn {ns : List Int} (h : ∀ n ∈ ns, 0 ≤ n) : 0 ≤ ns.sum := by
  induction ns with
  | nil => simp
  | cons a ns ih =>
    rw [List.sum_cons]
    have h1 := h a List.mem_cons_self
    have h2 := ih fun n hn => h n (List.mem_cons_of_mem _ hn)
    omega
theorem sum_map_add {α : Type} (f g : α → Int) (xs : List α) : (xs.map fun x => f x + g x).sum = (xs.map f).sum + (xs.map g).sum := by
  induction xs with
  | nil => simp
  | cons a xs ih => rw [List.map_cons, List.map_cons, List.map_cons, List.sum_cons, List.sum_cons, List.sum_cons, ih]; omega
theorem sum_map_zero {α : Type} (xs : List α) : (xs.map fun _ => (0 : Int)).sum = 0 := by
  induction xs with
  | nil => simp
  | cons a xs ih => rw [List.map_cons, List.sum_cons, ih]; rfl
theorem sum_by_place (r : List Int) (n : Nat) (h : r.length = n) : ((List.range n).map fun k => r.getD k 0).sum = r.sum := by
  subst h
  have e : ((List.range r.length).map fun k => r.getD k 0) = r := by
    apply List.ext_getElem?
    intro i
    rw [List.getElem?_map]
    by_cases hi : i < r.length
    · rw [List.getElem?_range hi, List.getElem?_eq_getElem hi, Option.map_some, List.getD_eq_getElem?_getD, List.getElem?_eq_getElem hi]
      rfl
    · rw [List.getElem?_eq_none (by simpa using hi), List.getElem?_eq_none (by simpa using hi)]
      rfl
  rw [e]
/-- columns' sums together are the rows' sums together -/
theorem sum_swap (n : Nat) : ∀ R : List (List Int), (∀ r ∈ R, r.length = n + 1) → (∀ r ∈ R, RowOk r) → ((List.range n).map fun k => (R.map fun row => row.getD k 0).sum).sum = (R.map fun row => row.getD n 0).sum
  | [], _, _ => by simp [sum_map_zero]
  | r :: R, h1, h2 => by
    have ih := sum_swap n R (fun x hx => h1 x (List.mem_cons_of_mem _ hx)) (fun x hx => h2 x (List.mem_cons_of_mem _ hx))
    have e : ((List.range n).map fun k => ((r :: R).map fun row => row.getD k 0).sum) = (List.range n).map fun k => r.getD k 0 + (R.map fun row => row.getD k 0).sum := by
      apply List.map_congr_left
      intro k _
      rw [List.map_cons, List.sum_cons]
    rw [e, sum_map_add, ih, List.map_cons, List.sum_cons]
    have hl := h1 r List.mem_cons_self
    have hr := h2 r List.mem_cons_self
    obtain ⟨d, x, rfl⟩ : ∃ d x, r = d ++ [x] := by
      have h0 : r ≠ [] := fun z => by rw [z] at hl; simp at hl
      exact ⟨r.dropLast, r.getLast h0, (List.dropLast_concat_getLast h0).symm⟩
    unfold RowOk at hr
    rw [List.dropLast_concat] at hr
    have hd : d.length = n := by rw [List.length_append] at hl; simpa using hl
    have e2 : ((List.range n).map fun k => (d ++ [x]).getD k 0) = (List.range n).map fun k => d.getD k 0 := by
      apply List.map_congr_left
      intro k hk
      have hk := List.mem_range.mp hk
      rw [List.getD_eq_getElem?_getD, List.getD_eq_getElem?_getD, List.getElem?_append_left (by omega)]
    have e3 : (d ++ [x]).getD n 0 = x := by
      rw [List.getD_eq_getElem?_getD, List.getElem?_append_right (by omega), hd, Nat.sub_self]
      rfl
    have e4 : (d ++ [x]).getLastD 0 = x := lastD_snoc _ _ _
    rw [e2, sum_by_place d n hd, e3, hr, e4]
theorem withRows_len {n : Nat} {M : List (List Int)} (hw : ∀ row ∈ M, row.length = n) : ∀ row ∈ withRows M, row.length = n + 1 := fun row hr => by
  obtain ⟨r, h1, rfl⟩ := List.mem_map.mp hr
  rw [List.length_append, hw r h1]
  rfl
theorem withSums_rows {n : Nat} {M : List (List Int)} (hw : ∀ row ∈ M, row.length = n) : ∀ row ∈ withSums n M, row.length = n + 1 := fun row hr => by
  rcases List.mem_append.mp hr with z | z
  · exact withRows_len hw row z
  · rw [List.mem_singleton.mp z]; simp
theorem withSums_wide {n : Nat} {M : List (List Int)} (h0 : M ≠ []) (hw : ∀ row ∈ M, row.length = n) : wide (withSums n M) = n + 1 := by
  cases M with
  | nil => exact absurd rfl h0
  | cons r M => exact withSums_rows hw _ (by unfold withSums withRows; simp)
theorem withSums_tall (n : Nat) (M : List (List Int)) : (withSums n M).length = M.length + 1 := by unfold withSums withRows; simp
theorem withSums_ok {n : Nat} {M : List (List Int)} (hw : ∀ row ∈ M, row.length = n) : SumsOk (n + 1) (withSums n M) := by
  have hr : ∀ row ∈ withRows M, RowOk row := fun row hr => by
    obtain ⟨r, _, rfl⟩ := List.mem_map.mp hr
    exact rowOk_snoc r
  refine ⟨fun row hrow => ?_, fun k hk => ?_⟩
  · rcases List.mem_append.mp hrow with z | z
    · exact hr row z
    · rw [List.mem_singleton.mp z]
      unfold RowOk
      rw [List.range_succ, List.map_append]
      show (List.dropLast (_ ++ [_])).sum = List.getLastD (_ ++ [_]) 0
      rw [List.dropLast_concat, sum_swap n (withRows M) (withRows_len hw) hr, lastD_snoc]
  · unfold ColOk withSums
    rw [List.dropLast_concat]
    have e : (withRows M ++ [(List.range (n + 1)).map fun k => ((withRows M).map fun row => row.getD k 0).sum]).getLastD [] = (List.range (n + 1)).map fun k => ((withRows M).map fun row => row.getD k 0).sum := lastD_snoc _ _ _
    rw [e, List.getD_eq_getElem?_getD, List.getElem?_map, List.getElem?_range hk]
    rfl
theorem withSums_nn {n : Nat} {M : List (List Int)} (h : ∀ row ∈ M, ∀ x ∈ row, 0 ≤ x) : ∀ row ∈ withSums n M, ∀ x ∈ row, 0 ≤ x := by
  have h1 : ∀ row ∈ withRows M, ∀ x ∈ row, 0 ≤ x := fun row hr x hx => by
    obtain ⟨r, h2, rfl⟩ := List.mem_map.mp hr
    rcases List.mem_append.mp hx with z | z
    · exact h r h2 x z
    · rw [List.mem_singleton.mp z]; exact sum_nn (h r h2)
  intro row hr x hx
  rcases List.mem_append.mp hr with z | z
  · exact h1 row z x hx
  · rw [List.mem_singleton.mp z] at hx
    obtain ⟨k, _, rfl⟩ := List.mem_map.mp hx
    refine sum_nn fun m hm => ?_
    obtain ⟨row', h3, rfl⟩ := List.mem_map.mp hm
    rw [List.getD_eq_getElem?_getD]
    cases hq : row'[k]? with
    | none => exact Int.le_refl 0
    | some y => exact h1 row' h3 y (List.mem_of_getElem? hq)
end S38
namespace S38
open PySem PySem.Spec PyProof.Rows L2 GK Evl
variable {P : Program} {w : World} {K : PySem.W.Frag} {mg : Str → Option Value} {base : Heap}
/-! ### _law_random_grid -/
structure Good (G : List (List Int)) : Prop where
  rect : Rect G
  tall6 : G.length ≤ 6
  wide6 : wide G ≤ 6
  nn : ∀ row ∈ G, ∀ n ∈ row, 0 ≤ n
  sums : SumsOk (wide G) G
theorem Good.fits {G : List (List Int)} (g : Good G) (cs : List (Int × Int)) : Fits G cs G := ⟨rfl, g.rect.rows, g.nn, g.sums, fun _ _ _ => rfl⟩
theorem good_sums {n : Nat} {M : List (List Int)} (h1 : 1 ≤ M.length) (h2 : M.length ≤ 5) (h3 : 1 ≤ n) (h4 : n ≤ 5) (hw : ∀ row ∈ M, row.length = n) (nn : ∀ row ∈ M, ∀ x ∈ row, 0 ≤ x) : Good (withSums n M) := by
  have h0 : M ≠ [] := fun z => by rw [z] at h1; simp at h1
  have wd := withSums_wide h0 hw
  have tl := withSums_tall n M
  refine ⟨⟨by omega, by omega, by omega, by omega, fun row hr => by rw [wd]; exact withSums_rows hw row hr⟩, by omega, by omega, withSums_nn nn, by rw [wd]; exact withSums_ok hw⟩
section
variable {σ : L2.St} {H : Hp} {ta tb : TE} {x : V} {Q : VK}
theorem t_opR {r : R2} (h : Ev ta σ H x) (k : ∀ H1, Same H H1 → tb σ H1 fun y H2 => r x y H2 Q) : tOp r ta tb σ H Q := h H (Same.refl _) _ fun H1 e => k H1 e
theorem t_call2L {sp : Sp} {E : XK} {xs : List V} (h : Ev ta σ H x) (hb : EvL tb σ H xs) (k : ∀ p H1, H p = none → Same H H1 → H1 p = some (.lst xs) → sp [x, .ref p] H1 Q E) : tCall sp [] E (tCons ta (tCons tb tNil)) σ H Q :=
  h H (Same.refl _) _ fun H1 e => hb H1 e _ fun p H2 hp e2 h2 => k p H2 (fresh_back e hp) (Same.trans e e2) h2
end
def sp__law_random_grid (K : PySem.W.Frag) : Sp := fun vs H Q _ => ∃ r : Addr, vs = [.ref r] ∧ Rng H r ∧ ∀ v G H', Fr r H H' → NL (IL K) (dif H H') v G → Good G → Q v H'
theorem ok__law_random_grid (T : Txt K mg) : FnOk P w K mg base CX0 3 T.a__law_random_grid T.d__law_random_grid ["_law_rng_here"] (sp__law_random_grid K) := by
  have G__law_draw : FnOk P w K mg base CX0 1 T.a__law_draw T.d__law_draw ["_law_rng_here", "_law_limit"] (sp__law_draw K) := ok__law_draw T
  have G__law_pick : FnOk P w K mg base CX0 2 T.a__law_pick T.d__law_pick ["_law_rng_here", "_law_items"] (sp__law_pick K) := ok__law_pick T
  have G__law_with_sums : FnOk P w K mg base CX0 1 T.a__law_with_sums T.d__law_with_sums ["_law_cells_here"] (sp__law_with_sums K) := ok__law_with_sums T
  refine T.F__law_random_grid.ok sc__law_random_grid (fun vs H Q E h => ?_) (fun cdv A outer s H vs Q E hr h => ?_)
  · obtain ⟨r, rfl, _⟩ := h
    rfl
  · obtain ⟨r, rfl, hR, q⟩ := h
    refine ⟨(tSeq (tAsg (tOp (rI0 fun i j => .int (i + j)) (tC (.int 1)) (tCall (sp__law_draw K) [] E0 (tCons (tVar 0) (tCons (tC (.int 5)) tNil)))) (gName 1))
  (tSeq (tAsg (tCall (sp__law_pick K) [] E0 (tCons (tVar 0) (tCons (tLst (tCons (tC (.int 2)) (tCons (tC (.int 7)) (tCons (tC (.int 7)) (tCons (tOp (rI CPow fun i j => .int (i ^ j.toNat)) (tC (.int 10)) (tC (.int 6))) tNil))))) tNil))) (gName 2))
  (tRet (tCall (sp__law_with_sums K) [] E0 (tCons (tLc (iRng1 (tCons (tOp (rI0 fun i j => .int (i + j)) (tC (.int 1)) (tCall (sp__law_draw K) [] E0 (tCons (tVar 0) (tCons (tC (.int 5)) tNil)))) tNil)) (gName 3) tYes (tLc (iRng1 (tCons (tVar 1) tNil)) (gName 4) tYes (tCall (sp__law_draw K) [] E0 (tCons (tVar 0) (tCons (tVar 2) tNil))) [4]) [3]) tNil))))),
(pss_cons (ps_set (i := 1) sc__law_random_grid.nd rfl (.inr rfl) (pe_op op_add pe_int (pe_call (G__law_draw.mono (by decide)) hr (by rfl) T.g__law_draw T.F__law_draw.kp T.b__law_draw .nil pass0 (pa_cons (pv 0) (pa_cons pe_int pa_nil)))))
  (pss_cons (ps_set (i := 2) sc__law_random_grid.nd rfl (.inr rfl) (pe_call (G__law_pick.mono (by decide)) hr (by rfl) T.g__law_pick T.F__law_pick.kp T.b__law_pick .nil pass0 (pa_cons (pv 0) (pa_cons (pe_lst (pa_cons pe_int (pa_cons pe_int (pa_cons pe_int (pa_cons (pe_op op_pow pe_int pe_int) pa_nil))))) pa_nil))))
  (pss_one (ps_ret (pe_call (G__law_with_sums.mono (by decide)) hr (by rfl) T.g__law_with_sums T.F__law_with_sums.kp T.b__law_with_sums .nil pass0 (pa_cons (pe_lc (own := [("_law_row", 3)]) (g := (gName 3)) (tt := tYes) (te := (tLc (iRng1 (tCons (tVar 1) tNil)) (gName 4) tYes (tCall (sp__law_draw K) [] E0 (tCons (tVar 0) (tCons (tVar 2) tNil))) [4])) rfl sc__law_random_grid.nd (pi_range1 (by rfl) T.z_range (pa_cons (pe_op op_add pe_int (pe_call (G__law_draw.mono (by decide)) hr (by rfl) T.g__law_draw T.F__law_draw.kp T.b__law_draw .nil pass0 (pa_cons (pv 0) (pa_cons pe_int pa_nil)))) pa_nil)) (blkOk_by (N := ["_law_rng_here", "_law_count", "_law_limit", "_law_row", "_law_column"]) (sc := defScope s__law_random_grid) (own := [("_law_row", 3)]) (by decide +kernel)) (fun _ _ _ _ _ => (pg_name (i := 3) sc__law_random_grid.nd rfl (.inl rfl))) (fun _ _ _ _ _ => pts_nil) (fun _ _ _ _ _ => (pe_lc (own := [("_law_column", 4)]) (g := (gName 4)) (tt := tYes) (te := (tCall (sp__law_draw K) [] E0 (tCons (tVar 0) (tCons (tVar 2) tNil)))) rfl sc__law_random_grid.nd (pi_range1 (by rfl) T.z_range (pa_cons (pv 1) pa_nil)) (blkOk_by (own := [("_law_column", 4)]) (by kernel_rfl)) (fun _ _ _ _ _ => (pg_name (i := 4) sc__law_random_grid.nd rfl (.inl rfl))) (fun _ _ _ _ _ => pts_nil) (fun _ _ _ _ _ => (pe_call (G__law_draw.mono (by decide)) hr (by rfl) T.g__law_draw T.F__law_draw.kp T.b__law_draw .nil pass0 (pa_cons (pv 0) (pa_cons (pv 2) pa_nil))))))) pa_nil)))))), ?_⟩
    obtain ⟨o, hro⟩ := Rng.some hR
    -- count
    refine q_set (t_opR ev_c fun H0 e0 => t_draw (n := 5) (ea_cons (ev_var rfl) (ea_cons ev_c ea_nil)) (hR.up e0) (by decide) (by decide) fun c H1 c0 c1 f1 => ⟨1, c, rfl, rfl, ?_⟩)
    have f1 : Fr r H H1 := (Fr.of hR e0).trans f1
    -- limit
    refine q_set (t_call2L (x := .ref r) (ev_var rfl) (el_lst (ea_cons ev_c (ea_cons ev_c (ea_cons ev_c (ea_cons (ev_oC ev_c ev_c (by unfold CPow; decide)) ea_nil)))) (by simp)) fun p H2 hp e2 h2 => ?_)
    have f2 : Fr r H H2 := f1.then e2
    have npr : p ≠ r := fun z => by
      subst z
      obtain ⟨a, b, c, h⟩ := f1.rng
      rw [h] at hp
      cases hp
    refine ⟨r, p, _, rfl, f2.rng, SqL.of (off_some.mpr ⟨npr, h2⟩), by simp, by simp, fun x H3 hx f3 => ?_⟩
    have f3 : Fr r H H3 := f2.trans f3
    obtain ⟨lim, rfl, l0, l1⟩ : ∃ l : Int, x = .int l ∧ 0 < l ∧ l < 1073741824 := by
      have e18 : (10 : Int) ^ (6 : Int).toNat = 1000000 := by decide
      simp only [List.mem_cons, List.not_mem_nil, or_false] at hx
      rcases hx with rfl | rfl | rfl | rfl
      · exact ⟨_, rfl, by decide, by decide⟩
      · exact ⟨_, rfl, by decide, by decide⟩
      · exact ⟨_, rfl, by decide, by decide⟩
      · exact ⟨_, rfl, by rw [e18]; decide, by rw [e18]; decide⟩
    -- the rows
    refine s_give (t_opR ev_c fun H4 e4 => t_draw (n := 5) (ea_cons (ev_var rfl) (ea_cons ev_c ea_nil)) (f3.rng.up e4) (by decide) (by decide) fun d H5 d0 d1 f5 => ⟨1, d, rfl, rfl, 1 + d, rfl, by omega, by omega, fun Dl hD => ?_⟩)
    have f5 : Fr r H H5 := (f3.then e4).trans f5
    obtain ⟨o5, hr5⟩ := Rng.some f5.rng
    refine lc_fr hr5 f5.rng hD (by omega) (fun H v => ∃ row : List Int, (row.length = (1 + c).toNat ∧ ∀ n ∈ row, 0 ≤ n) ∧ IL K H v row) (fun H H' v e ⟨row, h1, h2⟩ => ⟨row, h1, up_il _ _ _ _ e h2⟩) (fun x => rfl) (fun i H6 hi f6 Y hY => ?_) (fun ys H6 f6 hl6 len all => ?_)
    · obtain ⟨o6, hr6⟩ := Rng.some f6.rng
      refine ⟨.int (1 + c), rfl, 1 + c, rfl, by omega, by omega, fun D2 hD2 => ?_⟩
      refine lc_fr hr6 f6.rng hD2 (by omega) (fun _ v => ∃ n : Int, 0 ≤ n ∧ v = .int n) (fun _ _ _ _ h => h) (fun x => rfl) (fun j H7 hj f7 Y2 hY2 => ?_) (fun zs H7 f7 hl7 len7 all7 => ?_)
      · exact t_draw (n := lim) (ea_cons (ev_var rfl) (ea_cons (ev_var rfl) ea_nil)) f7.rng l0 l1 fun k H8 k0 _ f8 => hY2 _ H8 f8 ⟨k, k0, rfl⟩
      · obtain ⟨ns, pd, nn⟩ := pd_choose all7
        refine hY _ H7 f7 ⟨ns, ⟨by rw [← pd_len pd]; exact len7, nn⟩, ?_⟩
        exact ⟨D2, zs, rfl, SqL.of (dif_some.mpr ⟨hD2, hl7⟩), pd⟩
    · obtain ⟨M, pd, good⟩ := pd_choose all
      have f6' : Fr r H H6 := f5.trans f6
      have hM : TL K H6 (.ref Dl) M := ⟨Dl, ys, rfl, SqL.of hl6, pd_imp (fun y row h => up_il _ _ _ _ ((dif_same _ _).trans (off_same _ _)) h) pd⟩
      have hl : M.length = (1 + d).toNat := by rw [← pd_len pd]; exact len
      refine ⟨.ref Dl, (1 + c).toNat, M, rfl, hM, fun z => by rw [z] at hl; simp at hl; omega, by omega, by omega, fun row hr => (good row hr).1, fun v H7 e7 hv => ?_⟩
      refine q v _ H7 (f6'.then e7) (nl_mono up_il (fun a u ha => ?_) hv) (good_sums (by omega) (by omega) (by omega) (by omega) (fun row hr => (good row hr).1) fun row hr => (good row hr).2)
      obtain ⟨a1, a2⟩ := dif_some.mp ha
      exact dif_some.mpr ⟨fr_free hro f6' a1, a2⟩
/-! ### _law_random_hidden -/
def sp__law_random_hidden (K : PySem.W.Frag) : Sp := fun vs H Q _ => ∃ (r : Addr) (g : V) (G : List (List Int)), vs = [.ref r, g] ∧ Rng H r ∧ TL K (off r H) g G ∧ Good G ∧ ∀ v cs H', Fr r H H' → CL K (dif H H') v cs → Hid G cs → Q v H'
theorem mem_init {h w : Nat} {c : Int × Int} (hc : c ∈ (cellsOf h w).dropLast) : ((0 ≤ c.1 ∧ c.1 < h) ∧ 0 ≤ c.2 ∧ c.2 < w) ∧ c ≠ ((h : Int) - 1, (w : Int) - 1) := by
  refine ⟨mem_cellsOf.mp (List.dropLast_subset _ hc), fun z => ?_⟩
  cases h with
  | zero => simp [cellsOf, pairs] at hc
  | succ n =>
    cases w with
    | zero =>
      have : cellsOf (n + 1) 0 = [] := List.eq_nil_of_length_eq_zero (by rw [cellsOf_len]; rfl)
      rw [this] at hc
      cases hc
    | succ m =>
      rw [cellsOf_succ, List.range_succ, List.map_append, ← List.append_assoc] at hc
      have hc : c ∈ List.dropLast (cellsOf n (m + 1) ++ (List.range m).map (fun (j : Nat) => ((n : Int), (j : Int))) ++ [((n : Int), (m : Int))]) := hc
      rw [List.dropLast_concat] at hc
      subst z
      rcases List.mem_append.mp hc with q | q
      · have := (mem_cellsOf.mp q).1.2
        simp at this
      · obtain ⟨j, hj, e⟩ := List.mem_map.mp q
        have hj := List.mem_range.mp hj
        have := congrArg Prod.snd e
        simp at this
        omega
theorem hid_of {G : List (List Int)} (g : Good G) {cs : List (Int × Int)} (hl : cs.length ≤ 60) (h : ∀ c ∈ cs, c ∈ (cellsOf G.length (wide G)).dropLast) : Hid G cs := ⟨by omega, fun c hc => mem_init (h c hc)⟩
theorem cells_few {G : List (List Int)} (g : Good G) : (cellsOf G.length (wide G)).dropLast.length ≤ 36 := by
  rw [List.length_dropLast, cellsOf_len]
  have := Nat.mul_le_mul g.tall6 g.wide6
  omega
theorem ok__law_random_hidden (T : Txt K mg) : FnOk P w K mg base CX0 3 T.a__law_random_hidden T.d__law_random_hidden ["_law_rng_here", "_law_grid"] (sp__law_random_hidden K) := by
  have G__law_draw : FnOk P w K mg base CX0 1 T.a__law_draw T.d__law_draw ["_law_rng_here", "_law_limit"] (sp__law_draw K) := ok__law_draw T
  have G__law_cells : FnOk P w K mg base CX0 1 T.a__law_cells T.d__law_cells ["_law_grid"] (sp__law_cells K) := ok__law_cells T
  have G__law_sample : FnOk P w K mg base CX0 2 T.a__law_sample T.d__law_sample ["_law_rng_here", "_law_items", "_law_count"] (sp__law_sample K) := ok__law_sample T
  refine T.F__law_random_hidden.ok sc__law_random_hidden (fun vs H Q E h => ?_) (fun cdv A outer s H vs Q E hr h => ?_)
  · obtain ⟨r, g, G, rfl, _⟩ := h
    rfl
  · obtain ⟨r, g, G, rfl, hR, hG, good, q⟩ := h
    refine ⟨(tSeq (tAsg (tCall (sp__law_cells K) [] E0 (tCons (tVar 1) tNil)) (gName 2))
  (tSeq (tAsg (tCall (sp__law_draw K) [] E0 (tCons (tVar 0) (tCons (tC (.int 4)) tNil))) (gName 3))
  (tSeq (tIfS (tTest (tOp rEq (tVar 3) (tC (.int 0)))) (tRet (tVar 2)) tNext)
  (tSeq (tIfS (tTest (tOp rEq (tVar 3) (tC (.int 1)))) (tRet (tLst tNil)) tNext)
  (tSeq (tAsg (tCall (sp__law_sample K) [] E0 (tCons (tVar 0) (tCons (tVar 2) (tCons (tCall (sp__law_draw K) [] E0 (tCons (tVar 0) (tCons (tOp (rI0 fun i j => .int (i + j)) (tCB (gLenQ K) (tCons (tVar 2) tNil)) (tC (.int 1))) tNil))) tNil)))) (gName 4))
  (tRet (tOp rCat (tVar 4) (tSl (rSlL K) (tVar 4) tNoPart (tPart (tCall (sp__law_draw K) [] E0 (tCons (tVar 0) (tCons (tC (.int 3)) tNil)))))))))))),
(pss_cons (ps_set (i := 2) sc__law_random_hidden.nd rfl (.inl rfl) (pe_call (G__law_cells.mono (by decide)) hr (by rfl) T.g__law_cells T.F__law_cells.kp T.b__law_cells .nil pass0 (pa_cons (pv 1) pa_nil)))
  (pss_cons (ps_set (i := 3) sc__law_random_hidden.nd rfl (.inl rfl) (pe_call (G__law_draw.mono (by decide)) hr (by rfl) T.g__law_draw T.F__law_draw.kp T.b__law_draw .nil pass0 (pa_cons (pv 0) (pa_cons pe_int pa_nil))))
  (pss_cons (ps_if (pt_cmpR op_eq (pv 3) pe_int (nomark _)) (pss_one (ps_ret (pv 2))) pss_nil)
  (pss_cons (ps_if (pt_cmpR op_eq (pv 3) pe_int (nomark _)) (pss_one (ps_ret (pe_lst pa_nil))) pss_nil)
  (pss_cons (ps_set (i := 4) sc__law_random_hidden.nd rfl (.inl rfl) (pe_call (G__law_sample.mono (by decide)) hr (by rfl) T.g__law_sample T.F__law_sample.kp T.b__law_sample .nil pass0 (pa_cons (pv 0) (pa_cons (pv 2) (pa_cons (pe_call (G__law_draw.mono (by decide)) hr (by rfl) T.g__law_draw T.F__law_draw.kp T.b__law_draw .nil pass0 (pa_cons (pv 0) (pa_cons (pe_op op_add (pe_callB call_len_seq (by rfl) T.z_len (by decide +kernel) (pa_cons (pv 2) pa_nil)) pe_int) pa_nil))) pa_nil)))))
  (pss_one (ps_ret (pe_op op_cat (pv 4) (pe_slice sl_list (pv 4) po_none (po_some (pe_call (G__law_draw.mono (by decide)) hr (by rfl) T.g__law_draw T.F__law_draw.kp T.b__law_draw .nil pass0 (pa_cons (pv 0) (pa_cons pe_int pa_nil))))))))))))), ?_⟩
    obtain ⟨o, hro⟩ := Rng.some hR
    have few := cells_few good
    have t6 := good.tall6
    have w6 := good.wide6
    -- all cells but the last
    refine ⟨g, rfl, g, G, rfl, up_tl _ _ _ _ (off_same _ _) hG, good.rect.ne, by omega, by omega, fun v H1 e1 hv => ?_⟩
    obtain ⟨a, xs, rfl, ha, pd⟩ := hv
    have f1 : Fr r H H1 := Fr.of hR e1
    have hlen := pd_len pd
    -- way
    refine q_set (t_draw (n := 4) (ea_cons (ev_var rfl) (ea_cons ev_c ea_nil)) f1.rng (by decide) (by decide) fun way H2 _ _ f2 => ?_)
    have d2 := Fr.dif hro f2
    have ha2 : dif H H2 a = some (.lst xs) := d2 _ _ ha
    have pd2 : Paired (CellD K (dif H H2)) xs (cellsOf G.length (wide G)).dropLast := pd_imp (fun x c h => up_cell _ _ _ _ d2 h) pd
    have f2 : Fr r H H2 := f1.trans f2
    refine q_when (et_test (ev_eqS (ev_var rfl) ev_c rfl)) (fun _ H3 e3 => ?_) (fun _ H3 e3 => ?_)
    · exact s_ret (ev_var rfl) fun H4 e4 => q _ _ H4 (f2.then (Same.trans e3 e4)) (up_cl _ _ _ _ (dif_mono (Same.refl _) (Same.trans e3 e4)) ⟨a, xs, rfl, SqL.of ha2, pd2⟩) (hid_of good (by omega) fun c hc => hc)
    refine q_when (et_test (ev_eqS (ev_var rfl) ev_c rfl)) (fun _ H4 e4 => ?_) (fun _ H4 e4 => ?_)
    · exact s_retL (el_lst ea_nil (by simp)) fun p H5 hp e5 h5 => q _ [] H5 (f2.then (Same.trans e3 (Same.trans e4 e5))) ⟨p, [], rfl, SqL.of (dif_some.mpr ⟨fr_free hro (f2.then (Same.trans e3 e4)) hp, h5⟩), .nil⟩ (hid_of good (by simp) (by simp))
    have e34 : Same H2 H4 := Same.trans e3 e4
    have f4 : Fr r H H4 := f2.then e34
    have ha4 : dif H H4 a = some (.lst xs) := dif_mono (Same.refl _) e34 _ _ ha2
    have pd4 : Paired (CellD K (dif H H4)) xs (cellsOf G.length (wide G)).dropLast := pd_imp (fun x c h => up_cell _ _ _ _ (dif_mono (Same.refl _) e34) h) pd2
    have nar : a ≠ r := fun z => by
      subst z
      have := (dif_some.mp ha4).1
      rw [hro] at this
      cases this
    have sqa : SqL K H4 a xs := SqL.of (dif_some.mp ha4).2
    -- some of them
    refine q_set ⟨.ref r, rfl, .ref a, rfl, ?_⟩
    refine t_draw (n := (xs.length : Int) + 1) (ea_cons (ev_var rfl) (ea_cons (ev_oI (ev_lenS (ev_var rfl) (.inl sqa)) ev_c) ea_nil)) f4.rng (by omega) (by omega) fun k H5 k0 k1 f5 => ?_
    have d5 := Fr.dif hro f5
    have f45 : Fr r H H5 := f4.trans f5
    have ha5 : dif H H5 a = some (.lst xs) := d5 _ _ ha4
    have pd5 : Paired (CellD K (dif H H5)) xs (cellsOf G.length (wide G)).dropLast := pd_imp (fun x c h => up_cell _ _ _ _ d5 h) pd4
    refine ⟨r, a, xs, k.toNat, by rw [Int.toNat_of_nonneg k0]; rfl, f45.rng, SqL.of (off_some.mpr ⟨nar, (dif_some.mp ha5).2⟩), by omega, by omega, fun p ys H6 f6 hp hp6 iny leny => ?_⟩
    have d6 := Fr.dif hro f6
    have f56 : Fr r H H6 := f45.trans f6
    have hp0 : H p = none := fr_free hro f45 hp
    have npr : p ≠ r := fun z => by subst z; rw [hro] at hp0; cases hp0
    obtain ⟨cs, pdy, incs⟩ : ∃ cs, Paired (CellD K (dif H H6)) ys cs ∧ ∀ c ∈ cs, c ∈ (cellsOf G.length (wide G)).dropLast := pd_choose fun y hy => by
      obtain ⟨c, h1, h2⟩ := pd_mem pd5 (iny y hy)
      exact ⟨c, h1, up_cell _ _ _ _ d6 h2⟩
    -- and the first few again
    refine s_give (t_opR (x := .ref p) (ev_var rfl) fun H7 e7 => ?_)
    have f7 : Fr r H H7 := f56.then e7
    refine ⟨.ref p, rfl, ?_⟩
    refine t_draw (n := 3) (ea_cons (ev_var rfl) (ea_cons ev_c ea_nil)) f7.rng (by decide) (by decide) fun m H8 m0 m1 f8 => ⟨m, rfl, ?_⟩
    have hp8 : H8 p = some (.lst ys) := fr_keep f8 npr (e7 _ _ hp6)
    have d8 : Same (dif H H6) (dif H H8) := Same.trans (dif_mono (Same.refl _) e7) (Fr.dif hro f8)
    have f78 : Fr r H H8 := f7.trans f8
    refine ⟨p, ys, rfl, SqL.of hp8, fun l hl => ?_⟩
    have nlp : p ≠ l := fun z => by subst z; rw [hp8] at hl; cases hl
    have hcut : cutV ys none (some m) = ys.take m.toNat := by
      have z := cut_upto ys m.toNat
      rw [Int.toNat_of_nonneg m0] at z
      exact z
    have hly : ys.length ≤ 36 := by omega
    refine ⟨p, l, ys, _, rfl, rfl, by rw [upd_ne nlp]; exact hp8, upd_same, ?_, fun u hu => ?_⟩
    · rw [hcut, List.length_take]
      exact Nat.le_trans (by omega : ys.length + min m.toNat ys.length ≤ 100) (by decide)
    · have eu : Same H8 (upd (upd H8 l (.lst (cutV ys none (some m)))) u (.lst (ys ++ cutV ys none (some m)))) := Same.trans (same_new hl) (same_new hu)
      have hu0 : H u = none := fr_free hro f78 ((same_new hl).free hu)
      refine q _ (cs ++ cs.take m.toNat) _ (f78.then eu) ⟨u, _, rfl, SqL.of (dif_some.mpr ⟨hu0, upd_same⟩), ?_⟩ (hid_of good ?_ fun c hc => ?_)
      · rw [hcut]
        have pdu := pd_imp (fun x c h => up_cell _ _ _ _ (Same.trans d8 (dif_mono (Same.refl _) eu)) h) pdy
        rw [hcut] at pdu
        exact pd_append pdu (pd_take _ pdu)
      · rw [List.length_append, List.length_take, ← pd_len pdy]; omega
      · rcases List.mem_append.mp hc with z | z
        · exact incs c z
        · exact incs c (List.mem_of_mem_take z)
end S38
namespace S38
open PySem PySem.Spec PyProof.Rows L2 GK Evl
variable {P : Program} {w : World} {K : PySem.W.Frag} {mg : Str → Option Value} {base : Heap}
/-! ### sizes -/
structure Dims (h w : Nat) (M : List (List Int)) : Prop where
  tall : M.length = h
  rows : ∀ row ∈ M, row.length = w
theorem Dims.set {h w : Nat} {M : List (List Int)} (d : Dims h w M) {i j : Nat} {n : Int} (hi : i < M.length) : Dims h w (M.set i ((M.getD i []).set j n)) := by
  refine ⟨by rw [List.length_set]; exact d.tall, fun row hr => ?_⟩
  rcases List.mem_or_eq_of_mem_set hr with z | z
  · exact d.rows row z
  · rw [z, List.length_set]; exact d.rows _ (getD_mem hi)
theorem Dims.at {h w : Nat} {M : List (List Int)} (d : Dims h w M) {i : Nat} (hi : i < h) : (M.getD i []).length = w := d.rows _ (getD_mem (by rw [d.tall]; exact hi))
theorem Dims.wide {h w : Nat} {M : List (List Int)} (d : Dims h w M) (h0 : 0 < h) : S38.wide M = w := by
  cases M with
  | nil => have := d.tall; simp at this; omega
  | cons r M => exact d.rows r List.mem_cons_self
theorem Dims.ne {h w : Nat} {M : List (List Int)} (d : Dims h w M) (h0 : 0 < h) : M ≠ [] := fun z => by have := d.tall; rw [z] at this; simp at this; omega
/-- all but the last row, of each all but the last number -/
def inner (M : List (List Int)) : List (List Int) := M.dropLast.map List.dropLast
theorem Dims.inner {h w : Nat} {M : List (List Int)} (d : Dims h w M) : Dims (h - 1) (w - 1) (inner M) := by
  refine ⟨by unfold S38.inner; rw [List.length_map, List.length_dropLast, d.tall], fun row hr => ?_⟩
  obtain ⟨r, h1, rfl⟩ := List.mem_map.mp hr
  rw [List.length_dropLast, d.rows r (List.dropLast_subset _ h1)]
theorem Dims.sums {h w : Nat} {M : List (List Int)} (d : Dims h w M) : Dims (h + 1) (w + 1) (withSums w M) := ⟨by rw [withSums_tall, d.tall], withSums_rows d.rows⟩
section
variable {σ : L2.St} {H H0 : Hp} {ta ti tj te tl : TE} {o r : Addr} {rs : List Addr} {M : List (List Int)} {i j : Nat} {n : Int} {u : HO} {D : Ends} {tz : TS} {v : V}
theorem ev_own (m : MT H o rs M) (ho : Ev ta σ H (.ref o)) (hi : Ev ti σ H (.int (i : Int))) (hj : Ev tj σ H (.int (j : Int))) (h1 : i < M.length) (h2 : j < (M.getD i []).length) : Ev (tOp (rIxL K) (tOp (rIxL K) ta ti) tj) σ H (.int ((M.getD i []).getD j 0)) := by
  obtain ⟨a, vs, x, e, hs, hat, hD⟩ := at_lof (K := K) (d := []) m.tab h1
  cases e
  exact ev_at (ev_ixL ho hi hs hat) hj hD h2
theorem s_setMT (hro : H0 r = some u) (f : Fr r H0 H) (m : MT (dif H0 H) o rs M) (h : Ev te σ H (.int n)) (ho : Ev ta σ H (.ref o)) (hi : Ev ti σ H (.int (i : Int))) (hj : Ev tj σ H (.int (j : Int))) (h1 : i < M.length) (h2 : j < (M.getD i []).length)
    (k : ∀ H2, Fr r H0 H2 → MT (dif H0 H2) o rs (M.set i ((M.getD i []).set j n)) → D.nx σ H2) : tAsg te (gSub (tOp (rIxL K) ta ti) tj rSetL) D σ H := by
  have m' : MT H o rs M := m.up (dif_same _ _)
  obtain ⟨p, hp, hrow, hl⟩ := m.row h1
  obtain ⟨hp0, hl'⟩ := dif_some.mp hl
  have hat : atI (rs.map V.ref) (i : Int) = some (.ref p) := atI_nat (by rw [List.getElem?_map, hp]; rfl)
  have npr : p ≠ r := fun z => by subst z; rw [hro] at hp0; cases hp0
  refine h H (Same.refl _) _ fun H1 e1 => ?_
  refine (ev_ixL ho hi (SqL.of m'.top) hat) H1 e1 _ fun H2 e2 => hj H2 (Same.trans e1 e2) _ fun H3 e3 => ?_
  have e : Same H H3 := Same.trans (Same.trans e1 e2) e3
  refine ⟨p, _, (j : Int), j, rfl, rfl, e _ _ hl', ixN_nat (by rw [List.length_map]; exact h2), ?_⟩
  have es : ((M.getD i []).map V.int).set j (.int n) = ((M.getD i []).set j n).map V.int := (List.map_set).symm
  rw [es]
  exact k _ ((f.then e).mut hp0 npr) ((m.up (dif_mono (Same.refl _) e)).setD hp hrow)
theorem q_setMT (hro : H0 r = some u) (f : Fr r H0 H) (m : MT (dif H0 H) o rs M) (h : Ev te σ H (.int n)) (ho : Ev ta σ H (.ref o)) (hi : Ev ti σ H (.int (i : Int))) (hj : Ev tj σ H (.int (j : Int))) (h1 : i < M.length) (h2 : j < (M.getD i []).length)
    (k : ∀ H2, Fr r H0 H2 → MT (dif H0 H2) o rs (M.set i ((M.getD i []).set j n)) → tz D σ H2) : tSeq (tAsg te (gSub (tOp (rIxL K) ta ti) tj rSetL)) tz D σ H := s_setMT (D := { D with nx := tz D }) hro f m h ho hi hj h1 h2 k
/-- two draws at once -/
theorem q_par_draw {ta tb : TA} {n m : Int} {x y : Nat} (h1 : EvA ta σ H [.ref r, .int n]) (h2 : ∀ H1, Fr r H H1 → EvA tb σ H1 [.ref r, .int m]) (hr : Rng H r) (n0 : 0 < n) (n1 : n < 1073741824) (m0 : 0 < m) (m1 : m < 1073741824)
    (k : ∀ (a b : Nat) H2, (a : Int) < n → (b : Int) < m → Fr r H H2 → tz D ((σ.set x (some (.int (a : Int)))).set y (some (.int (b : Int)))) H2) :
    tSeq (tPar x y (tCons (tCall (sp__law_draw K) [] E0 ta) (tCons (tCall (sp__law_draw K) [] E0 tb) tNil))) tz D σ H := by
  show tCall (sp__law_draw K) [] E0 ta σ H fun v H1 => tCall (sp__law_draw K) [] E0 tb σ H1 fun w H2 => ∃ v' w', [v, w] = [v', w'] ∧ tz D ((σ.set x (some v')).set y (some w')) H2
  refine t_draw h1 hr n0 n1 fun a H1 a0 a1 f1 => t_draw (h2 H1 f1) f1.rng m0 m1 fun b H2 b0 b1 f2 => ⟨_, _, rfl, ?_⟩
  have z := k a.toNat b.toNat H2 (by omega) (by omega) (f1.trans f2)
  rw [Int.toNat_of_nonneg a0, Int.toNat_of_nonneg b0] at z
  exact z
/-- if .. or a draw == 0: either way -/
theorem q_or_draw {t : TT} {tu : TS} {ta : TA} {b : Bool} {n : Int} (h1 : EvT t σ H b) (h2 : EvA ta σ H [.ref r, .int n]) (hr : Rng H r) (n0 : 0 < n) (n1 : n < 1073741824) (k1 : ∀ H2, Fr r H H2 → tu { D with nx := tz D } σ H2) (k2 : ∀ H2, Fr r H H2 → tz D σ H2) :
    tSeq (tIfS (tOr t (tTest (tOp rEq (tCall (sp__law_draw K) [] E0 ta) (tC (.int 0))))) tu tNext) tz D σ H := by
  refine h1 H (Same.refl _) _ fun H1 e1 => ?_
  cases b with
  | true => exact iteT (iteT (k1 H1 (Fr.of hr e1)))
  | false =>
    refine iteF ?_
    refine t_draw (fun H2 e2 => h2 H2 (Same.trans e1 e2)) (hr.up e1) n0 n1 fun k H2 _ _ f2 => ⟨rfl, _, rfl, ?_⟩
    have f : Fr r H H2 := (Fr.of hr e1).trans f2
    by_cases hk : decide (V.int k = V.int 0) = true
    · rw [hk]
      exact iteT (k1 H2 f)
    · rw [Bool.not_eq_true] at hk
      rw [hk]
      exact iteF (k2 H2 f)
/-- [row[:-1] for row in xs[:-1]] -/
theorem en_inner {vs : List Nat} {k : Nat} (h : Ev tl σ H v) (hM : TL K H v M) (hz : M.length ≤ 1000) (hw : ∀ x, wipe ((wipe σ vs).set k (some x)) vs = wipe σ vs) (hk : ∀ x, ((wipe σ vs).set k (some x))[k]? = some (some x)) :
    EvN (tLc (iList K (tSl (rSlL K) tl tNoPart (tPart tNeg1))) (gName k) tYes (tSl (rSlL K) (tVar k) tNoPart (tPart tNeg1)) vs) σ H (fun H' v => TL K H' v (inner M)) :=
  (en_lcA (D := fun row H v => IL K H v row.dropLast) (src_init up_il h hM) (by rw [List.length_dropLast]; omega) (fun a H H' v e h => up_il (K := K) H H' v a.dropLast e h) hw (fun H1 e1 i row x hx hS => en_il (el_init (ev_var (hk x)) hS))).imp
    fun H' v ⟨p, ys, e, h1, h2⟩ => ⟨p, ys, e, SqL.of h1, pd_mapR h2⟩
/-- with_sums of new numbers -/
theorem t_sums {h w : Nat} {ta : TE} {Q : VK} (hN : EvN ta σ H (fun H' v => TL K H' v M)) (d : Dims h w M) (h0 : 0 < h) (h1 : h ≤ 100) (h2 : w ≤ 100) (k : ∀ v H2, Same H H2 → TL K (dif H H2) v (withSums w M) → Q v H2) : tCall (sp__law_with_sums K) [] E0 (tCons ta tNil) σ H Q :=
  hN H (Same.refl _) _ fun v H1 e1 hv => ⟨v, w, M, rfl, up_tl _ _ _ _ (dif_same _ _) hv, d.ne h0, by rw [d.tall]; exact h1, h2, d.rows, fun v' H2 e2 hv' => k v' H2 (Same.trans e1 e2) (up_tl _ _ _ _ (dif_mono e1 (Same.refl _)) hv'.lof)⟩
end
/-! ### _law_square: a table of the same size -/
def sp__law_square (K : PySem.W.Frag) : Sp := fun vs H Q _ => ∃ (r : Addr) (t : V) (n : Int) (M : List (List Int)) (h w : Nat), vs = [.ref r, t, .int n] ∧ Rng H r ∧ TL K (off r H) t M ∧ Dims h w M ∧ 2 ≤ h ∧ h ≤ 60 ∧ 2 ≤ w ∧ w ≤ 60 ∧
  ∀ v M' H', Fr r H H' → TL K (dif H H') v M' → Dims h w M' → Q v H'
theorem ok__law_square (T : Txt K mg) : FnOk P w K mg base CX0 2 T.a__law_square T.d__law_square ["_law_rng_here", "_law_table", "_law_much"] (sp__law_square K) := by
  have G__law_draw : FnOk P w K mg base CX0 1 T.a__law_draw T.d__law_draw ["_law_rng_here", "_law_limit"] (sp__law_draw K) := ok__law_draw T
  have G__law_with_sums : FnOk P w K mg base CX0 1 T.a__law_with_sums T.d__law_with_sums ["_law_cells_here"] (sp__law_with_sums K) := ok__law_with_sums T
  refine T.F__law_square.ok sc__law_square (fun vs H Q E h => ?_) (fun cdv A outer s H vs Q E hr h => ?_)
  · obtain ⟨r, t, n, M, hh, ww, rfl, _⟩ := h
    rfl
  · obtain ⟨r, t, n, M, hh, ww, rfl, hR, hM, dM, h2, h60, w2, w60, q⟩ := h
    refine ⟨(tSeq (tAsg (tLc (iList K (tVar 1)) (gName 8) tYes (tCB (gListOf K) (tCons (tVar 8) tNil)) [8]) (gName 3))
  (tSeq (tPar 4 5 (tCons (tCall (sp__law_draw K) [] E0 (tCons (tVar 0) (tCons (tOp (rI0 fun i j => .int (i - j)) (tCB (gLenQ K) (tCons (tVar 1) tNil)) (tC (.int 1))) tNil))) (tCons (tCall (sp__law_draw K) [] E0 (tCons (tVar 0) (tCons (tOp (rI0 fun i j => .int (i - j)) (tCB (gLenQ K) (tCons (tVar 1) tNil)) (tC (.int 1))) tNil))) tNil)))
  (tSeq (tPar 6 7 (tCons (tCall (sp__law_draw K) [] E0 (tCons (tVar 0) (tCons (tOp (rI0 fun i j => .int (i - j)) (tCB (gLenQ K) (tCons (tOp (rIxL K) (tVar 1) (tC (.int 0))) tNil)) (tC (.int 1))) tNil))) (tCons (tCall (sp__law_draw K) [] E0 (tCons (tVar 0) (tCons (tOp (rI0 fun i j => .int (i - j)) (tCB (gLenQ K) (tCons (tOp (rIxL K) (tVar 1) (tC (.int 0))) tNil)) (tC (.int 1))) tNil))) tNil)))
  (tSeq (tAsg (tOp (rI0 fun i j => .int (i + j)) (tOp (rIxL K) (tOp (rIxL K) (tVar 3) (tVar 4)) (tVar 6)) (tVar 2)) (gSub (tOp (rIxL K) (tVar 3) (tVar 4)) (tVar 6) rSetL))
  (tSeq (tAsg (tOp (rI0 fun i j => .int (i - j)) (tOp (rIxL K) (tOp (rIxL K) (tVar 3) (tVar 5)) (tVar 7)) (tVar 2)) (gSub (tOp (rIxL K) (tVar 3) (tVar 5)) (tVar 7) rSetL))
  (tSeq (tIfS (tAnd (tTest (tOp rEq (tVar 4) (tVar 5))) (tTest (tOp rEq (tVar 6) (tVar 7)))) (tRet (tVar 3)) tNext)
  (tSeq (tIfS (tTest (tOp rEq (tVar 4) (tVar 5))) (tRet (tCall (sp__law_with_sums K) [] E0 (tCons (tLc (iList K (tSl (rSlL K) (tVar 3) tNoPart (tPart (tUn (rU fun i => .int (-i)) (tC (.int 1)))))) (gName 8) tYes (tSl (rSlL K) (tVar 8) tNoPart (tPart (tUn (rU fun i => .int (-i)) (tC (.int 1))))) [8]) tNil))) tNext)
  (tSeq (tIfS (tOr (tTest (tOp rEq (tVar 6) (tVar 7))) (tTest (tOp rEq (tCall (sp__law_draw K) [] E0 (tCons (tVar 0) (tCons (tC (.int 2)) tNil))) (tC (.int 0))))) (tRet (tCall (sp__law_with_sums K) [] E0 (tCons (tLc (iList K (tSl (rSlL K) (tVar 3) tNoPart (tPart (tUn (rU fun i => .int (-i)) (tC (.int 1)))))) (gName 8) tYes (tSl (rSlL K) (tVar 8) tNoPart (tPart (tUn (rU fun i => .int (-i)) (tC (.int 1))))) [8]) tNil))) tNext)
  (tSeq (tAsg (tOp (rI0 fun i j => .int (i - j)) (tOp (rIxL K) (tOp (rIxL K) (tVar 3) (tVar 4)) (tVar 7)) (tVar 2)) (gSub (tOp (rIxL K) (tVar 3) (tVar 4)) (tVar 7) rSetL))
  (tSeq (tAsg (tOp (rI0 fun i j => .int (i + j)) (tOp (rIxL K) (tOp (rIxL K) (tVar 3) (tVar 5)) (tVar 6)) (tVar 2)) (gSub (tOp (rIxL K) (tVar 3) (tVar 5)) (tVar 6) rSetL))
  (tRet (tVar 3)))))))))))),
(pss_cons (ps_setLc (i := 3) (own := [("_law_row", 8)]) (g := (gName 8)) (tt := tYes) (te := (tCB (gListOf K) (tCons (tVar 8) tNil))) rfl sc__law_square.nd rfl rfl (sw_true rfl rfl rfl (by decide +kernel)) (pi_list (pv 1)) (blkOk_by (N := ["_law_rng_here", "_law_table", "_law_much", "_law_result", "_law_first", "_law_second", "_law_left", "_law_right", "_law_row"]) (sc := defScope s__law_square) (own := [("_law_row", 8)]) (by decide +kernel)) (fun _ _ _ _ _ => (pg_name (i := 8) sc__law_square.nd rfl (.inl rfl))) (fun _ _ _ _ _ => pts_nil) (fun _ _ _ _ _ => (pe_callTy call_list_of (by rfl) T.z_list (by decide +kernel) (pa_cons (pv 8) pa_nil))))
  (pss_cons (ps_par (i := 4) (j := 5) rfl sc__law_square.nd rfl rfl (by decide) rfl rfl (pa_cons (pe_call (G__law_draw.mono (by decide)) hr (by rfl) T.g__law_draw T.F__law_draw.kp T.b__law_draw .nil pass0 (pa_cons (pv 0) (pa_cons (pe_op op_sub (pe_callB call_len_seq (by rfl) T.z_len (by decide +kernel) (pa_cons (pv 1) pa_nil)) pe_int) pa_nil))) (pa_cons (pe_call (G__law_draw.mono (by decide)) hr (by rfl) T.g__law_draw T.F__law_draw.kp T.b__law_draw .nil pass0 (pa_cons (pv 0) (pa_cons (pe_op op_sub (pe_callB call_len_seq (by rfl) T.z_len (by decide +kernel) (pa_cons (pv 1) pa_nil)) pe_int) pa_nil))) pa_nil)) (by rfl))
  (pss_cons (ps_par (i := 6) (j := 7) rfl sc__law_square.nd rfl rfl (by decide) rfl rfl (pa_cons (pe_call (G__law_draw.mono (by decide)) hr (by rfl) T.g__law_draw T.F__law_draw.kp T.b__law_draw .nil pass0 (pa_cons (pv 0) (pa_cons (pe_op op_sub (pe_callB call_len_seq (by rfl) T.z_len (by decide +kernel) (pa_cons (pe_ix ix_list (pv 1) pe_int (fun _ _ => rfl)) pa_nil)) pe_int) pa_nil))) (pa_cons (pe_call (G__law_draw.mono (by decide)) hr (by rfl) T.g__law_draw T.F__law_draw.kp T.b__law_draw .nil pass0 (pa_cons (pv 0) (pa_cons (pe_op op_sub (pe_callB call_len_seq (by rfl) T.z_len (by decide +kernel) (pa_cons (pe_ix ix_list (pv 1) pe_int (fun _ _ => rfl)) pa_nil)) pe_int) pa_nil))) pa_nil)) (by rfl))
  (pss_cons (ps_asg (pe_op op_add (pe_ix ix_list (pe_ix ix_list (pv 3) (pv 4) (fun _ _ => rfl)) (pv 6) (fun _ _ => rfl)) (pv 2)) (pg_sub (pe_ix ix_list (pv 3) (pv 4) (fun _ _ => rfl)) (pv 6) set_list))
  (pss_cons (ps_asg (pe_op op_sub (pe_ix ix_list (pe_ix ix_list (pv 3) (pv 5) (fun _ _ => rfl)) (pv 7) (fun _ _ => rfl)) (pv 2)) (pg_sub (pe_ix ix_list (pv 3) (pv 5) (fun _ _ => rfl)) (pv 7) set_list))
  (pss_cons (ps_if (PW.pt (pw_and (pt_cmpR op_eq (pv 4) (pv 5) (nomark _)) (pw_and1 (pt_cmpR op_eq (pv 6) (pv 7) (nomark _))))) (pss_one (ps_ret (pv 3))) pss_nil)
  (pss_cons (ps_if (pt_cmpR op_eq (pv 4) (pv 5) (nomark _)) (pss_one (ps_ret (pe_call (G__law_with_sums.mono (by decide)) hr (by rfl) T.g__law_with_sums T.F__law_with_sums.kp T.b__law_with_sums .nil pass0 (pa_cons (pe_lc (own := [("_law_row", 8)]) (g := (gName 8)) (tt := tYes) (te := (tSl (rSlL K) (tVar 8) tNoPart (tPart (tUn (rU fun i => .int (-i)) (tC (.int 1)))))) rfl sc__law_square.nd (pi_list (pe_slice sl_list (pv 3) po_none (po_some (pe_un un_neg pe_int)))) (blkOk_by (N := ["_law_rng_here", "_law_table", "_law_much", "_law_result", "_law_first", "_law_second", "_law_left", "_law_right", "_law_row"]) (sc := defScope s__law_square) (own := [("_law_row", 8)]) (by decide +kernel)) (fun _ _ _ _ _ => (pg_name (i := 8) sc__law_square.nd rfl (.inl rfl))) (fun _ _ _ _ _ => pts_nil) (fun _ _ _ _ _ => (pe_slice sl_list (pv 8) po_none (po_some (pe_un un_neg pe_int))))) pa_nil)))) pss_nil)
  (pss_cons (ps_if (PW.pt (pw_or (pt_cmpR op_eq (pv 6) (pv 7) (nomark _)) (pw_or1 (pt_cmpR op_eq (pe_call (G__law_draw.mono (by decide)) hr (by rfl) T.g__law_draw T.F__law_draw.kp T.b__law_draw .nil pass0 (pa_cons (pv 0) (pa_cons pe_int pa_nil))) pe_int (nomark _))))) (pss_one (ps_ret (pe_call (G__law_with_sums.mono (by decide)) hr (by rfl) T.g__law_with_sums T.F__law_with_sums.kp T.b__law_with_sums .nil pass0 (pa_cons (pe_lc (own := [("_law_row", 8)]) (g := (gName 8)) (tt := tYes) (te := (tSl (rSlL K) (tVar 8) tNoPart (tPart (tUn (rU fun i => .int (-i)) (tC (.int 1)))))) rfl sc__law_square.nd (pi_list (pe_slice sl_list (pv 3) po_none (po_some (pe_un un_neg pe_int)))) (blkOk_by (N := ["_law_rng_here", "_law_table", "_law_much", "_law_result", "_law_first", "_law_second", "_law_left", "_law_right", "_law_row"]) (sc := defScope s__law_square) (own := [("_law_row", 8)]) (by decide +kernel)) (fun _ _ _ _ _ => (pg_name (i := 8) sc__law_square.nd rfl (.inl rfl))) (fun _ _ _ _ _ => pts_nil) (fun _ _ _ _ _ => (pe_slice sl_list (pv 8) po_none (po_some (pe_un un_neg pe_int))))) pa_nil)))) pss_nil)
  (pss_cons (ps_asg (pe_op op_sub (pe_ix ix_list (pe_ix ix_list (pv 3) (pv 4) (fun _ _ => rfl)) (pv 7) (fun _ _ => rfl)) (pv 2)) (pg_sub (pe_ix ix_list (pv 3) (pv 4) (fun _ _ => rfl)) (pv 7) set_list))
  (pss_cons (ps_asg (pe_op op_add (pe_ix ix_list (pe_ix ix_list (pv 3) (pv 5) (fun _ _ => rfl)) (pv 6) (fun _ _ => rfl)) (pv 2)) (pg_sub (pe_ix ix_list (pv 3) (pv 5) (fun _ _ => rfl)) (pv 6) set_list))
  (pss_one (ps_ret (pv 3))))))))))))), ?_⟩
    obtain ⟨u, hro⟩ := Rng.some hR
    have hM0 : TL K H t M := up_tl _ _ _ _ (off_same _ _) hM
    have wM := dM.wide (by omega)
    -- a copy
    refine q_set (lc_own (S := IL K) (as := M) (F := fun row => row) (src_of (D := IL K) up_il (ev_var rfl) hM0) (by rw [dM.tall]; omega) (fun x => rfl) (fun H1 e1 i row x hx hS => ?_) up_il H (Same.refl _) _ fun o rs H1 e1 m => ?_)
    · obtain ⟨a, rfl, hs⟩ := il_sq hS
      exact el_listOf (ev_var rfl) (.inl hs)
    rw [List.map_id'] at m
    have f1 : Fr r H H1 := Fr.of hR e1
    have tab : ∀ {Hx : Hp}, Fr r H Hx → TL K Hx t M := fun f => up_tl _ _ _ _ (Same.trans f.same (off_same _ _)) hM
    -- two rows, two columns
    refine q_par_draw (n := (M.length : Int) - 1) (m := (M.length : Int) - 1) (ea_cons (ev_var rfl) (ea_cons (ev_oI (ev_lenD (ev_var rfl) (tab f1)) ev_c) ea_nil)) (fun H2 f2 => ea_cons (ev_var rfl) (ea_cons (ev_oI (ev_lenD (ev_var rfl) (tab (f1.trans f2))) ev_c) ea_nil)) f1.rng (by rw [dM.tall]; omega) (by rw [dM.tall]; omega) (by rw [dM.tall]; omega) (by rw [dM.tall]; omega) fun a b H2 ha hb f2 => ?_
    have m2 := m.up (Fr.dif hro f2)
    have f2 := f1.trans f2
    refine q_par_draw (n := (wide M : Int) - 1) (m := (wide M : Int) - 1) (ea_cons (ev_var rfl) (ea_cons (ev_oI (ev_lenRow (ev_var rfl) (tab f2) (dM.ne (by omega))) ev_c) ea_nil)) (fun H3 f3 => ea_cons (ev_var rfl) (ea_cons (ev_oI (ev_lenRow (ev_var rfl) (tab (f2.trans f3)) (dM.ne (by omega))) ev_c) ea_nil)) f2.rng (by rw [wM]; omega) (by rw [wM]; omega) (by rw [wM]; omega) (by rw [wM]; omega) fun c d H3 hc hd f3 => ?_
    have m3 := m2.up (Fr.dif hro f3)
    have f3 := f2.trans f3
    rw [dM.tall] at ha hb
    rw [wM] at hc hd
    -- one more, one less
    have own : ∀ {Hx : Hp} {N : List (List Int)}, MT (dif H Hx) o rs N → MT Hx o rs N := fun m => m.up (dif_same _ _)
    refine q_setMT (i := a) (j := c) hro f3 m3 (ev_oI (ev_own (own m3) (ev_var rfl) (ev_var rfl) (ev_var rfl) (by rw [dM.tall]; omega) (by rw [dM.at (by omega)]; omega)) (ev_var rfl)) (ev_var rfl) (ev_var rfl) (ev_var rfl) (by rw [dM.tall]; omega) (by rw [dM.at (by omega)]; omega) fun H4 f4 m4 => ?_
    have d4 := dM.set (i := a) (j := c) (n := (M.getD a []).getD c 0 + n) (by rw [dM.tall]; omega)
    generalize M.set a ((M.getD a []).set c ((M.getD a []).getD c 0 + n)) = M4 at m4 d4
    refine q_setMT (i := b) (j := d) hro f4 m4 (ev_oI (ev_own (own m4) (ev_var rfl) (ev_var rfl) (ev_var rfl) (by rw [d4.tall]; omega) (by rw [d4.at (by omega)]; omega)) (ev_var rfl)) (ev_var rfl) (ev_var rfl) (ev_var rfl) (by rw [d4.tall]; omega) (by rw [d4.at (by omega)]; omega) fun H5 f5 m5 => ?_
    have d5 := d4.set (i := b) (j := d) (n := (M4.getD b []).getD d 0 - n) (by rw [d4.tall]; omega)
    generalize M4.set b ((M4.getD b []).set d ((M4.getD b []).getD d 0 - n)) = M5 at m5 d5
    -- the sums anew
    have anew : ∀ {Hx : Hp} {σx : L2.St}, Fr r H Hx → MT (dif H Hx) o rs M5 → σx[3]? = some (some (.ref o)) → (∀ x, wipe ((wipe σx [8]).set 8 (some x)) [8] = wipe σx [8]) → (∀ x, ((wipe σx [8]).set 8 (some x))[8]? = some (some x)) →
        tCall (sp__law_with_sums K) [] E0 (tCons (tLc (iList K (tSl (rSlL K) (tVar 3) tNoPart (tPart tNeg1))) (gName 8) tYes (tSl (rSlL K) (tVar 8) tNoPart (tPart tNeg1)) [8]) tNil) σx Hx Q := fun {Hx σx} fx mx h3 hw hk => by
      refine t_sums (en_inner (ev_var h3) (own mx).tab (by rw [d5.tall]; omega) hw hk) d5.inner (by omega) (by omega) (by omega) fun v H7 e7 hv => ?_
      have dd := d5.inner.sums
      rw [Nat.sub_add_cancel (by omega), Nat.sub_add_cancel (by omega)] at dd
      refine q v _ H7 (fx.then e7) (up_tl _ _ _ _ (fun a' u' ha' => ?_) hv) dd
      obtain ⟨a1, a2⟩ := dif_some.mp ha'
      exact dif_some.mpr ⟨fr_free hro fx a1, a2⟩
    refine q_when (et_and (et_test (ev_eqS (ev_var rfl) (ev_var rfl) rfl)) fun _ => et_test (ev_eqS (ev_var rfl) (ev_var rfl) rfl)) (fun _ H6 e6 => ?_) (fun _ H6 e6 => ?_)
    · exact s_ret (ev_var rfl) fun H7 e7 => q _ M5 H7 (f5.then (Same.trans e6 e7)) ((m5.up (dif_mono (Same.refl _) (Same.trans e6 e7))).tab) d5
    have f6 : Fr r H H6 := f5.then e6
    have m6 := m5.up (dif_mono (Same.refl H) e6)
    refine q_when (et_test (ev_eqS (ev_var rfl) (ev_var rfl) rfl)) (fun _ H7 e7 => ?_) (fun _ H7 e7 => ?_)
    · exact s_give (anew (f6.then e7) (m6.up (dif_mono (Same.refl _) e7)) rfl (fun x => rfl) (fun x => rfl))
    have f7 : Fr r H H7 := f6.then e7
    have m7 := m6.up (dif_mono (Same.refl H) e7)
    refine q_or_draw (n := 2) (et_test (ev_eqS (ev_var rfl) (ev_var rfl) rfl)) (ea_cons (ev_var rfl) (ea_cons ev_c ea_nil)) f7.rng (by decide) (by decide) (fun H8 f8 => ?_) (fun H8 f8 => ?_)
    · exact s_give (anew (f7.trans f8) (m7.up (Fr.dif hro f8)) rfl (fun x => rfl) (fun x => rfl))
    have m8 := m7.up (Fr.dif hro f8)
    have f8 := f7.trans f8
    refine q_setMT (i := a) (j := d) hro f8 m8 (ev_oI (ev_own (own m8) (ev_var rfl) (ev_var rfl) (ev_var rfl) (by rw [d5.tall]; omega) (by rw [d5.at (by omega)]; omega)) (ev_var rfl)) (ev_var rfl) (ev_var rfl) (ev_var rfl) (by rw [d5.tall]; omega) (by rw [d5.at (by omega)]; omega) fun H9 f9 m9 => ?_
    have d9 := d5.set (i := a) (j := d) (n := (M5.getD a []).getD d 0 - n) (by rw [d5.tall]; omega)
    generalize M5.set a ((M5.getD a []).set d ((M5.getD a []).getD d 0 - n)) = M9 at m9 d9
    refine q_setMT (i := b) (j := c) hro f9 m9 (ev_oI (ev_own (own m9) (ev_var rfl) (ev_var rfl) (ev_var rfl) (by rw [d9.tall]; omega) (by rw [d9.at (by omega)]; omega)) (ev_var rfl)) (ev_var rfl) (ev_var rfl) (ev_var rfl) (by rw [d9.tall]; omega) (by rw [d9.at (by omega)]; omega) fun H10 f10 m10 => ?_
    have d10 := d9.set (i := b) (j := c) (n := (M9.getD b []).getD c 0 + n) (by rw [d9.tall]; omega)
    exact s_ret (ev_var rfl) fun H11 e11 => q _ _ H11 (f10.then e11) ((m10.up (dif_mono (Same.refl _) e11)).tab) d10
/-! ### _law_shifted: a table that fits -/
def sp__law_shifted (K : PySem.W.Frag) : Sp := fun vs H Q _ => ∃ (r : Addr) (g hid : V) (G : List (List Int)) (cs : List (Int × Int)), vs = [.ref r, g, hid] ∧ Rng H r ∧ TL K (off r H) g G ∧ Good G ∧ CL K (off r H) hid cs ∧ Hid G cs ∧
  ∀ v M' H', Fr r H H' → TL K (dif H H') v M' → Fits G cs M' → Q v H'
theorem Fits.dims {G M : List (List Int)} {cs : List (Int × Int)} (f : Fits G cs M) : Dims G.length (wide G) M := ⟨f.tall, f.wid⟩
theorem ok__law_shifted (T : Txt K mg) : FnOk P w K mg base CX0 3 T.a__law_shifted T.d__law_shifted ["_law_rng_here", "_law_grid", "_law_hidden"] (sp__law_shifted K) := by
  have G__law_square : FnOk P w K mg base CX0 2 T.a__law_square T.d__law_square ["_law_rng_here", "_law_table", "_law_much"] (sp__law_square K) := ok__law_square T
  have G__law_fits : FnOk P w K mg base CX0 2 T.a__law_fits T.d__law_fits ["_law_grid", "_law_hidden", "_law_table"] (sp__law_fits K) := ok__law_fits T
  refine T.F__law_shifted.ok sc__law_shifted (fun vs H Q E h => ?_) (fun cdv A outer s H vs Q E hr h => ?_)
  · obtain ⟨r, g, hid, G, cs, rfl, _⟩ := h
    rfl
  · obtain ⟨r, g, hid, G, cs, rfl, hR, hG, good, hc, hh, q⟩ := h
    refine ⟨(tSeq (tAsg (tLc (iList K (tVar 1)) (gName 6) tYes (tCB (gListOf K) (tCons (tVar 6) tNil)) [6]) (gName 3))
  (tSeq (tFor (iRng1 (tCons (tC (.int 8)) tNil)) (gName 4)
  (tSeq (tAsg (tCall (sp__law_square K) [] E0 (tCons (tVar 0) (tCons (tVar 3) (tCons (tC (.int 1)) tNil)))) (gName 5))
  (tIfS (tB (tCall (sp__law_fits K) [] E0 (tCons (tVar 1) (tCons (tVar 2) (tCons (tVar 5) tNil))))) (tAsg (tVar 5) (gName 3)) tNext)))
  (tRet (tVar 3)))),
(pss_cons (ps_setLc (i := 3) (own := [("_law_row", 6)]) (g := (gName 6)) (tt := tYes) (te := (tCB (gListOf K) (tCons (tVar 6) tNil))) rfl sc__law_shifted.nd rfl rfl (sw_true rfl rfl rfl (by decide +kernel)) (pi_list (pv 1)) (blkOk_by (N := ["_law_rng_here", "_law_grid", "_law_hidden", "_law_table", "_law_attempt", "_law_changed", "_law_row"]) (sc := defScope s__law_shifted) (own := [("_law_row", 6)]) (by decide +kernel)) (fun _ _ _ _ _ => (pg_name (i := 6) sc__law_shifted.nd rfl (.inl rfl))) (fun _ _ _ _ _ => pts_nil) (fun _ _ _ _ _ => (pe_callTy call_list_of (by rfl) T.z_list (by decide +kernel) (pa_cons (pv 6) pa_nil))))
  (pss_cons (ps_for PassesOwn.never rfl (pi_range1 (by rfl) T.z_range (pa_cons pe_int pa_nil)) (pg_name (i := 4) sc__law_shifted.nd rfl (.inl rfl))
  (pss_cons (ps_set (i := 5) sc__law_shifted.nd rfl (.inl rfl) (pe_call (G__law_square.mono (by decide)) hr (by rfl) T.g__law_square T.F__law_square.kp T.b__law_square .nil pass0 (pa_cons (pv 0) (pa_cons (pv 3) (pa_cons pe_int pa_nil)))))
  (pss_one (ps_if (pt_val (pe_call (G__law_fits.mono (by decide)) hr (by rfl) T.g__law_fits T.F__law_fits.kp T.b__law_fits .nil pass0 (pa_cons (pv 1) (pa_cons (pv 2) (pa_cons (pv 5) pa_nil))))) (pss_one (ps_set (i := 3) sc__law_shifted.nd rfl (.inl rfl) (pv 5))) pss_nil))))
  (pss_one (ps_ret (pv 3))))), ?_⟩
    obtain ⟨u, hro⟩ := Rng.some hR
    have tab : ∀ {Hx : Hp}, Fr r H Hx → TL K Hx g G := fun f => up_tl _ _ _ _ (Same.trans f.same (off_same _ _)) hG
    have hids : ∀ {Hx : Hp}, Fr r H Hx → CL K Hx hid cs := fun f => up_cl _ _ _ _ (Same.trans f.same (off_same _ _)) hc
    have t6 := good.tall6
    have w6 := good.wide6
    refine q_set (lc_own (S := IL K) (as := G) (F := fun row => row) (src_of (D := IL K) up_il (ev_var rfl) (tab (Fr.refl hR))) (by omega) (fun x => rfl) (fun H1 e1 i row x hx hS => ?_) up_il H (Same.refl _) _ fun o rs H1 e1 m => ?_)
    · obtain ⟨a, rfl, hs⟩ := il_sq hS
      exact el_listOf (ev_var rfl) (.inl hs)
    rw [List.map_id'] at m
    refine q_forR1 (n := 8) (ea_cons ev_c ea_nil) (by decide) (fun i σ' H2 => Fr r H H2 ∧ ∃ v M y z, σ' = [some (.ref r), some g, some hid, some v, y, z, none] ∧ TL K (dif H H2) v M ∧ Fits G cs M)
      (fun H2 e2 => ⟨Fr.of hR (Same.trans e1 e2), .ref o, G, _, _, rfl, (m.up (dif_mono (Same.refl _) e2)).tab, good.fits cs⟩) (fun i σ' H2 hi p => ?_) (fun σ' H2 p => ?_)
    · obtain ⟨f, v, M, y, z, rfl, hv, fit⟩ := p
      have hvr : TL K (off r H2) v M := up_tl _ _ _ _ (off_dif hro) hv
      refine q_set (t_call (ea_cons (ev_var rfl) (ea_cons (ev_var rfl) (ea_cons ev_c ea_nil))) fun H3 e3 => ?_)
      have f3 : Fr r H H3 := f.then e3
      refine ⟨r, v, 1, M, G.length, wide G, rfl, f3.rng, up_tl _ _ _ _ (off_mono e3) hvr, fit.dims, good.rect.tall, good.rect.tall', good.rect.wid, good.rect.wid', fun v' M' H4 f4 hv' d' => ?_⟩
      have f34 : Fr r H H4 := f3.trans f4
      have hv4 : TL K (dif H H4) v M := up_tl _ _ _ _ (Same.trans (dif_mono (Same.refl _) e3) (Fr.dif hro f4)) hv
      have hv'4 : TL K (dif H H4) v' M' := up_tl _ _ _ _ (fun a u' ha => by
        obtain ⟨a1, a2⟩ := dif_some.mp ha
        exact dif_some.mpr ⟨fr_free hro f3 a1, a2⟩) hv'
      refine s_when (et_B (ev_call (ea_cons (ev_var rfl) (ea_cons (ev_var rfl) (ea_cons (ev_var rfl) ea_nil))) (v_law_fits (tab f34) good.rect (hids f34) hh (up_tl _ _ _ _ (dif_same _ _) hv'4) (by rw [d'.tall]; omega)))) (fun hb H5 e5 => ?_) (fun hb H5 e5 => ?_)
      · exact s_asg (ev_var rfl) fun H6 e6 => ⟨f34.then (Same.trans e5 e6), v', M', _, _, rfl, up_tl _ _ _ _ (dif_mono (Same.refl _) (Same.trans e5 e6)) hv'4, tr_iff.mp hb⟩
      · exact ⟨f34.then e5, v, M, _, _, rfl, up_tl _ _ _ _ (dif_mono (Same.refl _) e5) hv4, fit⟩
    · obtain ⟨f, v, M, y, z, rfl, hv, fit⟩ := p
      exact s_ret (ev_var rfl) fun H3 e3 => q v M H3 (f.then e3) (up_tl _ _ _ _ (dif_mono (Same.refl _) e3) hv) fit
end S38
namespace S38
open PySem PySem.Spec PyProof.Rows L2 GK Evl
variable {P : Program} {w : World} {K : PySem.W.Frag} {mg : Str → Option Value} {base : Heap}
section
variable {σ : L2.St} {H H0 : Hp} {ta ti tj te tl : TE} {o r : Addr} {rs : List Addr} {M : List (List Int)} {i j : Nat} {n : Int} {u : HO} {D : Ends} {tz tu : TS} {v : V} {t : TT} {b : Bool}
theorem g_setMT {R : L2.St → Hp → Prop} (hro : H0 r = some u) (f : Fr r H0 H) (m : MT (dif H0 H) o rs M) (ho : Ev ta σ H (.ref o)) (hi : Ev ti σ H (.int (i : Int))) (hj : Ev tj σ H (.int (j : Int))) (h1 : i < M.length) (h2 : j < (M.getD i []).length)
    (k : ∀ H2, Fr r H0 H2 → MT (dif H0 H2) o rs (M.set i ((M.getD i []).set j n)) → R σ H2) : gSub (tOp (rIxL K) ta ti) tj rSetL (.int n) σ H R :=
  s_setMT (te := tC (.int n)) (D := { nx := R, rt := fun _ _ => True }) hro f m ev_c ho hi hj h1 h2 k
/-- an if, what follows told once, from Mid -/
theorem q_whenM {Mid : L2.St → Hp → Prop} (k : ∀ σ' H', Mid σ' H' → tz D σ' H') (h : EvT t σ H b) (h1 : (∀ σ' H', Mid σ' H' → tz D σ' H') → b = true → ∀ H1, Same H H1 → tu { D with nx := tz D } σ H1) (h2 : b = false → ∀ H1, Same H H1 → Mid σ H1) : tSeq (tIfS t tu tNext) tz D σ H :=
  q_when h (fun hb H1 e => h1 k hb H1 e) (fun hb H1 e => k _ _ (h2 hb H1 e))
def RowO : Hp → V → List Int → Prop := fun H x row => ∃ b, x = .ref b ∧ H b = some (.lst (row.map V.int))
theorem up_row : Up RowO := fun H H' v a e ⟨b, h1, h2⟩ => ⟨b, h1, e _ _ h2⟩
theorem src_own (m : MT H o rs M) (h : Ev tl σ H (.ref o)) : Src K tl σ H RowO M := fun H1 e Q q =>
  h H1 e _ fun H2 e2 => q o _ H2 e2 (SqL.of (e2 _ _ (e _ _ m.top))) (pd_mapL (pd_imp (fun r row z => ⟨r, rfl, e2 _ _ (e _ _ z)⟩) m.rows))
end
def sp__law_broken (K : PySem.W.Frag) : Sp := fun vs H Q _ => ∃ (r : Addr) (g t : V) (G M : List (List Int)), vs = [.ref r, g, t] ∧ Rng H r ∧ TL K (off r H) g G ∧ Good G ∧ TL K (off r H) t M ∧ Dims G.length (wide G) M ∧
  ∀ v M' H', Fr r H H' → TL K (dif H H') v M' → M'.length ≤ 1000 → Q v H'
theorem ok__law_broken (T : Txt K mg) : FnOk P w K mg base CX0 3 T.a__law_broken T.d__law_broken ["_law_rng_here", "_law_grid", "_law_table"] (sp__law_broken K) := by
  have G__law_draw : FnOk P w K mg base CX0 1 T.a__law_draw T.d__law_draw ["_law_rng_here", "_law_limit"] (sp__law_draw K) := ok__law_draw T
  have G__law_pick : FnOk P w K mg base CX0 2 T.a__law_pick T.d__law_pick ["_law_rng_here", "_law_items"] (sp__law_pick K) := ok__law_pick T
  have G__law_with_sums : FnOk P w K mg base CX0 1 T.a__law_with_sums T.d__law_with_sums ["_law_cells_here"] (sp__law_with_sums K) := ok__law_with_sums T
  have G__law_square : FnOk P w K mg base CX0 2 T.a__law_square T.d__law_square ["_law_rng_here", "_law_table", "_law_much"] (sp__law_square K) := ok__law_square T
  refine T.F__law_broken.ok sc__law_broken (fun vs H Q E h => ?_) (fun cdv A outer s H vs Q E hr h => ?_)
  · obtain ⟨r, g, t, G, M, rfl, _⟩ := h
    rfl
  · obtain ⟨r, g, t, G, M, rfl, hR, hG, good, hM, dM, q⟩ := h
    refine ⟨(tSeq (tAsg (tLc (iList K (tVar 2)) (gName 4) tYes (tCB (gListOf K) (tCons (tVar 4) tNil)) [4]) (gName 3))
  (tSeq (tPar 4 5 (tCons (tCall (sp__law_draw K) [] E0 (tCons (tVar 0) (tCons (tCB (gLenQ K) (tCons (tVar 1) tNil)) tNil))) (tCons (tCall (sp__law_draw K) [] E0 (tCons (tVar 0) (tCons (tCB (gLenQ K) (tCons (tOp (rIxL K) (tVar 1) (tC (.int 0))) tNil)) tNil))) tNil)))
  (tSeq (tAsg (tCall (sp__law_draw K) [] E0 (tCons (tVar 0) (tCons (tCB gMax2 (tCons (tC (.int 1)) (tCons (tOp (rI0 fun i j => .int (i - j)) (tCB (gLenQ K) (tCons (tOp (rIxL K) (tVar 1) (tC (.int 0))) tNil)) (tC (.int 1))) tNil))) tNil))) (gName 6))
  (tSeq (tAsg (tCall (sp__law_draw K) [] E0 (tCons (tVar 0) (tCons (tC (.int 10)) tNil))) (gName 7))
  (tSeq (tIfS (tTest (tOp rEq (tVar 7) (tC (.int 0)))) (tAsg (tOp (rI0 fun i j => .int (i + j)) (tOp (rIxL K) (tOp (rIxL K) (tVar 3) (tVar 4)) (tVar 5)) (tCall (sp__law_pick K) [] E0 (tCons (tVar 0) (tCons (tLst (tCons (tC (.int 1)) (tCons (tUn (rU fun i => .int (-i)) (tC (.int 1))) (tCons (tC (.int 5)) tNil)))) tNil)))) (gSub (tOp (rIxL K) (tVar 3) (tVar 4)) (tVar 5) rSetL)) tNext)
  (tSeq (tIfS (tAnd (tTest (tOp rEq (tVar 7) (tC (.int 1)))) (tTest (tOp (rI0 fun i j => .bl (decide (i < j))) (tVar 5) (tOp (rI0 fun i j => .int (i - j)) (tCB (gLenQ K) (tCons (tOp (rIxL K) (tVar 1) (tC (.int 0))) tNil)) (tC (.int 1)))))) (tSeq (tAsg (tOp (rI0 fun i j => .int (i + j)) (tOp (rIxL K) (tOp (rIxL K) (tVar 3) (tVar 4)) (tVar 5)) (tC (.int 1))) (gSub (tOp (rIxL K) (tVar 3) (tVar 4)) (tVar 5) rSetL))
  (tAsg (tOp (rI0 fun i j => .int (i - j)) (tOp (rIxL K) (tOp (rIxL K) (tVar 3) (tVar 4)) (tVar 6)) (tC (.int 1))) (gSub (tOp (rIxL K) (tVar 3) (tVar 4)) (tVar 6) rSetL))) tNext)
  (tSeq (tIfS (tTest (tOp rEq (tVar 7) (tC (.int 2)))) (tSeq (tAsg (tCall (sp__law_draw K) [] E0 (tCons (tVar 0) (tCons (tCB gMax2 (tCons (tC (.int 1)) (tCons (tOp (rI0 fun i j => .int (i - j)) (tCB (gLenQ K) (tCons (tVar 1) tNil)) (tC (.int 1))) tNil))) tNil))) (gName 6))
  (tSeq (tAsg (tOp (rI0 fun i j => .int (i + j)) (tOp (rIxL K) (tOp (rIxL K) (tVar 3) (tCB gMin2 (tCons (tVar 4) (tCons (tOp (rI0 fun i j => .int (i - j)) (tCB (gLenQ K) (tCons (tVar 1) tNil)) (tC (.int 2))) tNil)))) (tVar 5)) (tC (.int 1))) (gSub (tOp (rIxL K) (tVar 3) (tCB gMin2 (tCons (tVar 4) (tCons (tOp (rI0 fun i j => .int (i - j)) (tCB (gLenQ K) (tCons (tVar 1) tNil)) (tC (.int 2))) tNil)))) (tVar 5) rSetL))
  (tAsg (tOp (rI0 fun i j => .int (i - j)) (tOp (rIxL K) (tOp (rIxL K) (tVar 3) (tVar 6)) (tVar 5)) (tC (.int 1))) (gSub (tOp (rIxL K) (tVar 3) (tVar 6)) (tVar 5) rSetL)))) tNext)
  (tSeq (tIfS (tTest (tOp rEq (tVar 7) (tC (.int 3)))) (tRet (tCall (sp__law_square K) [] E0 (tCons (tVar 0) (tCons (tVar 2) (tCons (tOp (rI CPow fun i j => .int (i ^ j.toNat)) (tC (.int 10)) (tC (.int 7))) tNil))))) tNext)
  (tSeq (tIfS (tTest (tOp rEq (tVar 7) (tC (.int 4)))) (tRet (tCall (sp__law_square K) [] E0 (tCons (tVar 0) (tCons (tVar 2) (tCons (tCall (sp__law_pick K) [] E0 (tCons (tVar 0) (tCons (tLst (tCons (tC (.int 1)) (tCons (tUn (rU fun i => .int (-i)) (tC (.int 1))) tNil))) tNil))) tNil))))) tNext)
  (tSeq (tIfS (tTest (tOp rEq (tVar 7) (tC (.int 5)))) (tSeq (tAsg (tLc (iList K (tSl (rSlL K) (tVar 3) tNoPart (tPart (tUn (rU fun i => .int (-i)) (tC (.int 1)))))) (gName 9) tYes (tSl (rSlL K) (tVar 9) tNoPart (tPart (tUn (rU fun i => .int (-i)) (tC (.int 1))))) [9]) (gName 8))
  (tSeq (tAsg (tOp (rI0 fun i j => .int (i + j)) (tOp (rIxL K) (tOp (rIxL K) (tVar 8) (tCB gMin2 (tCons (tVar 4) (tCons (tOp (rI0 fun i j => .int (i - j)) (tCB (gLenQ K) (tCons (tVar 8) tNil)) (tC (.int 1))) tNil)))) (tVar 6)) (tC (.int 1))) (gSub (tOp (rIxL K) (tVar 8) (tCB gMin2 (tCons (tVar 4) (tCons (tOp (rI0 fun i j => .int (i - j)) (tCB (gLenQ K) (tCons (tVar 8) tNil)) (tC (.int 1))) tNil)))) (tVar 6) rSetL))
  (tRet (tCall (sp__law_with_sums K) [] E0 (tCons (tVar 8) tNil))))) tNext)
  (tSeq (tIfS (tTest (tOp rEq (tVar 7) (tC (.int 6)))) (tRet (tCall (sp__law_with_sums K) [] E0 (tCons (tLc (iList K (tSl (rSlL K) (tVar 3) tNoPart (tPart (tUn (rU fun i => .int (-i)) (tC (.int 1)))))) (gName 9) tYes (tLc (iList K (tSl (rSlL K) (tVar 9) tNoPart (tPart (tUn (rU fun i => .int (-i)) (tC (.int 1)))))) (gName 10) tYes (tOp (rI CMul fun i j => .int (i * j)) (tC (.int 2)) (tVar 10)) [10]) [9]) tNil))) tNext)
  (tSeq (tIfS (tTest (tOp rEq (tVar 7) (tC (.int 7)))) (tRet (tCall (sp__law_pick K) [] E0 (tCons (tVar 0) (tCons (tLst (tCons (tSl (rSlL K) (tVar 3) (tPart (tC (.int 1))) tNoPart) (tCons (tOp rCat (tVar 3) (tLst (tCons (tOp (rIxL K) (tVar 3) (tUn (rU fun i => .int (-i)) (tC (.int 1)))) tNil))) (tCons (tLc (iList K (tVar 3)) (gName 9) tYes (tSl (rSlL K) (tVar 9) (tPart (tC (.int 1))) tNoPart) [9]) tNil)))) tNil)))) tNext)
  (tSeq (tIfS (tTest (tOp rEq (tVar 7) (tC (.int 8)))) (tRet (tLc (iList K (tVar 3)) (gName 9) tYes (tOp rCat (tLst (tCons (tC (.int 0)) tNil)) (tVar 9)) [9])) tNext)
  (tRet (tVar 3))))))))))))))),
(pss_cons (ps_setLc (i := 3) (own := [("_law_row", 4)]) (g := (gName 4)) (tt := tYes) (te := (tCB (gListOf K) (tCons (tVar 4) tNil))) rfl sc__law_broken.nd rfl rfl (sw_true rfl rfl rfl (by decide +kernel)) (pi_list (pv 2)) (blkOk_by (N := ["_law_rng_here", "_law_grid", "_law_table", "_law_result", "_law_row", "_law_column", "_law_other", "_law_way", "_law_cells_here", "_law_line", "_law_number"]) (sc := defScope s__law_broken) (own := [("_law_row", 4)]) (by decide +kernel)) (fun _ _ _ _ _ => (pg_name (i := 4) sc__law_broken.nd rfl (.inl rfl))) (fun _ _ _ _ _ => pts_nil) (fun _ _ _ _ _ => (pe_callTy call_list_of (by rfl) T.z_list (by decide +kernel) (pa_cons (pv 4) pa_nil))))
  (pss_cons (ps_par (i := 4) (j := 5) rfl sc__law_broken.nd rfl rfl (by decide) rfl rfl (pa_cons (pe_call (G__law_draw.mono (by decide)) hr (by rfl) T.g__law_draw T.F__law_draw.kp T.b__law_draw .nil pass0 (pa_cons (pv 0) (pa_cons (pe_callB call_len_seq (by rfl) T.z_len (by decide +kernel) (pa_cons (pv 1) pa_nil)) pa_nil))) (pa_cons (pe_call (G__law_draw.mono (by decide)) hr (by rfl) T.g__law_draw T.F__law_draw.kp T.b__law_draw .nil pass0 (pa_cons (pv 0) (pa_cons (pe_callB call_len_seq (by rfl) T.z_len (by decide +kernel) (pa_cons (pe_ix ix_list (pv 1) pe_int (fun _ _ => rfl)) pa_nil)) pa_nil))) pa_nil)) (by rfl))
  (pss_cons (ps_set (i := 6) sc__law_broken.nd rfl (.inl rfl) (pe_call (G__law_draw.mono (by decide)) hr (by rfl) T.g__law_draw T.F__law_draw.kp T.b__law_draw .nil pass0 (pa_cons (pv 0) (pa_cons (pe_callB (call_max2 rfl) (by rfl) T.z_max (by decide +kernel) (pa_cons pe_int (pa_cons (pe_op op_sub (pe_callB call_len_seq (by rfl) T.z_len (by decide +kernel) (pa_cons (pe_ix ix_list (pv 1) pe_int (fun _ _ => rfl)) pa_nil)) pe_int) pa_nil))) pa_nil))))
  (pss_cons (ps_set (i := 7) sc__law_broken.nd rfl (.inl rfl) (pe_call (G__law_draw.mono (by decide)) hr (by rfl) T.g__law_draw T.F__law_draw.kp T.b__law_draw .nil pass0 (pa_cons (pv 0) (pa_cons pe_int pa_nil))))
  (pss_cons (ps_if (pt_cmpR op_eq (pv 7) pe_int (nomark _)) (pss_one (ps_asg (pe_op op_add (pe_ix ix_list (pe_ix ix_list (pv 3) (pv 4) (fun _ _ => rfl)) (pv 5) (fun _ _ => rfl)) (pe_call (G__law_pick.mono (by decide)) hr (by rfl) T.g__law_pick T.F__law_pick.kp T.b__law_pick .nil pass0 (pa_cons (pv 0) (pa_cons (pe_lst (pa_cons pe_int (pa_cons (pe_un un_neg pe_int) (pa_cons pe_int pa_nil)))) pa_nil)))) (pg_sub (pe_ix ix_list (pv 3) (pv 4) (fun _ _ => rfl)) (pv 5) set_list))) pss_nil)
  (pss_cons (ps_if (PW.pt (pw_and (pt_cmpR op_eq (pv 7) pe_int (nomark _)) (pw_and1 (pt_cmpR op_lt (pv 5) (pe_op op_sub (pe_callB call_len_seq (by rfl) T.z_len (by decide +kernel) (pa_cons (pe_ix ix_list (pv 1) pe_int (fun _ _ => rfl)) pa_nil)) pe_int) (nomark _))))) (pss_cons (ps_asg (pe_op op_add (pe_ix ix_list (pe_ix ix_list (pv 3) (pv 4) (fun _ _ => rfl)) (pv 5) (fun _ _ => rfl)) pe_int) (pg_sub (pe_ix ix_list (pv 3) (pv 4) (fun _ _ => rfl)) (pv 5) set_list))
  (pss_one (ps_asg (pe_op op_sub (pe_ix ix_list (pe_ix ix_list (pv 3) (pv 4) (fun _ _ => rfl)) (pv 6) (fun _ _ => rfl)) pe_int) (pg_sub (pe_ix ix_list (pv 3) (pv 4) (fun _ _ => rfl)) (pv 6) set_list)))) pss_nil)
  (pss_cons (ps_if (pt_cmpR op_eq (pv 7) pe_int (nomark _)) (pss_cons (ps_set (i := 6) sc__law_broken.nd rfl (.inl rfl) (pe_call (G__law_draw.mono (by decide)) hr (by rfl) T.g__law_draw T.F__law_draw.kp T.b__law_draw .nil pass0 (pa_cons (pv 0) (pa_cons (pe_callB (call_max2 rfl) (by rfl) T.z_max (by decide +kernel) (pa_cons pe_int (pa_cons (pe_op op_sub (pe_callB call_len_seq (by rfl) T.z_len (by decide +kernel) (pa_cons (pv 1) pa_nil)) pe_int) pa_nil))) pa_nil))))
  (pss_cons (ps_asg (pe_op op_add (pe_ix ix_list (pe_ix ix_list (pv 3) (pe_callB (call_min2 rfl) (by rfl) T.z_min (by decide +kernel) (pa_cons (pv 4) (pa_cons (pe_op op_sub (pe_callB call_len_seq (by rfl) T.z_len (by decide +kernel) (pa_cons (pv 1) pa_nil)) pe_int) pa_nil))) (fun _ _ => rfl)) (pv 5) (fun _ _ => rfl)) pe_int) (pg_sub (pe_ix ix_list (pv 3) (pe_callB (call_min2 rfl) (by rfl) T.z_min (by decide +kernel) (pa_cons (pv 4) (pa_cons (pe_op op_sub (pe_callB call_len_seq (by rfl) T.z_len (by decide +kernel) (pa_cons (pv 1) pa_nil)) pe_int) pa_nil))) (fun _ _ => rfl)) (pv 5) set_list))
  (pss_one (ps_asg (pe_op op_sub (pe_ix ix_list (pe_ix ix_list (pv 3) (pv 6) (fun _ _ => rfl)) (pv 5) (fun _ _ => rfl)) pe_int) (pg_sub (pe_ix ix_list (pv 3) (pv 6) (fun _ _ => rfl)) (pv 5) set_list))))) pss_nil)
  (pss_cons (ps_if (pt_cmpR op_eq (pv 7) pe_int (nomark _)) (pss_one (ps_ret (pe_call (G__law_square.mono (by decide)) hr (by rfl) T.g__law_square T.F__law_square.kp T.b__law_square .nil pass0 (pa_cons (pv 0) (pa_cons (pv 2) (pa_cons (pe_op op_pow pe_int pe_int) pa_nil)))))) pss_nil)
  (pss_cons (ps_if (pt_cmpR op_eq (pv 7) pe_int (nomark _)) (pss_one (ps_ret (pe_call (G__law_square.mono (by decide)) hr (by rfl) T.g__law_square T.F__law_square.kp T.b__law_square .nil pass0 (pa_cons (pv 0) (pa_cons (pv 2) (pa_cons (pe_call (G__law_pick.mono (by decide)) hr (by rfl) T.g__law_pick T.F__law_pick.kp T.b__law_pick .nil pass0 (pa_cons (pv 0) (pa_cons (pe_lst (pa_cons pe_int (pa_cons (pe_un un_neg pe_int) pa_nil))) pa_nil))) pa_nil)))))) pss_nil)
  (pss_cons (ps_if (pt_cmpR op_eq (pv 7) pe_int (nomark _)) (pss_cons (ps_setLc (i := 8) (own := [("_law_line", 9)]) (g := (gName 9)) (tt := tYes) (te := (tSl (rSlL K) (tVar 9) tNoPart (tPart (tUn (rU fun i => .int (-i)) (tC (.int 1)))))) rfl sc__law_broken.nd rfl rfl (sw_true rfl rfl rfl (by decide +kernel)) (pi_list (pe_slice sl_list (pv 3) po_none (po_some (pe_un un_neg pe_int)))) (blkOk_by (N := ["_law_rng_here", "_law_grid", "_law_table", "_law_result", "_law_row", "_law_column", "_law_other", "_law_way", "_law_cells_here", "_law_line", "_law_number"]) (sc := defScope s__law_broken) (own := [("_law_line", 9)]) (by decide +kernel)) (fun _ _ _ _ _ => (pg_name (i := 9) sc__law_broken.nd rfl (.inl rfl))) (fun _ _ _ _ _ => pts_nil) (fun _ _ _ _ _ => (pe_slice sl_list (pv 9) po_none (po_some (pe_un un_neg pe_int)))))
  (pss_cons (ps_asg (pe_op op_add (pe_ix ix_list (pe_ix ix_list (pv 8) (pe_callB (call_min2 rfl) (by rfl) T.z_min (by decide +kernel) (pa_cons (pv 4) (pa_cons (pe_op op_sub (pe_callB call_len_seq (by rfl) T.z_len (by decide +kernel) (pa_cons (pv 8) pa_nil)) pe_int) pa_nil))) (fun _ _ => rfl)) (pv 6) (fun _ _ => rfl)) pe_int) (pg_sub (pe_ix ix_list (pv 8) (pe_callB (call_min2 rfl) (by rfl) T.z_min (by decide +kernel) (pa_cons (pv 4) (pa_cons (pe_op op_sub (pe_callB call_len_seq (by rfl) T.z_len (by decide +kernel) (pa_cons (pv 8) pa_nil)) pe_int) pa_nil))) (fun _ _ => rfl)) (pv 6) set_list))
  (pss_one (ps_ret (pe_call (G__law_with_sums.mono (by decide)) hr (by rfl) T.g__law_with_sums T.F__law_with_sums.kp T.b__law_with_sums .nil pass0 (pa_cons (pv 8) pa_nil)))))) pss_nil)
  (pss_cons (ps_if (pt_cmpR op_eq (pv 7) pe_int (nomark _)) (pss_one (ps_ret (pe_call (G__law_with_sums.mono (by decide)) hr (by rfl) T.g__law_with_sums T.F__law_with_sums.kp T.b__law_with_sums .nil pass0 (pa_cons (pe_lc (own := [("_law_line", 9)]) (g := (gName 9)) (tt := tYes) (te := (tLc (iList K (tSl (rSlL K) (tVar 9) tNoPart (tPart (tUn (rU fun i => .int (-i)) (tC (.int 1)))))) (gName 10) tYes (tOp (rI CMul fun i j => .int (i * j)) (tC (.int 2)) (tVar 10)) [10])) rfl sc__law_broken.nd (pi_list (pe_slice sl_list (pv 3) po_none (po_some (pe_un un_neg pe_int)))) (blkOk_by (N := ["_law_rng_here", "_law_grid", "_law_table", "_law_result", "_law_row", "_law_column", "_law_other", "_law_way", "_law_cells_here", "_law_line", "_law_number"]) (sc := defScope s__law_broken) (own := [("_law_line", 9)]) (by decide +kernel)) (fun _ _ _ _ _ => (pg_name (i := 9) sc__law_broken.nd rfl (.inl rfl))) (fun _ _ _ _ _ => pts_nil) (fun _ _ _ _ _ => (pe_lc (own := [("_law_number", 10)]) (g := (gName 10)) (tt := tYes) (te := (tOp (rI CMul fun i j => .int (i * j)) (tC (.int 2)) (tVar 10))) rfl sc__law_broken.nd (pi_list (pe_slice sl_list (pv 9) po_none (po_some (pe_un un_neg pe_int)))) (blkOk_by (own := [("_law_number", 10)]) (by kernel_rfl)) (fun _ _ _ _ _ => (pg_name (i := 10) sc__law_broken.nd rfl (.inl rfl))) (fun _ _ _ _ _ => pts_nil) (fun _ _ _ _ _ => (pe_op op_mul pe_int (pv 10)))))) pa_nil)))) pss_nil)
  (pss_cons (ps_if (pt_cmpR op_eq (pv 7) pe_int (nomark _)) (pss_one (ps_ret (pe_call (G__law_pick.mono (by decide)) hr (by rfl) T.g__law_pick T.F__law_pick.kp T.b__law_pick .nil pass0 (pa_cons (pv 0) (pa_cons (pe_lst (pa_cons (pe_slice sl_list (pv 3) (po_some pe_int) po_none) (pa_cons (pe_op op_cat (pv 3) (pe_lst (pa_cons (pe_ix ix_list (pv 3) (pe_un un_neg pe_int) (fun _ _ => rfl)) pa_nil))) (pa_cons (pe_lc (own := [("_law_line", 9)]) (g := (gName 9)) (tt := tYes) (te := (tSl (rSlL K) (tVar 9) (tPart (tC (.int 1))) tNoPart)) rfl sc__law_broken.nd (pi_list (pv 3)) (blkOk_by (N := ["_law_rng_here", "_law_grid", "_law_table", "_law_result", "_law_row", "_law_column", "_law_other", "_law_way", "_law_cells_here", "_law_line", "_law_number"]) (sc := defScope s__law_broken) (own := [("_law_line", 9)]) (by decide +kernel)) (fun _ _ _ _ _ => (pg_name (i := 9) sc__law_broken.nd rfl (.inl rfl))) (fun _ _ _ _ _ => pts_nil) (fun _ _ _ _ _ => (pe_slice sl_list (pv 9) (po_some pe_int) po_none))) pa_nil)))) pa_nil))))) pss_nil)
  (pss_cons (ps_if (pt_cmpR op_eq (pv 7) pe_int (nomark _)) (pss_one (ps_ret (pe_lc (own := [("_law_line", 9)]) (g := (gName 9)) (tt := tYes) (te := (tOp rCat (tLst (tCons (tC (.int 0)) tNil)) (tVar 9))) rfl sc__law_broken.nd (pi_list (pv 3)) (blkOk_by (N := ["_law_rng_here", "_law_grid", "_law_table", "_law_result", "_law_row", "_law_column", "_law_other", "_law_way", "_law_cells_here", "_law_line", "_law_number"]) (sc := defScope s__law_broken) (own := [("_law_line", 9)]) (by decide +kernel)) (fun _ _ _ _ _ => (pg_name (i := 9) sc__law_broken.nd rfl (.inl rfl))) (fun _ _ _ _ _ => pts_nil) (fun _ _ _ _ _ => (pe_op op_cat (pe_lst (pa_cons pe_int pa_nil)) (pv 9)))))) pss_nil)
  (pss_one (ps_ret (pv 3)))))))))))))))), ?_⟩
    obtain ⟨u, hro⟩ := Rng.some hR
    have tab : ∀ {Hx : Hp}, Fr r H Hx → TL K Hx g G := fun f => up_tl _ _ _ _ (Same.trans f.same (off_same _ _)) hG
    have tabM : ∀ {Hx : Hp}, Fr r H Hx → TL K (off r Hx) t M := fun f => up_tl _ _ _ _ f.same hM
    have t6 := good.tall6
    have w6 := good.wide6
    have t2 := good.rect.tall
    have w2 := good.rect.wid
    refine q_set (lc_own (S := IL K) (as := M) (F := fun row => row) (src_of (D := IL K) up_il (ev_var rfl) (up_tl _ _ _ _ (off_same _ _) hM)) (by rw [dM.tall]; omega) (fun x => rfl) (fun H1 e1 i row x hx hS => ?_) up_il H (Same.refl _) _ fun o rs H1 e1 m => ?_)
    · obtain ⟨a, rfl, hs⟩ := il_sq hS
      exact el_listOf (ev_var rfl) (.inl hs)
    rw [List.map_id'] at m
    have f1 : Fr r H H1 := Fr.of hR e1
    -- a row, a column, another one, the way
    refine q_par_draw (n := (G.length : Int)) (m := (wide G : Int)) (ea_cons (ev_var rfl) (ea_cons (ev_lenD (ev_var rfl) (tab f1)) ea_nil)) (fun H2 f2 => ea_cons (ev_var rfl) (ea_cons (ev_lenRow (ev_var rfl) (tab (f1.trans f2)) good.rect.ne) ea_nil)) f1.rng (by omega) (by omega) (by omega) (by omega) fun a b H2 ha hb f2 => ?_
    have m2 := m.up (Fr.dif hro f2)
    have f2 := f1.trans f2
    refine q_set (t_draw (n := max 1 ((wide G : Int) - 1)) (ea_cons (ev_var rfl) (ea_cons (ev_max2' ev_c (ev_oI (ev_lenRow (ev_var rfl) (tab f2) good.rect.ne) ev_c)) ea_nil)) f2.rng (by omega) (by omega) fun c H3 c0 c1 f3 => ?_)
    have m3 := m2.up (Fr.dif hro f3)
    have f3 := f2.trans f3
    obtain ⟨c, rfl⟩ := Int.eq_ofNat_of_zero_le c0
    have hc : c < wide G - 1 := by omega
    refine q_set (t_draw (n := 10) (ea_cons (ev_var rfl) (ea_cons ev_c ea_nil)) f3.rng (by decide) (by decide) fun way H4 _ _ f4 => ?_)
    have m4 := m3.up (Fr.dif hro f4)
    have f4 := f3.trans f4
    have own : ∀ {Hx : Hp} {o : Addr} {rs : List Addr} {N : List (List Int)}, MT (dif H Hx) o rs N → MT Hx o rs N := fun m => m.up (dif_same _ _)
    -- what holds between the ifs
    let Mid : L2.St → Hp → Prop := fun σ' H' => Fr r H H' ∧ ∃ (N : List (List Int)) (c : Nat), σ' = [some (.ref r), some g, some t, some (.ref o), some (.int (a : Int)), some (.int (b : Int)), some (.int (c : Int)), some (.int way), none, none, none] ∧ MT (dif H H') o rs N ∧ Dims G.length (wide G) N ∧ (way = 2 ∨ c < wide G - 1)
    -- way 0
    refine q_whenM (Mid := Mid) (fun σ' H5 mid => ?_) (et_test (ev_eqS (ev_var rfl) ev_c rfl)) (fun k hb H5 e5 => ?_) (fun hb H5 e5 => ⟨f4.then e5, M, c, rfl, m4.up (dif_mono (Same.refl _) e5), dM, .inr hc⟩)
    rotate_left
    · have f5 : Fr r H H5 := f4.then e5
      have m5 := m4.up (dif_mono (Same.refl H) e5)
      refine t_opR (ev_own (i := a) (j := b) (own m5) (ev_var rfl) (ev_var rfl) (ev_var rfl) (by rw [dM.tall]; omega) (by rw [dM.at (by omega)]; omega)) fun H6 e6 => ?_
      have f6 : Fr r H H6 := f5.then e6
      have m6 := m5.up (dif_mono (Same.refl H) e6)
      refine t_call2L (x := .ref r) (ev_var rfl) (el_lst (ea_cons ev_c (ea_cons ev_neg1 (ea_cons ev_c ea_nil))) small3) fun p H7 hp e7 h7 => ?_
      have f7 : Fr r H H7 := f6.then e7
      have npr : p ≠ r := fun z => by
        subst z
        obtain ⟨_, _, _, h⟩ := f6.rng
        rw [h] at hp
        cases hp
      refine ⟨r, p, _, rfl, f7.rng, SqL.of (off_some.mpr ⟨npr, h7⟩), by simp, by simp, fun x H8 hx f8 => ?_⟩
      have m8 := (m6.up (dif_mono (Same.refl H) e7)).up (Fr.dif hro f8)
      obtain ⟨n, rfl⟩ : ∃ n : Int, x = .int n := by
        simp only [List.mem_cons, List.not_mem_nil, or_false] at hx
        rcases hx with rfl | rfl | rfl <;> exact ⟨_, rfl⟩
      refine ⟨_, n, rfl, rfl, ?_⟩
      exact g_setMT (i := a) (j := b) hro (f7.trans f8) m8 (ev_var rfl) (ev_var rfl) (ev_var rfl) (by rw [dM.tall]; omega) (by rw [dM.at (by omega)]; omega) fun H9 f9 m9 => k _ _ ⟨f9, _, c, rfl, m9, dM.set (by rw [dM.tall]; omega), .inr hc⟩
    obtain ⟨f5, N, c, rfl, m5, dN, hc⟩ := mid
    clear m m2 m3 m4 f1 f2 f3 f4 hM
    -- way 1
    refine q_whenM (Mid := Mid) (fun σ' H6 mid => ?_) (et_and (et_test (ev_eqS (ev_var rfl) ev_c rfl)) fun _ => et_test (ev_oI (ev_var rfl) (ev_oI (ev_lenRow (ev_var rfl) (tab f5) good.rect.ne) ev_c))) (fun k hb H6 e6 => ?_) (fun hb H6 e6 => ⟨f5.then e6, N, c, rfl, m5.up (dif_mono (Same.refl _) e6), dN, hc⟩)
    rotate_left
    · have f6 : Fr r H H6 := f5.then e6
      have m6 := m5.up (dif_mono (Same.refl H) e6)
      obtain ⟨b1, b2⟩ := Bool.and_eq_true_iff.mp hb
      have hway : way = 1 := V.int.inj (of_decide_eq_true b1)
      have hc' : c < wide G - 1 := by omega
      refine q_setMT (i := a) (j := b) hro f6 m6 (ev_oI (ev_own (own m6) (ev_var rfl) (ev_var rfl) (ev_var rfl) (by rw [dN.tall]; omega) (by rw [dN.at (by omega)]; omega)) ev_c) (ev_var rfl) (ev_var rfl) (ev_var rfl) (by rw [dN.tall]; omega) (by rw [dN.at (by omega)]; omega) fun H7 f7 m7 => ?_
      have d7 := dN.set (i := a) (j := b) (n := (N.getD a []).getD b 0 + 1) (by rw [dN.tall]; omega)
      generalize N.set a ((N.getD a []).set b ((N.getD a []).getD b 0 + 1)) = N7 at m7 d7
      exact s_setMT (i := a) (j := c) hro f7 m7 (ev_oI (ev_own (own m7) (ev_var rfl) (ev_var rfl) (ev_var rfl) (by rw [d7.tall]; omega) (by rw [d7.at (by omega)]; omega)) ev_c) (ev_var rfl) (ev_var rfl) (ev_var rfl) (by rw [d7.tall]; omega) (by rw [d7.at (by omega)]; omega) fun H8 f8 m8 => k _ _ ⟨f8, _, c, rfl, m8, d7.set (by rw [d7.tall]; omega), .inr hc'⟩
    obtain ⟨f6, N6, c6, rfl, m6, d6, hc6⟩ := mid
    clear m5 f5 dN hc
    -- way 2
    refine q_whenM (Mid := Mid) (fun σ' H7 mid => ?_) (et_test (ev_eqS (ev_var rfl) ev_c rfl)) (fun k hb H7 e7 => ?_) (fun hb H7 e7 => ⟨f6.then e7, N6, c6, rfl, m6.up (dif_mono (Same.refl _) e7), d6, hc6⟩)
    rotate_left
    · have f7 : Fr r H H7 := f6.then e7
      have m7 := m6.up (dif_mono (Same.refl H) e7)
      have hway : way = 2 := V.int.inj (of_decide_eq_true hb)
      refine q_set (t_draw (n := max 1 ((G.length : Int) - 1)) (ea_cons (ev_var rfl) (ea_cons (ev_max2' ev_c (ev_oI (ev_lenD (ev_var rfl) (tab f7)) ev_c)) ea_nil)) f7.rng (by omega) (by omega) fun e H8 e0 e1' f8 => ?_)
      have m8 := m7.up (Fr.dif hro f8)
      have f8 := f7.trans f8
      obtain ⟨e, rfl⟩ := Int.eq_ofNat_of_zero_le e0
      have hmin : min (a : Int) ((G.length : Int) - 2) = ((min a (G.length - 2) : Nat) : Int) := by omega
      have evm : ∀ {Hx : Hp}, Fr r H Hx → Ev (tCB gMin2 (tCons (tVar 4) (tCons (tOp (rI0 fun i j => .int (i - j)) (tCB (gLenQ K) (tCons (tVar 1) tNil)) (tC (.int 2))) tNil))) [some (.ref r), some g, some t, some (.ref o), some (.int (a : Int)), some (.int (b : Int)), some (.int (e : Int)), some (.int way), none, none, none] Hx (.int ((min a (G.length - 2) : Nat) : Int)) := fun fx => by
        rw [← hmin]
        exact ev_min2 (ev_var rfl) (ev_oI (ev_lenD (ev_var rfl) (tab fx)) ev_c)
      refine q_setMT (i := min a (G.length - 2)) (j := b) hro f8 m8 (ev_oI (ev_own (own m8) (ev_var rfl) (evm f8) (ev_var rfl) (by rw [d6.tall]; omega) (by rw [d6.at (by omega)]; omega)) ev_c) (ev_var rfl) (evm f8) (ev_var rfl) (by rw [d6.tall]; omega) (by rw [d6.at (by omega)]; omega) fun H9 f9 m9 => ?_
      have d9 := d6.set (i := min a (G.length - 2)) (j := b) (n := (N6.getD (min a (G.length - 2)) []).getD b 0 + 1) (by rw [d6.tall]; omega)
      generalize N6.set (min a (G.length - 2)) ((N6.getD (min a (G.length - 2)) []).set b ((N6.getD (min a (G.length - 2)) []).getD b 0 + 1)) = N9 at m9 d9
      exact s_setMT (i := e) (j := b) hro f9 m9 (ev_oI (ev_own (own m9) (ev_var rfl) (ev_var rfl) (ev_var rfl) (by rw [d9.tall]; omega) (by rw [d9.at (by omega)]; omega)) ev_c) (ev_var rfl) (ev_var rfl) (ev_var rfl) (by rw [d9.tall]; omega) (by rw [d9.at (by omega)]; omega) fun H10 f10 m10 => k _ _ ⟨f10, _, e, rfl, m10, d9.set (by rw [d9.tall]; omega), .inl hway⟩
    obtain ⟨f7, N7, c7, rfl, m7, d7, hc7⟩ := mid
    clear m6 f6 d6 hc6
    have fin : ∀ {Hx Hy : Hp} {v : V} {M' : List (List Int)}, Fr r H Hx → Fr r Hx Hy → TL K (dif Hx Hy) v M' → M'.length ≤ 1000 → Q v Hy := fun fx fy hv hl => q _ _ _ (fx.trans fy) (up_tl _ _ _ _ (fun a' u' ha' => by
      obtain ⟨a1, a2⟩ := dif_some.mp ha'
      exact dif_some.mpr ⟨fr_free hro fx a1, a2⟩) hv) hl
    -- way 3
    refine q_when (et_test (ev_eqS (ev_var rfl) ev_c rfl)) (fun _ H8 e8 => ?_) (fun _ H8 e8 => ?_)
    · refine s_give (t_call (ea_cons (ev_var rfl) (ea_cons (ev_var rfl) (ea_cons (ev_oC ev_c ev_c (by unfold CPow; decide)) ea_nil))) fun H9 e9 => ?_)
      have f9 : Fr r H H9 := f7.then (Same.trans e8 e9)
      exact ⟨r, t, _, M, G.length, wide G, rfl, f9.rng, tabM f9, dM, t2, by omega, w2, by omega, fun v M' H10 f10 hv d' => fin f9 f10 hv (by rw [d'.tall]; omega)⟩
    have f8 : Fr r H H8 := f7.then e8
    have m8 := m7.up (dif_mono (Same.refl H) e8)
    -- way 4
    refine q_when (et_test (ev_eqS (ev_var rfl) ev_c rfl)) (fun _ H9 e9 => ?_) (fun _ H9 e9 => ?_)
    · have f9 : Fr r H H9 := f8.then e9
      refine s_give ⟨.ref r, rfl, t, rfl, ?_⟩
      refine t_call2L (x := .ref r) (ev_var rfl) (el_lst (ea_cons ev_c (ea_cons ev_neg1 ea_nil)) small2) fun p H10 hp e10 h10 => ?_
      have f10 : Fr r H H10 := f9.then e10
      have npr : p ≠ r := fun z => by
        subst z
        obtain ⟨_, _, _, h⟩ := f9.rng
        rw [h] at hp
        cases hp
      refine ⟨r, p, _, rfl, f10.rng, SqL.of (off_some.mpr ⟨npr, h10⟩), by simp, by simp, fun x H11 hx f11 => ?_⟩
      have f11 := f10.trans f11
      obtain ⟨n, rfl⟩ : ∃ n : Int, x = .int n := by
        simp only [List.mem_cons, List.not_mem_nil, or_false] at hx
        rcases hx with rfl | rfl <;> exact ⟨_, rfl⟩
      exact ⟨r, t, n, M, G.length, wide G, rfl, f11.rng, tabM f11, dM, t2, by omega, w2, by omega, fun v M' H12 f12 hv d' => fin f11 f12 hv (by rw [d'.tall]; omega)⟩
    have f9 : Fr r H H9 := f8.then e9
    have m9 := m8.up (dif_mono (Same.refl H) e9)
    -- way 5
    refine q_when (et_test (ev_eqS (ev_var rfl) ev_c rfl)) (fun hb H10 e10 => ?_) (fun _ H10 e10 => ?_)
    · have f10 : Fr r H H10 := f9.then e10
      have m10 := m9.up (dif_mono (Same.refl H) e10)
      have hway : way = 5 := V.int.inj (of_decide_eq_true hb)
      have hc' : c7 < wide G - 1 := by omega
      refine q_set (lc_own (S := IL K) (as := N7.dropLast) (F := List.dropLast) (src_init up_il (ev_var rfl) (own m10).tab) (by rw [List.length_dropLast, d7.tall]; omega) (fun x => rfl) (fun H11 e11 i row x hx hS => el_init (ev_var rfl) hS) up_il H10 (Same.refl _) _ fun p qs H11 e11 mm => ?_)
      have f11 : Fr r H H11 := f10.then e11
      have mm : MT (dif H H11) p qs (inner N7) := MT.up mm fun a' u' ha' => by
        obtain ⟨a1, a2⟩ := dif_some.mp ha'
        exact dif_some.mpr ⟨fr_free hro f10 a1, a2⟩
      have di := d7.inner
      have hmin : min (a : Int) (((inner N7).length : Int) - 1) = ((min a (G.length - 2) : Nat) : Int) := by rw [di.tall]; omega
      have evm : Ev (tCB gMin2 (tCons (tVar 4) (tCons (tOp (rI0 fun i j => .int (i - j)) (tCB (gLenQ K) (tCons (tVar 8) tNil)) (tC (.int 1))) tNil))) [some (.ref r), some g, some t, some (.ref o), some (.int (a : Int)), some (.int (b : Int)), some (.int (c7 : Int)), some (.int way), some (.ref p), none, none] H11 (.int ((min a (G.length - 2) : Nat) : Int)) := by
        rw [← hmin]
        exact ev_min2 (ev_var rfl) (ev_oI (ev_lenD (ev_var rfl) ((own mm).tab (K := K))) ev_c)
      refine q_setMT (i := min a (G.length - 2)) (j := c7) hro f11 mm (ev_oI (ev_own (own mm) (ev_var rfl) evm (ev_var rfl) (by rw [di.tall]; omega) (by rw [di.at (by omega)]; omega)) ev_c) (ev_var rfl) evm (ev_var rfl) (by rw [di.tall]; omega) (by rw [di.at (by omega)]; omega) fun H12 f12 m12 => ?_
      have d12 := di.set (i := min a (G.length - 2)) (j := c7) (n := ((inner N7).getD (min a (G.length - 2)) []).getD c7 0 + 1) (by rw [di.tall]; omega)
      generalize (inner N7).set (min a (G.length - 2)) (((inner N7).getD (min a (G.length - 2)) []).set c7 (((inner N7).getD (min a (G.length - 2)) []).getD c7 0 + 1)) = N12 at m12 d12
      refine s_give ⟨.ref p, rfl, .ref p, wide G - 1, N12, rfl, (own m12).tab, d12.ne (by omega), by rw [d12.tall]; omega, by omega, d12.rows, fun v H13 e13 hv => ?_⟩
      exact fin f12 (Fr.of f12.rng e13) hv.lof (by rw [withSums_tall, d12.tall]; omega)
    have f10 : Fr r H H10 := f9.then e10
    have m10 := m9.up (dif_mono (Same.refl H) e10)
    -- way 6
    refine q_when (et_test (ev_eqS (ev_var rfl) ev_c rfl)) (fun _ H11 e11 => ?_) (fun _ H11 e11 => ?_)
    · have f11 : Fr r H H11 := f10.then e11
      have m11 := m10.up (dif_mono (Same.refl H) e11)
      have dd : Dims (G.length - 1) (wide G - 1) (N7.dropLast.map fun row => row.dropLast.map fun n => 2 * n) := by
        refine ⟨by rw [List.length_map, List.length_dropLast, d7.tall], fun row hr => ?_⟩
        obtain ⟨r', h1, rfl⟩ := List.mem_map.mp hr
        rw [List.length_map, List.length_dropLast, d7.rows r' (List.dropLast_subset _ h1)]
      refine s_give (t_sums ((en_lcA (D := fun row H v => IL K H v (row.dropLast.map fun n => 2 * n)) (src_init up_il (ev_var rfl) (own m11).tab) (by rw [List.length_dropLast, d7.tall]; omega) (fun a H H' v e h => up_il (K := K) H H' v (a.dropLast.map fun n => 2 * n) e h) (fun x => rfl) (fun H12 e12 i row x hx hS =>
          en_il (el_lcG (S := IntD) (as := row.dropLast) (g := V.int) (f := fun n => 2 * n) (src_l up_int (el_init (ev_var rfl) hS) (pd_map _)) (by rw [List.length_dropLast, d7.rows row (List.dropLast_subset _ (List.mem_of_getElem? hx))]; omega) (fun x => rfl) (fun H13 e13 j n y hy hn => by
            cases hn
            exact ev_oC ev_c (ev_var rfl) (.inl (by decide)))))).imp fun H' v ⟨p, ys, e, h1, h2⟩ => ⟨p, ys, e, SqL.of h1, pd_mapR h2⟩) dd (by omega) (by omega) (by omega) fun v H12 e12 hv => ?_)
      exact fin f11 (Fr.of f11.rng e12) hv (by rw [withSums_tall, dd.tall]; omega)
    have f11 : Fr r H H11 := f10.then e11
    have m11 := m10.up (dif_mono (Same.refl H) e11)
    -- way 7
    refine q_when (et_test (ev_eqS (ev_var rfl) ev_c rfl)) (fun _ H12 e12 => ?_) (fun _ H12 e12 => ?_)
    · have f12 : Fr r H H12 := f11.then e12
      have m12 := m11.up (dif_mono (Same.refl H) e12)
      have tb := (own m12)
      have hlr : rs.length = G.length := by rw [pd_len m12.rows, d7.tall]
      refine s_give ⟨.ref r, rfl, ?_⟩
      -- result[1:]
      have z1 := el_sl (K := K) (σ := [some (.ref r), some g, some t, some (.ref o), some (.int (a : Int)), some (.int (b : Int)), some (.int (c7 : Int)), some (.int way), none, none, none]) (te := tVar 3) (lo := some 1) (hi := none) (tl := tPart (tC (.int 1))) (th := tNoPart) (ev_var rfl) (eo_some (te := tC (.int 1)) ev_c) eo_none (SqL.of tb.top)
      rw [cut_tail] at z1
      refine z1 H12 (Same.refl _) _ fun p1 H13 hp1 e13 h13 => ?_
      have f13 : Fr r H H13 := f12.then e13
      have m13 := m12.up (dif_mono (Same.refl H) e13)
      -- result + [result[-1]]
      have hne : rs ≠ [] := fun z => by rw [z] at hlr; simp at hlr; omega
      have hlast : atI (rs.map V.ref) (-1) = some ((rs.map V.ref).getLastD .non) := at_neg1 (by simpa using hne)
      refine ⟨.ref o, rfl, ?_⟩
      refine (el_lst (ea_cons (ev_ixL (K := K) (ev_var rfl) ev_neg1 (SqL.of (own m13).top) hlast) ea_nil) (by simp)) H13 (Same.refl _) _ fun p2 H14 hp2 e14 h14 => ?_
      have f14 : Fr r H H14 := f13.then e14
      have m14 := m13.up (dif_mono (Same.refl H) e14)
      refine ⟨o, p2, rs.map V.ref, _, rfl, rfl, (own m14).top, h14, ?_, fun p3 hp3 => ?_⟩
      · rw [List.length_map, hlr]
        exact Nat.le_trans (by simp; omega : G.length + 1 ≤ 100) (by decide)
      have e15 : Same H14 (upd H14 p3 (.lst (rs.map V.ref ++ [(rs.map V.ref).getLastD .non]))) := same_new hp3
      have h15 : (upd H14 p3 (.lst (rs.map V.ref ++ [(rs.map V.ref).getLastD .non]))) p3 = some (.lst (rs.map V.ref ++ [(rs.map V.ref).getLastD .non])) := upd_same
      generalize upd H14 p3 (.lst (rs.map V.ref ++ [(rs.map V.ref).getLastD .non])) = H15 at e15 h15
      have f15 : Fr r H H15 := f14.then e15
      have m15 := m14.up (dif_mono (Same.refl H) e15)
      -- [line[1:] for line in result]
      have z3 := en_lcA (K := K) (σ := [some (.ref r), some g, some t, some (.ref o), some (.int (a : Int)), some (.int (b : Int)), some (.int (c7 : Int)), some (.int way), none, none, none]) (vs := [9]) (j := 9) (tl := tVar 3) (te := (tSl (rSlL K) (tVar 9) (tPart (tC (.int 1))) tNoPart)) (D := fun row H v => IL K H v (row.drop 1)) (src_of (D := IL K) up_il (ev_var rfl) (own m15).tab) (by rw [d7.tall]; omega) (fun a H H' v e h => up_il (K := K) H H' v (a.drop 1) e h) (fun x => rfl) (fun H16 e16 i row x hx hS => en_il (el_rest (ev_var rfl) hS))
      refine z3 H15 (Same.refl _) _ fun v3 H16 e16 hv3 => ?_
      have f16 : Fr r H H16 := f15.then e16
      have m16 := m15.up (dif_mono (Same.refl H) e16)
      refine ⟨by show 3 ≤ sizeLine; decide, fun p4 hp4 => ?_⟩
      have e17 : Same H16 (upd H16 p4 (.lst [.ref p1, .ref p3, v3])) := same_new hp4
      have h17 : (upd H16 p4 (.lst [.ref p1, .ref p3, v3])) p4 = some (.lst [.ref p1, .ref p3, v3]) := upd_same
      generalize upd H16 p4 (.lst [.ref p1, .ref p3, v3]) = H17 at e17 h17
      have f17 : Fr r H H17 := f16.then e17
      have m17 := m16.up (dif_mono (Same.refl H) e17)
      have npr : p4 ≠ r := fun z => by
        subst z
        obtain ⟨_, _, _, h⟩ := f16.rng
        rw [h] at hp4
        cases hp4
      refine ⟨r, p4, _, rfl, f17.rng, SqL.of (off_some.mpr ⟨npr, h17⟩), by simp, by simp, fun x H18 hx f18 => ?_⟩
      have d18 := Fr.dif hro f18
      have m18 := m17.up d18
      have f18 := f17.trans f18
      have rows18 : Paired (IL K (dif H H18)) (rs.map V.ref) N7 := pd_mapL (pd_imp (fun r row h => il_of (SqL.of h)) m18.rows)
      have e1317 : Same H13 H17 := Same.trans e14 (Same.trans e15 (Same.trans e16 e17))
      simp only [List.mem_cons, List.not_mem_nil, or_false] at hx
      rcases hx with rfl | rfl | rfl
      · refine q _ (N7.drop 1) H18 f18 ⟨p1, _, rfl, SqL.of (d18 _ _ (dif_some.mpr ⟨fr_free hro f12 hp1, e1317 _ _ h13⟩)), pd_drop 1 rows18⟩ (by rw [List.length_drop, d7.tall]; omega)
      · have hlast' : (rs.map V.ref).getLastD .non ∈ rs.map V.ref := last_mem (by simpa using hne)
        obtain ⟨row, hrow, hD⟩ := pd_mem rows18 hlast'
        refine q _ (N7 ++ [row]) H18 f18 ⟨p3, _, rfl, SqL.of (d18 _ _ (dif_some.mpr ⟨fr_free hro f14 hp3, (Same.trans e16 e17) _ _ h15⟩)), pd_snoc rows18 hD⟩ (by rw [List.length_append, d7.tall]; simp; omega)
      · obtain ⟨p5, ys, rfl, h5, pd5⟩ := hv3
        obtain ⟨h51, h52⟩ := dif_some.mp h5
        refine q _ (N7.map fun row => row.drop 1) H18 f18 ⟨p5, ys, rfl, SqL.of (d18 _ _ (dif_some.mpr ⟨fr_free hro f15 h51, e17 _ _ h52⟩)), ?_⟩ (by rw [List.length_map, d7.tall]; omega)
        refine pd_mapR (pd_imp (fun y row h => up_il (K := K) _ _ _ _ (fun a' u' ha' => ?_) h) pd5)
        obtain ⟨a1, a2⟩ := dif_some.mp ha'
        exact d18 _ _ (dif_some.mpr ⟨fr_free hro f15 a1, e17 _ _ a2⟩)
    have f12 : Fr r H H12 := f11.then e12
    have m12 := m11.up (dif_mono (Same.refl H) e12)
    -- way 8
    refine q_when (et_test (ev_eqS (ev_var rfl) ev_c rfl)) (fun _ H13 e13 => ?_) (fun _ H13 e13 => ?_)
    · have f13 : Fr r H H13 := f12.then e13
      have m13 := m12.up (dif_mono (Same.refl H) e13)
      refine s_give (lc_own (K := K) (S := RowO) (as := N7) (F := fun row => 0 :: row) (src_own (own m13) (ev_var rfl)) (by rw [d7.tall]; omega) (fun x => rfl) (fun H14 e14 i row x hx hS => ?_) up_row H13 (Same.refl _) _ fun p qs H14 e14 mm => ?_)
      · obtain ⟨b', rfl, hb'⟩ := hS
        intro H15 e15 Q' q'
        refine (el_lst (ea_cons (ev_c (v := .int 0)) ea_nil) (by simp)) H15 e15 _ fun p' H16 hp' e16 h16 => ⟨.ref b', rfl, p', b', [.int 0], row.map V.int, rfl, rfl, h16, e16 _ _ (e15 _ _ hb'), ?_, fun l hl => ?_⟩
        · rw [List.length_map, d7.rows row (List.mem_of_getElem? hx)]
          exact Nat.le_trans (by omega : 1 + wide G ≤ 100) (by decide)
        · exact q' l _ (Same.free e16 hl) (Same.trans e16 (same_new hl)) upd_same
      · exact fin f13 (Fr.of f13.rng e14) (MT.tab mm) (by rw [List.length_map, d7.tall]; omega)
    exact s_ret (ev_var rfl) fun H14 e14 => q _ N7 H14 (f12.then (Same.trans e13 e14)) ((m12.up (dif_mono (Same.refl H) (Same.trans e13 e14))).tab) (by rw [d7.tall]; omega)
end S38
namespace S38
open PySem PySem.Spec PyProof.Rows L2 GK Evl
variable {P : Program} {w : World} {K : PySem.W.Frag} {mg : Str → Option Value} {base : Heap}
section
variable {σ : L2.St} {H H0 H1 H2 H' : Hp} {ta tb tc td te : TE} {r : Addr}
theorem fr_back (h : H0 r = none) (e : Same H0 H1) (f : Fr r H1 H2) : Same H0 H2 := fun a o ha => fr_keep f (ne_of_none ha h) (e _ _ ha)
/-- what is new since H' (which is H, but for r) is new since H -/
theorem fr_new {o : HO} (h : H r = some o) (f : Fr r H H') : Same (dif H' H2) (dif H H2) := fun a u ha => by
  obtain ⟨a1, a2⟩ := dif_some.mp ha
  exact dif_some.mpr ⟨fr_free h f a1, a2⟩
theorem en_lst3 {α : Type} {S : Hp → V → α → Prop} {a b c : α} (up : Up S) (ha : EvN ta σ H (fun H' v => S H' v a)) (hb : EvN tb σ H (fun H' v => S H' v b)) (hc : EvN tc σ H (fun H' v => S H' v c)) : EvN (tLst (tCons ta (tCons tb (tCons tc tNil)))) σ H (fun H' v => NL S H' v [a, b, c]) := fun H1 e Q q =>
  ha H1 e _ fun x H2 e2 hx => hb H2 (Same.trans e e2) _ fun y H3 e3 hy => hc H3 (Same.trans e (Same.trans e2 e3)) _ fun z H4 e4 hz => ⟨by show 3 ≤ sizeLine; decide, fun p hp => by
    have en : Same H4 (upd H4 p (.lst [x, y, z])) := same_new hp
    refine q _ _ (Same.trans e2 (Same.trans e3 (Same.trans e4 en))) ⟨p, [x, y, z], rfl, dif_some.mpr ⟨Same.free (Same.trans e2 (Same.trans e3 e4)) hp, upd_same⟩, .cons ?_ (.cons ?_ (.cons ?_ .nil))⟩
    · exact up _ _ _ _ (dif_mono (Same.refl _) (Same.trans e3 (Same.trans e4 en))) hx
    · exact up _ _ _ _ (dif_mono e2 (Same.trans e4 en)) hy
    · exact up _ _ _ _ (dif_mono (Same.trans e2 e3) en) hz⟩
theorem en_lst4 {α : Type} {S : Hp → V → α → Prop} {a b c d : α} (up : Up S) (ha : EvN ta σ H (fun H' v => S H' v a)) (hb : EvN tb σ H (fun H' v => S H' v b)) (hc : EvN tc σ H (fun H' v => S H' v c)) (hd : EvN td σ H (fun H' v => S H' v d)) : EvN (tLst (tCons ta (tCons tb (tCons tc (tCons td tNil))))) σ H (fun H' v => NL S H' v [a, b, c, d]) := fun H1 e Q q =>
  ha H1 e _ fun x H2 e2 hx => hb H2 (Same.trans e e2) _ fun y H3 e3 hy => hc H3 (Same.trans e (Same.trans e2 e3)) _ fun z H4 e4 hz => hd H4 (Same.trans e (Same.trans e2 (Same.trans e3 e4))) _ fun w H5 e5 hw => ⟨by show 4 ≤ sizeLine; decide, fun p hp => by
    have en : Same H5 (upd H5 p (.lst [x, y, z, w])) := same_new hp
    refine q _ _ (Same.trans e2 (Same.trans e3 (Same.trans e4 (Same.trans e5 en)))) ⟨p, [x, y, z, w], rfl, dif_some.mpr ⟨Same.free (Same.trans e2 (Same.trans e3 (Same.trans e4 e5))) hp, upd_same⟩, .cons ?_ (.cons ?_ (.cons ?_ (.cons ?_ .nil)))⟩
    · exact up _ _ _ _ (dif_mono (Same.refl _) (Same.trans e3 (Same.trans e4 (Same.trans e5 en)))) hx
    · exact up _ _ _ _ (dif_mono e2 (Same.trans e4 (Same.trans e5 en))) hy
    · exact up _ _ _ _ (dif_mono (Same.trans e2 e3) (Same.trans e5 en)) hz
    · exact up _ _ _ _ (dif_mono (Same.trans e2 (Same.trans e3 e4)) en) hw⟩
theorem t_tup3 {Q : VK} (h : ta σ H fun x H1 => tb σ H1 fun y H2 => tc σ H2 fun z H3 => [x, y, z].length ≤ sizeLine ∧ ∀ p, H3 p = none → Q (.ref p) (upd H3 p (.tup [x, y, z]))) : tTup (tCons ta (tCons tb (tCons tc tNil))) σ H Q := h
theorem en_row3 {a b c : Int} : EvN (tLst (tCons (tC (.int a)) (tCons (tC (.int b)) (tCons (tC (.int c)) tNil)))) σ H (fun H' v => IL K H' v [a, b, c]) := en_il (ns := [a, b, c]) (el_lst (ea_cons ev_c (ea_cons ev_c (ea_cons ev_c ea_nil))) small3)
theorem en_cell {a b : Int} : EvN (tTup (tCons (tC (.int a)) (tCons (tC (.int b)) tNil))) σ H (fun H' v => CellD K H' v (a, b)) := (en_u (eu_tup (ea_cons ev_c (ea_cons ev_c ea_nil)) small2)).imp fun H' v ⟨p, ev, hp⟩ => ⟨p, ev, SqT.of hp⟩
end
theorem Fits.rev {G M : List (List Int)} {cs ds : List (Int × Int)} (h : ∀ c, c ∈ cs ↔ c ∈ ds) : Fits G cs M ↔ Fits G ds M :=
  ⟨fun f => ⟨f.tall, f.wid, f.nn, f.sums, fun c hc hn => f.shown c hc fun z => hn ((h c).mp z)⟩, fun f => ⟨f.tall, f.wid, f.nn, f.sums, fun c hc hn => f.shown c hc fun z => hn ((h c).mpr z)⟩⟩
theorem tr_congr {p q : Prop} (h : p ↔ q) : tr p = tr q := tr_of (by rw [tr_iff, h])
/-! ### the two tables at the end -/
def someG : List (List Int) := [[1, 1, 2], [1, 1, 2], [2, 2, 4]]
theorem some_rect : Rect someG := ⟨by decide, by decide, by decide, by decide, by decide⟩
theorem not1 (cs : List (Int × Int)) : ¬ Fits someG cs [[2, 0, 2], [2, 0, 2], [2, 2, 4]] := fun f => by
  have z := f.sums.2 0 (by decide)
  unfold ColOk at z
  revert z
  decide
theorem not2 : ¬ Fits someG (cellsOf 3 3).dropLast [[2, 2, 4], [2, 2, 4], [4, 4, 8]] := fun f => by
  have z := f.shown (2, 2) (by decide) (by decide)
  revert z
  decide
/-! ### the law -/
def sp_law (K : PySem.W.Frag) : Sp := fun vs H Q _ => ∃ (a : Addr) (ns : List Int), vs = [.ref a] ∧ SqL K H a (ns.map V.int) ∧ ns.length ≤ 63 ∧ ∀ H', Q (.bl true) H'
theorem ok_law (T : Txt K mg) : FnOk P w K mg base CX0 4 T.a_law T.d_law ["_law_script"] (sp_law K) := by
  have G_fits : FnOk P w K mg base CX0 3 T.a_fits T.d_fits ["grid", "hidden", "table"] (sp_fits K) := ok_fits T
  have G__law_cell : FnOk P w K mg base CX0 1 T.a__law_cell T.d__law_cell ["_law_script", "_law_index"] (sp__law_cell K) := ok__law_cell T
  have G__law_rng : FnOk P w K mg base CX0 1 T.a__law_rng T.d__law_rng ["_law_cell_here"] (sp__law_rng K) := ok__law_rng T
  have G__law_random_grid : FnOk P w K mg base CX0 3 T.a__law_random_grid T.d__law_random_grid ["_law_rng_here"] (sp__law_random_grid K) := ok__law_random_grid T
  have G__law_random_hidden : FnOk P w K mg base CX0 3 T.a__law_random_hidden T.d__law_random_hidden ["_law_rng_here", "_law_grid"] (sp__law_random_hidden K) := ok__law_random_hidden T
  have G__law_shifted : FnOk P w K mg base CX0 3 T.a__law_shifted T.d__law_shifted ["_law_rng_here", "_law_grid", "_law_hidden"] (sp__law_shifted K) := ok__law_shifted T
  have G__law_broken : FnOk P w K mg base CX0 3 T.a__law_broken T.d__law_broken ["_law_rng_here", "_law_grid", "_law_table"] (sp__law_broken K) := ok__law_broken T
  have G__law_fits : FnOk P w K mg base CX0 2 T.a__law_fits T.d__law_fits ["_law_grid", "_law_hidden", "_law_table"] (sp__law_fits K) := ok__law_fits T
  have G__law_cells : FnOk P w K mg base CX0 1 T.a__law_cells T.d__law_cells ["_law_grid"] (sp__law_cells K) := ok__law_cells T
  refine T.F_law.ok sc_law (fun vs H Q E h => ?_) (fun cdv A outer s H vs Q E hr h => ?_)
  · obtain ⟨a, ns, rfl, _⟩ := h
    rfl
  · obtain ⟨a, ns, rfl, hs, hl, q⟩ := h
    refine ⟨(tSeq (tFor (iList K (tOp rCat (tLst (tCons (tCall (sp__law_cell K) [] E0 (tCons (tVar 0) (tCons (tC (.int 0)) tNil))) tNil)) (tSl (rSlL K) (tVar 0) (tPart (tC (.int 1))) (tPart (tC (.int 3)))))) (gName 1)
  (tSeq (tAsg (tCall (sp__law_rng K) [] E0 (tCons (tVar 1) tNil)) (gName 2))
  (tSeq (tAsg (tCall (sp__law_random_grid K) [] E0 (tCons (tVar 2) tNil)) (gName 3))
  (tSeq (tAsg (tCall (sp__law_random_hidden K) [] E0 (tCons (tVar 2) (tCons (tVar 3) tNil))) (gName 4))
  (tSeq (tAsg (tCall (sp__law_shifted K) [] E0 (tCons (tVar 2) (tCons (tVar 3) (tCons (tVar 4) tNil)))) (gName 5))
  (tSeq (tAsg (tTup (tCons (tLc (iList K (tVar 3)) (gName 10) tYes (tCB (gListOf K) (tCons (tVar 10) tNil)) [10]) (tCons (tCB (gListOf K) (tCons (tVar 4) tNil)) (tCons (tLc (iList K (tVar 5)) (gName 10) tYes (tCB (gListOf K) (tCons (tVar 10) tNil)) [10]) tNil)))) (gName 6))
  (tSeq (tIfS (tOr (tTest (tOp rNotB (tCall (sp_fits K) [] E0 (tCons (tVar 3) (tCons (tVar 4) (tCons (tVar 5) tNil)))) (tC (.bl true)))) (tTest (tOp rNotB (tCall (sp_fits K) [] E0 (tCons (tVar 3) (tCons (tVar 4) (tCons (tVar 3) tNil)))) (tC (.bl true))))) (tRet (tC (.bl false))) tNext)
  (tSeq (tFor (iRng1 (tCons (tC (.int 10)) tNil)) (gName 7)
  (tSeq (tAsg (tCall (sp__law_broken K) [] E0 (tCons (tVar 2) (tCons (tVar 3) (tCons (tVar 5) tNil)))) (gName 8))
  (tSeq (tIfS (tTest (tOp rNe (tCall (sp_fits K) [] E0 (tCons (tVar 3) (tCons (tVar 4) (tCons (tVar 8) tNil)))) (tCall (sp__law_fits K) [] E0 (tCons (tVar 3) (tCons (tVar 4) (tCons (tVar 8) tNil)))))) (tRet (tC (.bl false))) tNext)
  (tIfS (tTest (tOp rNe (tCall (sp_fits K) [] E0 (tCons (tVar 3) (tCons (tCB (gTupOf K) (tCons (tRevL K (tVar 4)) tNil)) (tCons (tVar 8) tNil)))) (tCall (sp__law_fits K) [] E0 (tCons (tVar 3) (tCons (tVar 4) (tCons (tVar 8) tNil)))))) (tRet (tC (.bl false))) tNext))))
  (tIfS (tTest (tOp (rNeD K) (tTup (tCons (tVar 3) (tCons (tVar 4) (tCons (tVar 5) tNil)))) (tVar 6))) (tRet (tC (.bl false))) tNext)))))))))
  (tSeq (tAsg (tLst (tCons (tLst (tCons (tC (.int 1)) (tCons (tC (.int 1)) (tCons (tC (.int 2)) tNil)))) (tCons (tLst (tCons (tC (.int 1)) (tCons (tC (.int 1)) (tCons (tC (.int 2)) tNil)))) (tCons (tLst (tCons (tC (.int 2)) (tCons (tC (.int 2)) (tCons (tC (.int 4)) tNil)))) tNil)))) (gName 9))
  (tSeq (tIfS (tB (tCall (sp_fits K) [] E0 (tCons (tVar 9) (tCons (tLst (tCons (tTup (tCons (tC (.int 0)) (tCons (tC (.int 0)) tNil))) (tCons (tTup (tCons (tC (.int 0)) (tCons (tC (.int 1)) tNil))) (tCons (tTup (tCons (tC (.int 1)) (tCons (tC (.int 0)) tNil))) (tCons (tTup (tCons (tC (.int 1)) (tCons (tC (.int 1)) tNil))) tNil))))) (tCons (tLst (tCons (tLst (tCons (tC (.int 2)) (tCons (tC (.int 0)) (tCons (tC (.int 2)) tNil)))) (tCons (tLst (tCons (tC (.int 2)) (tCons (tC (.int 0)) (tCons (tC (.int 2)) tNil)))) (tCons (tLst (tCons (tC (.int 2)) (tCons (tC (.int 2)) (tCons (tC (.int 4)) tNil)))) tNil)))) tNil))))) (tRet (tC (.bl false))) tNext)
  (tRet (tNotV (tCall (sp_fits K) [] E0 (tCons (tVar 9) (tCons (tCall (sp__law_cells K) [] E0 (tCons (tVar 9) tNil)) (tCons (tLst (tCons (tLst (tCons (tC (.int 2)) (tCons (tC (.int 2)) (tCons (tC (.int 4)) tNil)))) (tCons (tLst (tCons (tC (.int 2)) (tCons (tC (.int 2)) (tCons (tC (.int 4)) tNil)))) (tCons (tLst (tCons (tC (.int 4)) (tCons (tC (.int 4)) (tCons (tC (.int 8)) tNil)))) tNil)))) tNil))))))))),
(pss_cons (ps_for PassesOwn.never rfl (pi_list (pe_op op_cat (pe_lst (pa_cons (pe_call (G__law_cell.mono (by decide)) hr (by rfl) T.g__law_cell T.F__law_cell.kp T.b__law_cell .nil pass0 (pa_cons (pv 0) (pa_cons pe_int pa_nil))) pa_nil)) (pe_slice sl_list (pv 0) (po_some pe_int) (po_some pe_int)))) (pg_name (i := 1) sc_law.nd rfl (.inl rfl))
  (pss_cons (ps_set (i := 2) sc_law.nd rfl (.inl rfl) (pe_call (G__law_rng.mono (by decide)) hr (by rfl) T.g__law_rng T.F__law_rng.kp T.b__law_rng .nil pass0 (pa_cons (pv 1) pa_nil)))
  (pss_cons (ps_set (i := 3) sc_law.nd rfl (.inl rfl) (pe_call (G__law_random_grid.mono (by decide)) hr (by rfl) T.g__law_random_grid T.F__law_random_grid.kp T.b__law_random_grid .nil pass0 (pa_cons (pv 2) pa_nil)))
  (pss_cons (ps_set (i := 4) sc_law.nd rfl (.inl rfl) (pe_call (G__law_random_hidden.mono (by decide)) hr (by rfl) T.g__law_random_hidden T.F__law_random_hidden.kp T.b__law_random_hidden .nil pass0 (pa_cons (pv 2) (pa_cons (pv 3) pa_nil))))
  (pss_cons (ps_set (i := 5) sc_law.nd rfl (.inl rfl) (pe_call (G__law_shifted.mono (by decide)) hr (by rfl) T.g__law_shifted T.F__law_shifted.kp T.b__law_shifted .nil pass0 (pa_cons (pv 2) (pa_cons (pv 3) (pa_cons (pv 4) pa_nil)))))
  (pss_cons (ps_set (i := 6) sc_law.nd rfl (.inl rfl) (pe_tup (pa_cons (pe_lc (own := [("_law_row", 10)]) (g := (gName 10)) (tt := tYes) (te := (tCB (gListOf K) (tCons (tVar 10) tNil))) rfl sc_law.nd (pi_list (pv 3)) (blkOk_by (N := ["_law_script", "_law_cell_here", "_law_rng_here", "_law_grid", "_law_hidden", "_law_table", "_law_copies", "_law_attempt", "_law_changed", "_law_some", "_law_row"]) (sc := defScope s_law) (own := [("_law_row", 10)]) (by decide +kernel)) (fun _ _ _ _ _ => (pg_name (i := 10) sc_law.nd rfl (.inl rfl))) (fun _ _ _ _ _ => pts_nil) (fun _ _ _ _ _ => (pe_callTy call_list_of (by rfl) T.z_list (by decide +kernel) (pa_cons (pv 10) pa_nil)))) (pa_cons (pe_callTy call_list_of (by rfl) T.z_list (by decide +kernel) (pa_cons (pv 4) pa_nil)) (pa_cons (pe_lc (own := [("_law_row", 10)]) (g := (gName 10)) (tt := tYes) (te := (tCB (gListOf K) (tCons (tVar 10) tNil))) rfl sc_law.nd (pi_list (pv 5)) (blkOk_by (N := ["_law_script", "_law_cell_here", "_law_rng_here", "_law_grid", "_law_hidden", "_law_table", "_law_copies", "_law_attempt", "_law_changed", "_law_some", "_law_row"]) (sc := defScope s_law) (own := [("_law_row", 10)]) (by decide +kernel)) (fun _ _ _ _ _ => (pg_name (i := 10) sc_law.nd rfl (.inl rfl))) (fun _ _ _ _ _ => pts_nil) (fun _ _ _ _ _ => (pe_callTy call_list_of (by rfl) T.z_list (by decide +kernel) (pa_cons (pv 10) pa_nil)))) pa_nil)))))
  (pss_cons (ps_if (PW.pt (pw_or (pt_cmpR op_notBl (pe_call (G_fits.mono (by decide)) hr (by rfl) T.g_fits T.F_fits.kp T.b_fits .nil pass0 (pa_cons (pv 3) (pa_cons (pv 4) (pa_cons (pv 5) pa_nil)))) pe_bl (nomark _)) (pw_or1 (pt_cmpR op_notBl (pe_call (G_fits.mono (by decide)) hr (by rfl) T.g_fits T.F_fits.kp T.b_fits .nil pass0 (pa_cons (pv 3) (pa_cons (pv 4) (pa_cons (pv 3) pa_nil)))) pe_bl (nomark _))))) (pss_one (ps_ret pe_bl)) pss_nil)
  (pss_cons (ps_for PassesOwn.never rfl (pi_range1 (by rfl) T.z_range (pa_cons pe_int pa_nil)) (pg_name (i := 7) sc_law.nd rfl (.inl rfl))
  (pss_cons (ps_set (i := 8) sc_law.nd rfl (.inl rfl) (pe_call (G__law_broken.mono (by decide)) hr (by rfl) T.g__law_broken T.F__law_broken.kp T.b__law_broken .nil pass0 (pa_cons (pv 2) (pa_cons (pv 3) (pa_cons (pv 5) pa_nil)))))
  (pss_cons (ps_if (pt_cmpR op_ne (pe_call (G_fits.mono (by decide)) hr (by rfl) T.g_fits T.F_fits.kp T.b_fits .nil pass0 (pa_cons (pv 3) (pa_cons (pv 4) (pa_cons (pv 8) pa_nil)))) (pe_call (G__law_fits.mono (by decide)) hr (by rfl) T.g__law_fits T.F__law_fits.kp T.b__law_fits .nil pass0 (pa_cons (pv 3) (pa_cons (pv 4) (pa_cons (pv 8) pa_nil)))) (nomark _)) (pss_one (ps_ret pe_bl)) pss_nil)
  (pss_one (ps_if (pt_cmpR op_ne (pe_call (G_fits.mono (by decide)) hr (by rfl) T.g_fits T.F_fits.kp T.b_fits .nil pass0 (pa_cons (pv 3) (pa_cons (pe_callTy call_tuple_of (by rfl) T.z_tuple (by decide +kernel) (pa_cons (pe_revL (pv 4)) pa_nil)) (pa_cons (pv 8) pa_nil)))) (pe_call (G__law_fits.mono (by decide)) hr (by rfl) T.g__law_fits T.F__law_fits.kp T.b__law_fits .nil pass0 (pa_cons (pv 3) (pa_cons (pv 4) (pa_cons (pv 8) pa_nil)))) (nomark _)) (pss_one (ps_ret pe_bl)) pss_nil)))))
  (pss_one (ps_if (pt_cmpR (op_neD hr.units) (pe_tup (pa_cons (pv 3) (pa_cons (pv 4) (pa_cons (pv 5) pa_nil)))) (pv 6) (nomark _)) (pss_one (ps_ret pe_bl)) pss_nil))))))))))
  (pss_cons (ps_set (i := 9) sc_law.nd rfl (.inl rfl) (pe_lst (pa_cons (pe_lst (pa_cons pe_int (pa_cons pe_int (pa_cons pe_int pa_nil)))) (pa_cons (pe_lst (pa_cons pe_int (pa_cons pe_int (pa_cons pe_int pa_nil)))) (pa_cons (pe_lst (pa_cons pe_int (pa_cons pe_int (pa_cons pe_int pa_nil)))) pa_nil)))))
  (pss_cons (ps_if (pt_val (pe_call (G_fits.mono (by decide)) hr (by rfl) T.g_fits T.F_fits.kp T.b_fits .nil pass0 (pa_cons (pv 9) (pa_cons (pe_lst (pa_cons (pe_tup (pa_cons pe_int (pa_cons pe_int pa_nil))) (pa_cons (pe_tup (pa_cons pe_int (pa_cons pe_int pa_nil))) (pa_cons (pe_tup (pa_cons pe_int (pa_cons pe_int pa_nil))) (pa_cons (pe_tup (pa_cons pe_int (pa_cons pe_int pa_nil))) pa_nil))))) (pa_cons (pe_lst (pa_cons (pe_lst (pa_cons pe_int (pa_cons pe_int (pa_cons pe_int pa_nil)))) (pa_cons (pe_lst (pa_cons pe_int (pa_cons pe_int (pa_cons pe_int pa_nil)))) (pa_cons (pe_lst (pa_cons pe_int (pa_cons pe_int (pa_cons pe_int pa_nil)))) pa_nil)))) pa_nil))))) (pss_one (ps_ret pe_bl)) pss_nil)
  (pss_one (ps_ret (pe_not (pe_call (G_fits.mono (by decide)) hr (by rfl) T.g_fits T.F_fits.kp T.b_fits .nil pass0 (pa_cons (pv 9) (pa_cons (pe_call (G__law_cells.mono (by decide)) hr (by rfl) T.g__law_cells T.F__law_cells.kp T.b__law_cells .nil pass0 (pa_cons (pv 9) pa_nil)) (pa_cons (pe_lst (pa_cons (pe_lst (pa_cons pe_int (pa_cons pe_int (pa_cons pe_int pa_nil)))) (pa_cons (pe_lst (pa_cons pe_int (pa_cons pe_int (pa_cons pe_int pa_nil)))) (pa_cons (pe_lst (pa_cons pe_int (pa_cons pe_int (pa_cons pe_int pa_nil)))) pa_nil)))) pa_nil)))))))))), ?_⟩
    -- the numbers
    have srcN : Src K (tOp rCat (tLst (tCons (tCall (sp__law_cell K) [] E0 (tCons (tVar 0) (tCons (tC (.int 0)) tNil))) tNil)) (tSl (rSlL K) (tVar 0) (tPart (tC (.int 1))) (tPart (tC (.int 3)))))
        (L2.start ["_law_script", "_law_cell_here", "_law_rng_here", "_law_grid", "_law_hidden", "_law_table", "_law_copies", "_law_attempt", "_law_changed", "_law_some", "_law_row"] [.ref a]) H IntD ([ns.getD 0 0] ++ (ns.drop 1).take 2) := by
      refine src_nl up_int (en_cat up_int (en_lst1 up_int (en_of (v := .int (ns.getD 0 0)) (ev_call (vs := [.ref a, .int 0]) (ea_cons (ev_var rfl) (ea_cons ev_c ea_nil)) fun H1 e Q' q' E' => ⟨.ref a, ns, 0, rfl, il_of (sq_mono e hs), q'⟩))) ?_ (by simp; omega))
      have z := el_sl (K := K) (σ := L2.start ["_law_script", "_law_cell_here", "_law_rng_here", "_law_grid", "_law_hidden", "_law_table", "_law_copies", "_law_attempt", "_law_changed", "_law_some", "_law_row"] [.ref a]) (te := tVar 0) (tl := tPart (tC (.int 1))) (th := tPart (tC (.int 3))) (lo := some ((1 : Nat) : Int)) (hi := some ((3 : Nat) : Int)) (ev_var rfl) (eo_some ev_c) (eo_some ev_c) hs
      rw [cut_from_to, ← List.map_drop, ← List.map_take] at z
      exact (en_l z).imp fun H' v ⟨p, e, hp⟩ => ⟨p, _, e, hp, pd_map _⟩
    refine q_seq (for_src up_int srcN (fun H1 i σ' H' => Same H1 H' ∧ ∃ y1 y2 y3 y4 y5 y6 y7 y8, σ' = [some (.ref a), y1, y2, y3, y4, y5, y6, y7, y8, none, none]) (fun H1 e => ⟨Same.refl _, _, _, _, _, _, _, _, _, rfl⟩) (fun H1 i σ' H' p => p.1) (fun HS eS i x n σ' H0 hx hS p => ?_) (fun HS eS σ' H1 p => ?_))
    · obtain ⟨eS0, y1, y2, y3, y4, y5, y6, y7, y8, rfl⟩ := p
      cases hS
      -- the draws
      refine q_set (t_call (ea_cons (ev_var rfl) ea_nil) fun H0' e0' => ⟨n, rfl, fun r H1 e1 hr0 hR => ?_⟩)
      have e01 : Same H0 H1 := Same.trans e0' e1
      have hr00 : H0 r = none := Same.free e0' hr0
      obtain ⟨u, hro⟩ := Rng.some hR
      -- the grid
      refine q_set (t_call (ea_cons (ev_var rfl) ea_nil) fun H1' e1' => ⟨r, rfl, hR.up e1', fun g G H2 f2 hg good => ?_⟩)
      have fx := Fr.of hR e1'
      have hg : TL K (dif H1 H2) g G := up_tl _ _ _ _ (fr_new hro fx) hg.lof
      have f2 : Fr r H1 H2 := fx.trans f2
      -- the hidden cells
      refine q_set (t_call (ea_cons (ev_var rfl) (ea_cons (ev_var rfl) ea_nil)) fun H2' e2' => ?_)
      have f2' : Fr r H1 H2' := f2.then e2'
      have hg' : TL K (dif H1 H2') g G := up_tl _ _ _ _ (dif_mono (Same.refl _) e2') hg
      refine ⟨r, g, G, rfl, f2'.rng, up_tl _ _ _ _ (off_dif hro) hg', good, fun hid cs H3 f3 hc hh => ?_⟩
      have hc : CL K (dif H1 H3) hid cs := up_cl _ _ _ _ (fr_new hro f2') hc
      have hg3 : TL K (dif H1 H3) g G := up_tl _ _ _ _ (Fr.dif hro f3) hg'
      have f3 : Fr r H1 H3 := f2'.trans f3
      -- the table
      refine q_set (t_call (ea_cons (ev_var rfl) (ea_cons (ev_var rfl) (ea_cons (ev_var rfl) ea_nil))) fun H3' e3' => ?_)
      have f3' : Fr r H1 H3' := f3.then e3'
      have hc' : CL K (dif H1 H3') hid cs := up_cl _ _ _ _ (dif_mono (Same.refl _) e3') hc
      have hg3' : TL K (dif H1 H3') g G := up_tl _ _ _ _ (dif_mono (Same.refl _) e3') hg3
      refine ⟨r, g, hid, G, cs, rfl, f3'.rng, up_tl _ _ _ _ (off_dif hro) hg3', good, up_cl _ _ _ _ (off_dif hro) hc', hh, fun t M H4 f4 ht fit => ?_⟩
      have ht4 : TL K (dif H1 H4) t M := up_tl _ _ _ _ (fr_new hro f3') ht
      have hc4 : CL K (dif H1 H4) hid cs := up_cl _ _ _ _ (Fr.dif hro f4) hc'
      have hg4 : TL K (dif H1 H4) g G := up_tl _ _ _ _ (Fr.dif hro f4) hg3'
      have f4 : Fr r H1 H4 := f3'.trans f4
      have t6 := good.tall6
      have mlen : M.length ≤ 6 := by rw [fit.tall]; exact t6
      obtain ⟨hp, hvs, ehid, hsq4, hpd4⟩ := hc4
      subst ehid
      have at_ : ∀ {Hx : Hp}, Same (dif H1 H4) (dif H1 Hx) → TL K Hx g G ∧ CL K Hx (.ref hp) cs ∧ TL K Hx t M := fun e => ⟨up_tl _ _ _ _ (Same.trans e (dif_same _ _)) hg4, ⟨hp, hvs, rfl, sq_mono (Same.trans e (dif_same _ _)) hsq4, pd_imp (fun x c h => up_cell _ _ _ _ (Same.trans e (dif_same _ _)) h) hpd4⟩, up_tl _ _ _ _ (Same.trans e (dif_same _ _)) ht4⟩
      -- the copies
      refine q_set (t_tup3 ?_)
      refine lc_own (K := K) (S := IL K) (as := G) (F := fun row => row) (src_of (D := IL K) up_il (ev_var rfl) (at_ (Same.refl _)).1) (by omega) (fun x => rfl) (fun H5 e5 i row x hx hS => ?_) up_il H4 (Same.refl _) _ fun o1 rs1 H5 e5 m5 => ?_
      · obtain ⟨b, rfl, hs⟩ := il_sq hS
        exact el_listOf (ev_var rfl) (.inl hs)
      rw [List.map_id'] at m5
      have d5 : Same (dif H1 H4) (dif H1 H5) := dif_mono (Same.refl _) e5
      refine (el_listOf (K := K) (p := hp) (xs := hvs) (ev_var rfl) (.inl (sq_mono (Same.trans d5 (dif_same _ _)) hsq4))) H5 (Same.refl _) _ fun o2 H6 ho2 e6 h6 => ?_
      have d6 : Same (dif H1 H4) (dif H1 H6) := Same.trans d5 (dif_mono (Same.refl _) e6)
      refine lc_own (K := K) (S := IL K) (as := M) (F := fun row => row) (src_of (D := IL K) up_il (ev_var rfl) (at_ d6).2.2) (by omega) (fun x => rfl) (fun H7 e7 i row x hx hS => ?_) up_il H6 (Same.refl _) _ fun o3 rs3 H7 e7 m7 => ?_
      · obtain ⟨b, rfl, hs⟩ := il_sq hS
        exact el_listOf (ev_var rfl) (.inl hs)
      rw [List.map_id'] at m7
      have d7 : Same (dif H1 H4) (dif H1 H7) := Same.trans d6 (dif_mono (Same.refl _) e7)
      refine ⟨by show 3 ≤ sizeLine; decide, fun o4 ho4 => ?_⟩
      have e8 : Same H7 (upd H7 o4 (.tup [.ref o1, .ref o2, .ref o3])) := same_new ho4
      have h8 : (upd H7 o4 (.tup [.ref o1, .ref o2, .ref o3])) o4 = some (.tup [.ref o1, .ref o2, .ref o3]) := upd_same
      generalize upd H7 o4 (.tup [.ref o1, .ref o2, .ref o3]) = H8 at e8 h8
      have f8 : Fr r H1 H8 := f4.then (Same.trans e5 (Same.trans e6 (Same.trans e7 e8)))
      have d8 : Same (dif H1 H4) (dif H1 H8) := Same.trans d7 (dif_mono (Same.refl _) e8)
      have c1 : TL K (dif H1 H8) (.ref o1) G := up_tl _ _ _ _ (Same.trans (fr_new hro f4) (dif_mono (Same.refl _) (Same.trans e6 (Same.trans e7 e8)))) m5.tab
      have c2 : CL K (dif H1 H8) (.ref o2) cs := by
        have hn2 : H1 o2 = none := fr_free hro (f4.then e5) ho2
        exact ⟨o2, hvs, rfl, SqL.of (dif_some.mpr ⟨hn2, (Same.trans e7 e8) _ _ h6⟩), pd_imp (fun x c h => up_cell _ _ _ _ d8 h) hpd4⟩
      have c3 : TL K (dif H1 H8) (.ref o3) M := up_tl _ _ _ _ (Same.trans (fr_new hro (f4.then (Same.trans e5 e6))) (dif_mono (Same.refl _) e8)) m7.tab
      have c4 : dif H1 H8 o4 = some (.tup [.ref o1, .ref o2, .ref o3]) := dif_some.mpr ⟨fr_free hro (f4.then (Same.trans e5 (Same.trans e6 e7))) ho4, h8⟩
      have rvB : ∀ {Hx : Hp} {b : Bool}, RV rNotB (.bl b) (.bl true) Hx (.bl (!decide (b = true))) := fun {Hx b} => rv_val fun H1 e Q q => ⟨b, true, rfl, rfl, q⟩
      -- both fit
      refine q_when (b := false) (et_is (et_or (et_test (ev_op (ev_call (ea_cons (ev_var rfl) (ea_cons (ev_var rfl) (ea_cons (ev_var rfl) ea_nil))) (v_fits (at_ d8).1 good.rect (.inl (at_ d8).2.1) hh (at_ d8).2.2 (by omega))) ev_c rvB)) fun _ => et_test (ev_op (ev_call (ea_cons (ev_var rfl) (ea_cons (ev_var rfl) (ea_cons (ev_var rfl) ea_nil))) (v_fits (at_ d8).1 good.rect (.inl (at_ d8).2.1) hh (at_ d8).1 (by omega))) ev_c rvB)) (by rw [tr_yes fit, tr_yes (good.fits cs)]; rfl)) (fun z => by cases z) (fun _ H9 e9 => ?_)
      have f9 : Fr r H1 H9 := f8.then e9
      have d89 : Same (dif H1 H8) (dif H1 H9) := dif_mono (Same.refl _) e9
      -- ten others
      refine q_forR1 (n := 10) (ea_cons ev_c ea_nil) (by decide) (fun i σ' Hx => Fr r H1 Hx ∧ Same (dif H1 H8) (dif H1 Hx) ∧ ∃ y7 y8, σ' = [some (.ref a), some (.int n), some (.ref r), some g, some (.ref hp), some t, some (.ref o4), y7, y8, none, none]) (fun H10 e10 => ⟨f9.then e10, Same.trans d89 (dif_mono (Same.refl _) e10), _, _, rfl⟩) (fun i σ' Hx hi p => ?_) (fun σ' Hx p => ?_)
      · obtain ⟨fx, dx, y7, y8, rfl⟩ := p
        have dx4 := Same.trans d8 dx
        refine q_set (t_call (ea_cons (ev_var rfl) (ea_cons (ev_var rfl) (ea_cons (ev_var rfl) ea_nil))) fun H10 e10 => ?_)
        have f10 : Fr r H1 H10 := fx.then e10
        have d10 : Same (dif H1 H4) (dif H1 H10) := Same.trans dx4 (dif_mono (Same.refl _) e10)
        refine ⟨r, g, t, G, M, rfl, f10.rng, up_tl _ _ _ _ (Same.trans d10 (off_dif hro)) hg4, good, up_tl _ _ _ _ (Same.trans d10 (off_dif hro)) ht4, fit.dims, fun v M' H11 f11 hv hlen => ?_⟩
        have d11 : Same (dif H1 H4) (dif H1 H11) := Same.trans d10 (Fr.dif hro f11)
        have d811 : Same (dif H1 H8) (dif H1 H11) := Same.trans dx (Same.trans (dif_mono (Same.refl _) e10) (Fr.dif hro f11))
        have f11 : Fr r H1 H11 := f10.trans f11
        have hv11 : TL K H11 v M' := up_tl _ _ _ _ (dif_same _ _) hv
        refine q_when (b := false) (et_is (et_test (ev_neS (ev_call (ea_cons (ev_var rfl) (ea_cons (ev_var rfl) (ea_cons (ev_var rfl) ea_nil))) (v_fits (at_ d11).1 good.rect (.inl (at_ d11).2.1) hh hv11 hlen)) (ev_call (ea_cons (ev_var rfl) (ea_cons (ev_var rfl) (ea_cons (ev_var rfl) ea_nil))) (v_law_fits (at_ d11).1 good.rect (at_ d11).2.1 hh hv11 hlen)) rfl)) (by simp)) (fun z => by cases z) (fun _ H12 e12 => ?_)
        have f12 : Fr r H1 H12 := f11.then e12
        have d12 : Same (dif H1 H4) (dif H1 H12) := Same.trans d11 (dif_mono (Same.refl _) e12)
        have d812 : Same (dif H1 H8) (dif H1 H12) := Same.trans d811 (dif_mono (Same.refl _) e12)
        have hv12 : TL K H12 v M' := up_tl _ _ _ _ e12 hv11
        -- the cells the other way round, as a tuple
        have evR : Ev (tCall (sp_fits K) [] E0 (tCons (tVar 3) (tCons (tCB (gTupOf K) (tCons (tRevL K (tVar 4)) tNil)) (tCons (tVar 8) tNil)))) [some (.ref a), some (.int n), some (.ref r), some g, some (.ref hp), some t, some (.ref o4), some (.int ((i : Nat) : Int)), some v, none, none] H12 (.bl (tr (Fits G cs M'))) := by
          intro H13 e13 Q' q'
          refine ⟨g, rfl, .ref hp, rfl, hp, hvs, rfl, sq_mono (Same.trans (Same.trans d12 (dif_same _ _)) e13) hsq4, fun p1 hp1 => ⟨p1, hvs.reverse, rfl, .inl ⟨SqL.of upd_same, fun p2 hp2 => ?_⟩⟩⟩
          have e14 : Same H13 (upd (upd H13 p1 (.lst hvs.reverse)) p2 (.tup hvs.reverse)) := Same.trans (same_new hp1) (same_new hp2)
          refine ⟨v, rfl, g, .ref p2, v, G, cs.reverse, M', rfl, up_tl _ _ _ _ (Same.trans e13 e14) (at_ d12).1, good.rect, .inr ⟨p2, hvs.reverse, rfl, SqT.of upd_same, pd_rev (pd_imp (fun x c h => up_cell _ _ _ _ (Same.trans (Same.trans d12 (dif_same _ _)) (Same.trans e13 e14)) h) hpd4)⟩, ⟨by rw [List.length_reverse]; exact hh.1, fun c hc => hh.2 c (List.mem_reverse.mp hc)⟩, up_tl _ _ _ _ (Same.trans e13 e14) hv12, hlen, fun H15 e15 => ?_⟩
          have z := q' H15 (Same.trans e14 e15)
          rw [tr_congr (Fits.rev (G := G) (M := M') (cs := cs) (ds := cs.reverse) fun c => List.mem_reverse.symm)] at z
          exact z
        refine s_when (b := false) (et_is (et_test (ev_neS evR (ev_call (ea_cons (ev_var rfl) (ea_cons (ev_var rfl) (ea_cons (ev_var rfl) ea_nil))) (v_law_fits (at_ d12).1 good.rect (at_ d12).2.1 hh hv12 hlen)) rfl)) (by simp)) (fun z => by cases z) (fun _ H13 e13 => ?_)
        exact ⟨f12.then e13, Same.trans d812 (dif_mono (Same.refl _) e13), _, _, rfl⟩
      · obtain ⟨fx, dx, y7, y8, rfl⟩ := p
        have dx4 := Same.trans d8 dx
        -- all as it was
        have evD : Ev (tOp (rNeD K) (tTup (tCons (tVar 3) (tCons (tVar 4) (tCons (tVar 5) tNil)))) (tVar 6)) [some (.ref a), some (.int n), some (.ref r), some g, some (.ref hp), some t, some (.ref o4), y7, y8, none, none] Hx (.bl false) := by
          intro H13 e13 Q' q'
          refine ⟨g, rfl, .ref hp, rfl, t, rfl, by show 3 ≤ sizeLine; decide, fun p hp' => ?_⟩
          have e14 : Same H13 (upd H13 p (.tup [g, .ref hp, t])) := same_new hp'
          have e34 := Same.trans e13 e14
          have hlay : (PyData.tuple [tabD G, cellsD cs, tabD M]).canLay0 = true := by simp only [PyData.canLay0, PyData.canLayAll0, tabD_lay, cellsD_lay, Bool.and_self]
          have hdep : (PyData.tuple [tabD G, cellsD cs, tabD M]).depth ≤ 64 := by
            have h1 := tabD_depth G
            have h2 := cellsD_depth cs
            have h3 := tabD_depth M
            simp only [PyData.depth, PyData.depthAll]
            omega
          have hA := at_ dx4
          have up8 : Same (dif H1 H8) (upd H13 p (.tup [g, .ref hp, t])) := Same.trans (Same.trans dx (dif_same _ _)) e34
          refine ⟨.ref o4, rfl, .tuple [tabD G, cellsD cs, tabD M], .tuple [tabD G, cellsD cs, tabD M], .tup (SqT.of upd_same) (.cons (dp_tl (up_tl _ _ _ _ e34 hA.1)) (.cons (dp_cl (up_cl _ _ _ _ e34 hA.2.1)) (.cons (dp_tl (up_tl _ _ _ _ e34 hA.2.2)) .nil))),
            .tup (SqT.of (up8 _ _ c4)) (.cons (dp_tl (up_tl _ _ _ _ up8 c1)) (.cons (dp_cl (up_cl _ _ _ _ up8 c2)) (.cons (dp_tl (up_tl _ _ _ _ up8 c3)) .nil))), shp hlay hdep, shp hlay hdep, ?_⟩
          rw [SeqAt.eqv_refl _ hlay]
          exact q' _ e14
        refine s_when (et_test evD) (fun z => by cases z) (fun _ H13 e13 => ?_)
        exact ⟨Same.trans eS0 (Same.trans (fr_back hr00 e01 fx) e13), _, _, _, _, _, _, _, _, rfl⟩
    · obtain ⟨eS1, y1, y2, y3, y4, y5, y6, y7, y8, rfl⟩ := p
      -- two tables that don't fit
      have enT : ∀ {a b c d e f g h i : Int} {σ : L2.St} {H : Hp}, EvN (tLst (tCons (tLst (tCons (tC (.int a)) (tCons (tC (.int b)) (tCons (tC (.int c)) tNil)))) (tCons (tLst (tCons (tC (.int d)) (tCons (tC (.int e)) (tCons (tC (.int f)) tNil)))) (tCons (tLst (tCons (tC (.int g)) (tCons (tC (.int h)) (tCons (tC (.int i)) tNil)))) tNil)))) σ H (fun H' v => NL (IL K) H' v [[a, b, c], [d, e, f], [g, h, i]]) := en_lst3 up_il en_row3 en_row3 en_row3
      refine q_set (enT H1 (Same.refl _) _ fun sv H2 e2 hsv => ?_)
      have hsv : TL K H2 sv someG := up_tl _ _ _ _ (dif_same _ _) hsv.lof
      have ev1 : Ev (tCall (sp_fits K) [] E0 (tCons (tVar 9) (tCons (tLst (tCons (tTup (tCons (tC (.int 0)) (tCons (tC (.int 0)) tNil))) (tCons (tTup (tCons (tC (.int 0)) (tCons (tC (.int 1)) tNil))) (tCons (tTup (tCons (tC (.int 1)) (tCons (tC (.int 0)) tNil))) (tCons (tTup (tCons (tC (.int 1)) (tCons (tC (.int 1)) tNil))) tNil))))) (tCons (tLst (tCons (tLst (tCons (tC (.int 2)) (tCons (tC (.int 0)) (tCons (tC (.int 2)) tNil)))) (tCons (tLst (tCons (tC (.int 2)) (tCons (tC (.int 0)) (tCons (tC (.int 2)) tNil)))) (tCons (tLst (tCons (tC (.int 2)) (tCons (tC (.int 2)) (tCons (tC (.int 4)) tNil)))) tNil)))) tNil))))
          [some (.ref a), y1, y2, y3, y4, y5, y6, y7, y8, some sv, none] H2 (.bl false) := by
        intro H3 e3 Q' q'
        refine ⟨sv, rfl, (en_lst4 (up_cell (K := K)) en_cell en_cell en_cell en_cell) H3 (Same.refl _) _ fun hv H4 e4 hhv => enT H4 (Same.refl _) _ fun tv H5 e5 htv => ?_⟩
        refine ⟨sv, hv, tv, someG, _, _, rfl, up_tl _ _ _ _ (Same.trans e3 (Same.trans e4 e5)) hsv, some_rect, .inl (up_cl _ _ _ _ (Same.trans (dif_same _ _) e5) hhv.lof), ⟨by decide, by decide⟩, up_tl _ _ _ _ (dif_same _ _) htv.lof, by decide, fun H6 e6 => ?_⟩
        rw [tr_no (not1 _)]
        exact q' H6 (Same.trans e4 (Same.trans e5 e6))
      refine q_when (et_B ev1) (fun z => by cases z) (fun _ H3 e3 => ?_)
      have hsv3 := up_tl _ _ _ _ e3 hsv
      refine ⟨sv, rfl, sv, rfl, sv, someG, rfl, hsv3, some_rect.ne, by decide, by decide, fun hv H4 e4 hhv => ?_⟩
      refine enT H4 (Same.refl _) _ fun tv H5 e5 htv => ?_
      refine ⟨sv, hv, tv, someG, _, _, rfl, up_tl _ _ _ _ (Same.trans e4 e5) hsv3, some_rect, .inl (up_cl _ _ _ _ (Same.trans (dif_same _ _) e5) hhv.lof), ⟨by decide, by decide⟩, up_tl _ _ _ _ (dif_same _ _) htv.lof, by decide, fun H6 e6 => ⟨_, rfl, ?_⟩⟩
      have z : tr (Fits someG (cellsOf someG.length (wide someG)).dropLast [[2, 2, 4], [2, 2, 4], [4, 4, 8]]) = false := tr_no not2
      rw [z]
      exact q H6
end S38
namespace S38
open PySem PySem.Spec PyProof.Rows L2
theorem all_mk {l : PySem.W.OpenLaw} {w : World} {K : PySem.W.Frag} {h : Heap} {mg : Str → Option Value} {fa : Addr} (X : K.In h) (G : h.Ns mainGlobals mg) (hfa : mg "law" = some (.ref fa))
    {od0 an0 : Option Addr} {sl0 : Array (Option Value)} {oc0 kV0 dc0 pm0 cd0 ct0 : Value} {f0 : Addr} {od1 an1 : Option Addr} {sl1 : Array (Option Value)} {oc1 kV1 dc1 pm1 cd1 ct1 : Value} {f1 : Addr} {od2 an2 : Option Addr} {sl2 : Array (Option Value)} {oc2 kV2 dc2 pm2 cd2 ct2 : Value} {f2 : Addr} {od3 an3 : Option Addr} {sl3 : Array (Option Value)} {oc3 kV3 dc3 pm3 cd3 ct3 : Value} {f3 : Addr} {od4 an4 : Option Addr} {sl4 : Array (Option Value)} {oc4 kV4 dc4 pm4 cd4 ct4 : Value} {f4 : Addr} {od5 an5 : Option Addr} {sl5 : Array (Option Value)} {oc5 kV5 dc5 pm5 cd5 ct5 : Value} {f5 : Addr} {od6 an6 : Option Addr} {sl6 : Array (Option Value)} {oc6 kV6 dc6 pm6 cd6 ct6 : Value} {f6 : Addr} {od7 an7 : Option Addr} {sl7 : Array (Option Value)} {oc7 kV7 dc7 pm7 cd7 ct7 : Value} {f7 : Addr} {od8 an8 : Option Addr} {sl8 : Array (Option Value)} {oc8 kV8 dc8 pm8 cd8 ct8 : Value} {f8 : Addr} {od9 an9 : Option Addr} {sl9 : Array (Option Value)} {oc9 kV9 dc9 pm9 cd9 ct9 : Value} {f9 : Addr} {od10 an10 : Option Addr} {sl10 : Array (Option Value)} {oc10 kV10 dc10 pm10 cd10 ct10 : Value} {f10 : Addr} {od11 an11 : Option Addr} {sl11 : Array (Option Value)} {oc11 kV11 dc11 pm11 cd11 ct11 : Value} {f11 : Addr} {od12 an12 : Option Addr} {sl12 : Array (Option Value)} {oc12 kV12 dc12 pm12 cd12 ct12 : Value} {f12 : Addr} {od13 an13 : Option Addr} {sl13 : Array (Option Value)} {oc13 kV13 dc13 pm13 cd13 ct13 : Value} {f13 : Addr} {od14 an14 : Option Addr} {sl14 : Array (Option Value)} {oc14 kV14 dc14 pm14 cd14 ct14 : Value} {f14 : Addr} {od15 an15 : Option Addr} {sl15 : Array (Option Value)} {oc15 kV15 dc15 pm15 cd15 ct15 : Value} {f15 : Addr} {od16 an16 : Option Addr} {sl16 : Array (Option Value)} {oc16 kV16 dc16 pm16 cd16 ct16 : Value} {f16 : Addr} {od17 an17 : Option Addr} {sl17 : Array (Option Value)} {oc17 kV17 dc17 pm17 cd17 ct17 : Value} {f17 : Addr} {od18 an18 : Option Addr} {sl18 : Array (Option Value)} {oc18 kV18 dc18 pm18 cd18 ct18 : Value} {f18 : Addr}
    (a0 : PySem.W.nsIn K mainGlobals "is_cell" = some (some (.ref f0))) (l0 : K.lookup f0 = some ⟨oc0, od0, .func (PySem.W.fnOf "is_cell" "is_cell" (defArgs s_is_cell) (defBody s_is_cell) (defScope s_is_cell) .none kV0 dc0 pm0 an0 cd0 ct0), sl0⟩) (c0 : PySem.W.codeIn K cd0 "is_cell" = true) (k0 : PySem.W.keepIn K (.ref f0) = true)
    (a1 : PySem.W.nsIn K mainGlobals "asked_hidden" = some (some (.ref f1))) (l1 : K.lookup f1 = some ⟨oc1, od1, .func (PySem.W.fnOf "asked_hidden" "asked_hidden" (defArgs s_asked_hidden) (defBody s_asked_hidden) (defScope s_asked_hidden) .none kV1 dc1 pm1 an1 cd1 ct1), sl1⟩) (c1 : PySem.W.codeIn K cd1 "asked_hidden" = true) (k1 : PySem.W.keepIn K (.ref f1) = true)
    (a2 : PySem.W.nsIn K mainGlobals "all_cells" = some (some (.ref f2))) (l2 : K.lookup f2 = some ⟨oc2, od2, .func (PySem.W.fnOf "all_cells" "all_cells" (defArgs s_all_cells) (defBody s_all_cells) (defScope s_all_cells) .none kV2 dc2 pm2 an2 cd2 ct2), sl2⟩) (c2 : PySem.W.codeIn K cd2 "all_cells" = true) (k2 : PySem.W.keepIn K (.ref f2) = true)
    (a3 : PySem.W.nsIn K mainGlobals "sums_right" = some (some (.ref f3))) (l3 : K.lookup f3 = some ⟨oc3, od3, .func (PySem.W.fnOf "sums_right" "sums_right" (defArgs s_sums_right) (defBody s_sums_right) (defScope s_sums_right) .none kV3 dc3 pm3 an3 cd3 ct3), sl3⟩) (c3 : PySem.W.codeIn K cd3 "sums_right" = true) (k3 : PySem.W.keepIn K (.ref f3) = true)
    (a4 : PySem.W.nsIn K mainGlobals "fits" = some (some (.ref f4))) (l4 : K.lookup f4 = some ⟨oc4, od4, .func (PySem.W.fnOf "fits" "fits" (defArgs s_fits) (defBody s_fits) (defScope s_fits) .none kV4 dc4 pm4 an4 cd4 ct4), sl4⟩) (c4 : PySem.W.codeIn K cd4 "fits" = true) (k4 : PySem.W.keepIn K (.ref f4) = true)
    (a5 : PySem.W.nsIn K mainGlobals "_law_cell" = some (some (.ref f5))) (l5 : K.lookup f5 = some ⟨oc5, od5, .func (PySem.W.fnOf "_law_cell" "_law_cell" (defArgs s__law_cell) (defBody s__law_cell) (defScope s__law_cell) .none kV5 dc5 pm5 an5 cd5 ct5), sl5⟩) (c5 : PySem.W.codeIn K cd5 "_law_cell" = true) (k5 : PySem.W.keepIn K (.ref f5) = true)
    (a6 : PySem.W.nsIn K mainGlobals "_law_rng" = some (some (.ref f6))) (l6 : K.lookup f6 = some ⟨oc6, od6, .func (PySem.W.fnOf "_law_rng" "_law_rng" (defArgs s__law_rng) (defBody s__law_rng) (defScope s__law_rng) .none kV6 dc6 pm6 an6 cd6 ct6), sl6⟩) (c6 : PySem.W.codeIn K cd6 "_law_rng" = true) (k6 : PySem.W.keepIn K (.ref f6) = true)
    (a7 : PySem.W.nsIn K mainGlobals "_law_draw" = some (some (.ref f7))) (l7 : K.lookup f7 = some ⟨oc7, od7, .func (PySem.W.fnOf "_law_draw" "_law_draw" (defArgs s__law_draw) (defBody s__law_draw) (defScope s__law_draw) .none kV7 dc7 pm7 an7 cd7 ct7), sl7⟩) (c7 : PySem.W.codeIn K cd7 "_law_draw" = true) (k7 : PySem.W.keepIn K (.ref f7) = true)
    (a8 : PySem.W.nsIn K mainGlobals "_law_pick" = some (some (.ref f8))) (l8 : K.lookup f8 = some ⟨oc8, od8, .func (PySem.W.fnOf "_law_pick" "_law_pick" (defArgs s__law_pick) (defBody s__law_pick) (defScope s__law_pick) .none kV8 dc8 pm8 an8 cd8 ct8), sl8⟩) (c8 : PySem.W.codeIn K cd8 "_law_pick" = true) (k8 : PySem.W.keepIn K (.ref f8) = true)
    (a9 : PySem.W.nsIn K mainGlobals "_law_sample" = some (some (.ref f9))) (l9 : K.lookup f9 = some ⟨oc9, od9, .func (PySem.W.fnOf "_law_sample" "_law_sample" (defArgs s__law_sample) (defBody s__law_sample) (defScope s__law_sample) .none kV9 dc9 pm9 an9 cd9 ct9), sl9⟩) (c9 : PySem.W.codeIn K cd9 "_law_sample" = true) (k9 : PySem.W.keepIn K (.ref f9) = true)
    (a10 : PySem.W.nsIn K mainGlobals "_law_with_sums" = some (some (.ref f10))) (l10 : K.lookup f10 = some ⟨oc10, od10, .func (PySem.W.fnOf "_law_with_sums" "_law_with_sums" (defArgs s__law_with_sums) (defBody s__law_with_sums) (defScope s__law_with_sums) .none kV10 dc10 pm10 an10 cd10 ct10), sl10⟩) (c10 : PySem.W.codeIn K cd10 "_law_with_sums" = true) (k10 : PySem.W.keepIn K (.ref f10) = true)
    (a11 : PySem.W.nsIn K mainGlobals "_law_random_grid" = some (some (.ref f11))) (l11 : K.lookup f11 = some ⟨oc11, od11, .func (PySem.W.fnOf "_law_random_grid" "_law_random_grid" (defArgs s__law_random_grid) (defBody s__law_random_grid) (defScope s__law_random_grid) .none kV11 dc11 pm11 an11 cd11 ct11), sl11⟩) (c11 : PySem.W.codeIn K cd11 "_law_random_grid" = true) (k11 : PySem.W.keepIn K (.ref f11) = true)
    (a12 : PySem.W.nsIn K mainGlobals "_law_cells" = some (some (.ref f12))) (l12 : K.lookup f12 = some ⟨oc12, od12, .func (PySem.W.fnOf "_law_cells" "_law_cells" (defArgs s__law_cells) (defBody s__law_cells) (defScope s__law_cells) .none kV12 dc12 pm12 an12 cd12 ct12), sl12⟩) (c12 : PySem.W.codeIn K cd12 "_law_cells" = true) (k12 : PySem.W.keepIn K (.ref f12) = true)
    (a13 : PySem.W.nsIn K mainGlobals "_law_random_hidden" = some (some (.ref f13))) (l13 : K.lookup f13 = some ⟨oc13, od13, .func (PySem.W.fnOf "_law_random_hidden" "_law_random_hidden" (defArgs s__law_random_hidden) (defBody s__law_random_hidden) (defScope s__law_random_hidden) .none kV13 dc13 pm13 an13 cd13 ct13), sl13⟩) (c13 : PySem.W.codeIn K cd13 "_law_random_hidden" = true) (k13 : PySem.W.keepIn K (.ref f13) = true)
    (a14 : PySem.W.nsIn K mainGlobals "_law_fits" = some (some (.ref f14))) (l14 : K.lookup f14 = some ⟨oc14, od14, .func (PySem.W.fnOf "_law_fits" "_law_fits" (defArgs s__law_fits) (defBody s__law_fits) (defScope s__law_fits) .none kV14 dc14 pm14 an14 cd14 ct14), sl14⟩) (c14 : PySem.W.codeIn K cd14 "_law_fits" = true) (k14 : PySem.W.keepIn K (.ref f14) = true)
    (a15 : PySem.W.nsIn K mainGlobals "_law_shifted" = some (some (.ref f15))) (l15 : K.lookup f15 = some ⟨oc15, od15, .func (PySem.W.fnOf "_law_shifted" "_law_shifted" (defArgs s__law_shifted) (defBody s__law_shifted) (defScope s__law_shifted) .none kV15 dc15 pm15 an15 cd15 ct15), sl15⟩) (c15 : PySem.W.codeIn K cd15 "_law_shifted" = true) (k15 : PySem.W.keepIn K (.ref f15) = true)
    (a16 : PySem.W.nsIn K mainGlobals "_law_square" = some (some (.ref f16))) (l16 : K.lookup f16 = some ⟨oc16, od16, .func (PySem.W.fnOf "_law_square" "_law_square" (defArgs s__law_square) (defBody s__law_square) (defScope s__law_square) .none kV16 dc16 pm16 an16 cd16 ct16), sl16⟩) (c16 : PySem.W.codeIn K cd16 "_law_square" = true) (k16 : PySem.W.keepIn K (.ref f16) = true)
    (a17 : PySem.W.nsIn K mainGlobals "_law_broken" = some (some (.ref f17))) (l17 : K.lookup f17 = some ⟨oc17, od17, .func (PySem.W.fnOf "_law_broken" "_law_broken" (defArgs s__law_broken) (defBody s__law_broken) (defScope s__law_broken) .none kV17 dc17 pm17 an17 cd17 ct17), sl17⟩) (c17 : PySem.W.codeIn K cd17 "_law_broken" = true) (k17 : PySem.W.keepIn K (.ref f17) = true)
    (a18 : PySem.W.nsIn K mainGlobals "law" = some (some (.ref f18))) (l18 : K.lookup f18 = some ⟨oc18, od18, .func (PySem.W.fnOf "law" "law" (defArgs s_law) (defBody s_law) (defScope s_law) .none kV18 dc18 pm18 an18 cd18 ct18), sl18⟩) (c18 : PySem.W.codeIn K cd18 "law" = true) (k18 : PySem.W.keepIn K (.ref f18) = true)
    (z_abs : PySem.W.nsIn K mainGlobals "abs" = some none)
    (z_all : PySem.W.nsIn K mainGlobals "all" = some none)
    (z_any : PySem.W.nsIn K mainGlobals "any" = some none)
    (z_int : PySem.W.nsIn K mainGlobals "int" = some none)
    (z_len : PySem.W.nsIn K mainGlobals "len" = some none)
    (z_list : PySem.W.nsIn K mainGlobals "list" = some none)
    (z_max : PySem.W.nsIn K mainGlobals "max" = some none)
    (z_min : PySem.W.nsIn K mainGlobals "min" = some none)
    (z_range : PySem.W.nsIn K mainGlobals "range" = some none)
    (z_sorted : PySem.W.nsIn K mainGlobals "sorted" = some none)
    (z_sum : PySem.W.nsIn K mainGlobals "sum" = some none)
    (z_tuple : PySem.W.nsIn K mainGlobals "tuple" = some none) :
    ∃ fd : FuncData, (∀ (s : Shared) (v : Value), BindsTo s fd ⟨[v], []⟩ [("_law_script", v)]) ∧ ∀ base : Heap, K.In base → base.Ns mainGlobals mg → FnOk l.prog w K mg base CX0 4 fa fd ["_law_script"] (sp_law K) := by
  have e := hfa.symm.trans (PySem.W.mg_of X G a18)
  cases e
  have F0 := fun_mk (st := s_is_cell) l0 c0 k0
  have F1 := fun_mk (st := s_asked_hidden) l1 c1 k1
  have F2 := fun_mk (st := s_all_cells) l2 c2 k2
  have F3 := fun_mk (st := s_sums_right) l3 c3 k3
  have F4 := fun_mk (st := s_fits) l4 c4 k4
  have F5 := fun_mk (st := s__law_cell) l5 c5 k5
  have F6 := fun_mk (st := s__law_rng) l6 c6 k6
  have F7 := fun_mk (st := s__law_draw) l7 c7 k7
  have F8 := fun_mk (st := s__law_pick) l8 c8 k8
  have F9 := fun_mk (st := s__law_sample) l9 c9 k9
  have F10 := fun_mk (st := s__law_with_sums) l10 c10 k10
  have F11 := fun_mk (st := s__law_random_grid) l11 c11 k11
  have F12 := fun_mk (st := s__law_cells) l12 c12 k12
  have F13 := fun_mk (st := s__law_random_hidden) l13 c13 k13
  have F14 := fun_mk (st := s__law_fits) l14 c14 k14
  have F15 := fun_mk (st := s__law_shifted) l15 c15 k15
  have F16 := fun_mk (st := s__law_square) l16 c16 k16
  have F17 := fun_mk (st := s__law_broken) l17 c17 k17
  have F18 := fun_mk (st := s_law) l18 c18 k18
  let T : Txt K mg := {
    a_is_cell := f0, d_is_cell := _, F_is_cell := F0, g_is_cell := PySem.W.mg_of X G a0, b_is_cell := F0.binds (ps := ["grid", "cell"]) fun _ _ _ _ _ _ us hl => match us, hl with | [_, _], _ => rfl,
    a_asked_hidden := f1, d_asked_hidden := _, F_asked_hidden := F1, g_asked_hidden := PySem.W.mg_of X G a1, b_asked_hidden := F1.binds (ps := ["grid", "hidden"]) fun _ _ _ _ _ _ us hl => match us, hl with | [_, _], _ => rfl,
    a_all_cells := f2, d_all_cells := _, F_all_cells := F2, g_all_cells := PySem.W.mg_of X G a2, b_all_cells := F2.binds (ps := ["grid"]) fun _ _ _ _ _ _ us hl => match us, hl with | [_], _ => rfl,
    a_sums_right := f3, d_sums_right := _, F_sums_right := F3, g_sums_right := PySem.W.mg_of X G a3, b_sums_right := F3.binds (ps := ["table"]) fun _ _ _ _ _ _ us hl => match us, hl with | [_], _ => rfl,
    a_fits := f4, d_fits := _, F_fits := F4, g_fits := PySem.W.mg_of X G a4, b_fits := F4.binds (ps := ["grid", "hidden", "table"]) fun _ _ _ _ _ _ us hl => match us, hl with | [_, _, _], _ => rfl,
    a__law_cell := f5, d__law_cell := _, F__law_cell := F5, g__law_cell := PySem.W.mg_of X G a5, b__law_cell := F5.binds (ps := ["_law_script", "_law_index"]) fun _ _ _ _ _ _ us hl => match us, hl with | [_, _], _ => rfl,
    a__law_rng := f6, d__law_rng := _, F__law_rng := F6, g__law_rng := PySem.W.mg_of X G a6, b__law_rng := F6.binds (ps := ["_law_cell_here"]) fun _ _ _ _ _ _ us hl => match us, hl with | [_], _ => rfl,
    a__law_draw := f7, d__law_draw := _, F__law_draw := F7, g__law_draw := PySem.W.mg_of X G a7, b__law_draw := F7.binds (ps := ["_law_rng_here", "_law_limit"]) fun _ _ _ _ _ _ us hl => match us, hl with | [_, _], _ => rfl,
    a__law_pick := f8, d__law_pick := _, F__law_pick := F8, g__law_pick := PySem.W.mg_of X G a8, b__law_pick := F8.binds (ps := ["_law_rng_here", "_law_items"]) fun _ _ _ _ _ _ us hl => match us, hl with | [_, _], _ => rfl,
    a__law_sample := f9, d__law_sample := _, F__law_sample := F9, g__law_sample := PySem.W.mg_of X G a9, b__law_sample := F9.binds (ps := ["_law_rng_here", "_law_items", "_law_count"]) fun _ _ _ _ _ _ us hl => match us, hl with | [_, _, _], _ => rfl,
    a__law_with_sums := f10, d__law_with_sums := _, F__law_with_sums := F10, g__law_with_sums := PySem.W.mg_of X G a10, b__law_with_sums := F10.binds (ps := ["_law_cells_here"]) fun _ _ _ _ _ _ us hl => match us, hl with | [_], _ => rfl,
    a__law_random_grid := f11, d__law_random_grid := _, F__law_random_grid := F11, g__law_random_grid := PySem.W.mg_of X G a11, b__law_random_grid := F11.binds (ps := ["_law_rng_here"]) fun _ _ _ _ _ _ us hl => match us, hl with | [_], _ => rfl,
    a__law_cells := f12, d__law_cells := _, F__law_cells := F12, g__law_cells := PySem.W.mg_of X G a12, b__law_cells := F12.binds (ps := ["_law_grid"]) fun _ _ _ _ _ _ us hl => match us, hl with | [_], _ => rfl,
    a__law_random_hidden := f13, d__law_random_hidden := _, F__law_random_hidden := F13, g__law_random_hidden := PySem.W.mg_of X G a13, b__law_random_hidden := F13.binds (ps := ["_law_rng_here", "_law_grid"]) fun _ _ _ _ _ _ us hl => match us, hl with | [_, _], _ => rfl,
    a__law_fits := f14, d__law_fits := _, F__law_fits := F14, g__law_fits := PySem.W.mg_of X G a14, b__law_fits := F14.binds (ps := ["_law_grid", "_law_hidden", "_law_table"]) fun _ _ _ _ _ _ us hl => match us, hl with | [_, _, _], _ => rfl,
    a__law_shifted := f15, d__law_shifted := _, F__law_shifted := F15, g__law_shifted := PySem.W.mg_of X G a15, b__law_shifted := F15.binds (ps := ["_law_rng_here", "_law_grid", "_law_hidden"]) fun _ _ _ _ _ _ us hl => match us, hl with | [_, _, _], _ => rfl,
    a__law_square := f16, d__law_square := _, F__law_square := F16, g__law_square := PySem.W.mg_of X G a16, b__law_square := F16.binds (ps := ["_law_rng_here", "_law_table", "_law_much"]) fun _ _ _ _ _ _ us hl => match us, hl with | [_, _, _], _ => rfl,
    a__law_broken := f17, d__law_broken := _, F__law_broken := F17, g__law_broken := PySem.W.mg_of X G a17, b__law_broken := F17.binds (ps := ["_law_rng_here", "_law_grid", "_law_table"]) fun _ _ _ _ _ _ us hl => match us, hl with | [_, _, _], _ => rfl,
    a_law := fa, d_law := _, F_law := F18, g_law := PySem.W.mg_of X G a18, b_law := F18.binds (ps := ["_law_script"]) fun _ _ _ _ _ _ us hl => match us, hl with | [_], _ => rfl,
    z_abs := PySem.W.mg_none_of X G z_abs,
    z_all := PySem.W.mg_none_of X G z_all,
    z_any := PySem.W.mg_none_of X G z_any,
    z_int := PySem.W.mg_none_of X G z_int,
    z_len := PySem.W.mg_none_of X G z_len,
    z_list := PySem.W.mg_none_of X G z_list,
    z_max := PySem.W.mg_none_of X G z_max,
    z_min := PySem.W.mg_none_of X G z_min,
    z_range := PySem.W.mg_none_of X G z_range,
    z_sorted := PySem.W.mg_none_of X G z_sorted,
    z_sum := PySem.W.mg_none_of X G z_sum,
    z_tuple := PySem.W.mg_none_of X G z_tuple }
  exact ⟨T.d_law, fun s v => .of_eq rfl, fun base _ _ => ok_law T⟩
end S38
open PySem PySem.W PyProof.Rows
set_option maxHeartbeats 0 in
theorem PySem.Challenge.cw_skiphall_k38_tables_that_fit_but_for_one_holds : PySem.Challenge.rw_skiphall_k38_tables_that_fit_but_for_one.Holds := by
  w_on; o_law; k_head; (case hw => w_witness2)
  k_fill
  refine L2.walk_of (l := PySem.Challenge.rw_skiphall_k38_tables_that_fit_but_for_one) (n := 63) (k := 4) (x := "_law_script") (CX := fun _ => L2.CX0) (sp := fun w => S38.sp_law _) rfl (by decide) rfl ⟨rfl, by decide, by decide⟩ (fun w h Y => PySem.W.kIn_of Y) ?F (fun _ _ a ns hl _ hS => ⟨a, ns, rfl, hS, hl, fun _ => rfl⟩) (fun _ _ _ _ _ h => h)
  case F =>
    intro w mg fa h KX G hmg
    refine' S38.all_mk KX G hmg ?a0 ?l0 ?c0 ?k0 ?a1 ?l1 ?c1 ?k1 ?a2 ?l2 ?c2 ?k2 ?a3 ?l3 ?c3 ?k3 ?a4 ?l4 ?c4 ?k4 ?a5 ?l5 ?c5 ?k5 ?a6 ?l6 ?c6 ?k6 ?a7 ?l7 ?c7 ?k7 ?a8 ?l8 ?c8 ?k8 ?a9 ?l9 ?c9 ?k9 ?a10 ?l10 ?c10 ?k10 ?a11 ?l11 ?c11 ?k11 ?a12 ?l12 ?c12 ?k12 ?a13 ?l13 ?c13 ?k13 ?a14 ?l14 ?c14 ?k14 ?a15 ?l15 ?c15 ?k15 ?a16 ?l16 ?c16 ?k16 ?a17 ?l17 ?c17 ?k17 ?a18 ?l18 ?c18 ?k18 ?z_abs ?z_all ?z_any ?z_int ?z_len ?z_list ?z_max ?z_min ?z_range ?z_sorted ?z_sum ?z_tuple
    (case a0 => k_is)
    (case l0 => k_is)
    (case c0 => k_is)
    (case k0 => k_is)
    (case a1 => k_is)
    (case l1 => k_is)
    (case c1 => k_is)
    (case k1 => k_is)
    (case a2 => k_is)
    (case l2 => k_is)
    (case c2 => k_is)
    (case k2 => k_is)
    (case a3 => k_is)
    (case l3 => k_is)
    (case c3 => k_is)
    (case k3 => k_is)
    (case a4 => k_is)
    (case l4 => k_is)
    (case c4 => k_is)
    (case k4 => k_is)
    (case a5 => k_is)
    (case l5 => k_is)
    (case c5 => k_is)
    (case k5 => k_is)
    (case a6 => k_is)
    (case l6 => k_is)
    (case c6 => k_is)
    (case k6 => k_is)
    (case a7 => k_is)
    (case l7 => k_is)
    (case c7 => k_is)
    (case k7 => k_is)
    (case a8 => k_is)
    (case l8 => k_is)
    (case c8 => k_is)
    (case k8 => k_is)
    (case a9 => k_is)
    (case l9 => k_is)
    (case c9 => k_is)
    (case k9 => k_is)
    (case a10 => k_is)
    (case l10 => k_is)
    (case c10 => k_is)
    (case k10 => k_is)
    (case a11 => k_is)
    (case l11 => k_is)
    (case c11 => k_is)
    (case k11 => k_is)
    (case a12 => k_is)
    (case l12 => k_is)
    (case c12 => k_is)
    (case k12 => k_is)
    (case a13 => k_is)
    (case l13 => k_is)
    (case c13 => k_is)
    (case k13 => k_is)
    (case a14 => k_is)
    (case l14 => k_is)
    (case c14 => k_is)
    (case k14 => k_is)
    (case a15 => k_is)
    (case l15 => k_is)
    (case c15 => k_is)
    (case k15 => k_is)
    (case a16 => k_is)
    (case l16 => k_is)
    (case c16 => k_is)
    (case k16 => k_is)
    (case a17 => k_is)
    (case l17 => k_is)
    (case c17 => k_is)
    (case k17 => k_is)
    (case a18 => k_is)
    (case l18 => k_is)
    (case c18 => k_is)
    (case k18 => k_is)
    (case z_abs => k_is)
    (case z_all => k_is)
    (case z_any => k_is)
    (case z_int => k_is)
    (case z_len => k_is)
    (case z_list => k_is)
    (case z_max => k_is)
    (case z_min => k_is)
    (case z_range => k_is)
    (case z_sorted => k_is)
    (case z_sum => k_is)
    (case z_tuple => k_is)
#print axioms PySem.Challenge.cw_skiphall_k38_tables_that_fit_but_for_one_holds
