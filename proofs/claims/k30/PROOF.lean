import PyProof.Rows.All
import Wide.All
import OpenK.AllK
import Wide.FinOn
import PyProof.LongRange
import PyProof.StrBlock2
import HandS.ForMost
import HandS.Exc
import HandS.TryOnly
import HandS.TryMany
import HandS.ExcOwn
import HandS.ExcInit
import HandS.ExcField
import HandS.IsInst
import HandS.Zip0
import HandS.Zip
import HandS.Conv
import HandS.TupAny
import HandS.Codes
import HandS.Defaults
import HandS.Walk
import HandS.WordsExc
import HandS.Head0
import HandS.Head1
import HandS.Head2
import HandS.HeadEnd
import HandS.HeadHook1
import HandS.HeadHook2
import PySem.Challenge.RW_cutlinked_k30_whole_parcels_seals_and_di
import HandS.HeadHook3
import HandS.HeadHook4
import HandS.HeadWalk
set_option Elab.async false
set_option linter.all false
set_option maxRecDepth 100000
set_option maxHeartbeats 4000000
/-! rules of our own beside the layer's -/
namespace Cl
open PySem PySem.Spec PyProof.Rows L2
open PySem.Sem (wp)
section
variable {X : Cx}
/-- C(), C an own exception class without own __init__ -/
theorem pmk_own0 {C : Addr} {bmB : List Value} {B newId initId : String} {x : Str} {p pos : Pos} (F : ExcBaseFacts B newId initId bmB) (q : PySem.W.excIn X.K C bmB newId = true) (gC : X.mg x = some (.ref C))
    (kC : PySem.W.keepIn X.K (.ref C) = true) (r : Raises X (.ref C)) (hg : Gl X x) (hdb : (x == ("__debug__" : Str)) = false := by decide) : PMk X (.Call (.Name x p) [] [] pos) (fun _ H Q => Q (.ref C) none H) := by
  intro pins s σ H Q I h
  refine wpAny_Call_Name_kw (ld_glob I hg gC ?_ hdb)
  refine PySem.W.callWith_K0 I.kIn kC ?_
  obtain ⟨bm, N, nm, qn, bs, hdct, sn, sub, ab, col, dd, k0, k1, k2, k3, k5, mN, hC, hN, hni, T⟩ := exc_obj I.kIn q
  refine wpAny_call_exc_subT F T hC hN hni (fun h' e hm => ?_) (Nat.zero_le _)
  exact mk_of I hm r h (I.hok.gone hm.new)

/-! ### range(n), n as great as it likes -/
theorem turn_long {P : Program} {w : World} {K : PySem.W.Frag} {tg : Expr} (it : Addr) (lo : Int) (n : Nat) : Turn P w K tg (Itr lo n) [it] it (fun i h => IsLongIter h it (lo + (i : Nat) * 1) ((n : Int) - (i : Nat)) 1) where
  mem := by simp
  obj := fun i h st b hb => by
    have e : b = it := by simpa using hb
    subst e
    exact ⟨_, st, fun v z => by
      have z' : Data.fields _ = Data.cell v := z
      cases z'⟩
  keep := fun i h h' st k => k it (by simp) _ st
  item := by
    intro X hP hw hK hc i pins s σ H E I hf st hg
    subst hP hw hK
    obtain ⟨f0, f1, f2, f3, f4, f5⟩ := hf it (by simp)
    have W := Walks.longrange (prog := X.prog) (w := X.w) (I.ok.hd hc) it lo 1 n
    refine W.item i s _ _ hg st fun v h' tk hv st' kk => ?_
    obtain ⟨t, rfl⟩ := hv
    have I1 : Inv X pins σ H { s with heap := h', toks := tk } := I.turned (fun b o hb e => kk b o (by simpa using hb) e) f0 f1 f3 f4 f5
    refine ⟨_, rfl, go_of (s := { s with heap := h', toks := tk }) (n := "longrange_iterator") st' rfl rfl (by decide) ⟨.int (lo + i), H, I1, ⟨t, ?_⟩, ⟨rfl, rfl⟩, st', fun b hb => (hf b hb).1⟩⟩
    rw [Int.mul_one]
  done := by
    intro X hP hw hK hc i pins s σ H E I hf st hg
    subst hP hw hK
    obtain ⟨f0, f1, f2, f3, f4, f5⟩ := hf it (by simp)
    exact wpAny_pyNext_long_end (I.ok.hd hc) st (by have : n ≤ i := hg; omega) fun h' eb => ⟨rfl, I.turned (t' := s.toks) (fun b o hb e => eb b o hb e) f0 f1 f3 f4 f5⟩
  self := fun _ _ _ _ _ st h => wpAny_pyIter_longiter st h
theorem range_itB {tg : Expr} {pins : List (Addr × Obj)} {σ : L2.St} {H : Hp} {s : Shared} {R : It → Hp → Prop} {E : Value → Shared → Prop} {hi : Int} {t u v : Tok} {tk : Nat} (I : Inv X pins σ H s) (h0 : 0 ≤ hi)
    (q : R (Itr 0 hi.toNat) H) : wpAny (model X.prog X.w) X.A (pyIter (.ref s.heap.objs.size)) (PIE X pins σ tg R) E { s with heap := s.heap.push { cls := .type "range", data := .fields #[.int 0 t, .int hi u, .int 1 v] }, toks := tk } := by
  have I1 : Inv X pins σ H { s with heap := s.heap.push { cls := .type "range", data := .fields #[.int 0 t, .int hi u, .int 1 v] }, toks := tk } := I.kept fun b o e => Heap.get?_push_of_some _ e
  have e1 : (0 : Int) + ((0 : Nat) : Int) * 1 = 0 := by simp
  have e2 : ((hi.toNat : Nat) : Int) - ((0 : Nat) : Int) = Builtin.Range.rangeSize 0 hi 1 := by rw [rangeSize_one]; split <;> omega
  have fp : ∀ b, b ∈ [(s.heap.push { cls := .type "range", data := .fields #[.int 0 t, .int hi u, .int 1 v] }).objs.size] → FpOk X pins H b := fun b hb => by
    have e : b = (s.heap.push { cls := .type "range", data := .fields #[.int 0 t, .int hi u, .int 1 v] }).objs.size := by simpa using hb
    subst e
    exact I1.fpOk (Nat.le_refl _) (I1.hok.fresh (Nat.le_refl _))
  cases hs : Builtin.Range.small 0 hi 1 with
  | true =>
    refine wpAny_pyIter_range (IsRange.new ..) hs ?_
    refine ⟨_, [(s.heap.push { cls := .type "range", data := .fields #[.int 0 t, .int hi u, .int 1 v] }).objs.size], _, _, H, rfl, I1.kept (t' := tk) fun b o e => Heap.get?_push_of_some _ e, turn_range _ 0 hi.toNat, ?_, fp, q⟩
    show IsRangeIter _ _ ((0 : Int) + ((0 : Nat) : Int) * 1) (((hi.toNat : Nat) : Int) - ((0 : Nat) : Int)) 1
    rw [e1, e2]
    exact Heap.get?_push_size _ rfl
  | false =>
    refine wpAny_pyIter_longrange (IsRange.new ..) hs ?_
    refine ⟨_, [(s.heap.push { cls := .type "range", data := .fields #[.int 0 t, .int hi u, .int 1 v] }).objs.size], _, _, H, rfl, I1.kept (t' := tk) fun b o e => Heap.get?_push_of_some _ e, turn_long _ 0 hi.toNat, ?_, fp, q⟩
    show IsLongIter _ _ ((0 : Int) + ((0 : Nat) : Int) * 1) (((hi.toNat : Nat) : Int) - ((0 : Nat) : Int)) 1
    rw [e1, e2]
    exact Heap.get?_push_size _ rfl
def iRngB (ta : TA) : TI := fun σ H R => ta σ H fun vs H1 => ∃ j : Int, vs = [.int j] ∧ 0 ≤ j ∧ R (Itr 0 j.toNat) H1
theorem pi_rangeB {tg : Expr} {a : Expr} {ta : TA} {p pos : Pos} (hg : Gl X "range") (hm : X.mg "range" = none) (ha : PA X [a] ta) (hs : starEach [a] X.env = [(false, eval a X.env)] := by rfl) : PI X tg (.Call (.Name "range" p) [a] [] pos) (iRngB ta) := by
  refine ⟨fun pins s σ H R I h => ?_⟩
  refine Call_ (ld_blt I hg hm boot_range (PyProof.Rows.callWith_type1 (thn (ha.run pos pins s σ H _ I h) fun us s1 ⟨vs, H1, I1, r1, q1⟩ => ?_) hs rfl))
  obtain ⟨j, e, q1, q⟩ := q1
  subst e
  cases r1 with
  | cons r rr =>
    cases rr
    obtain ⟨t, rfl⟩ := r
    exact call_range_1 (range_itB I1 q1 q)

/-! ### 'x' * 20 -/
theorem op_mulS : OpR X (binaryOp .Mult) (fun x y H Q => ∃ (z : Str) (n : Int), x = .str z ∧ y = .int n ∧ 1 < n ∧ n ≤ 1000 ∧ 0 < z.length ∧ z.length ≤ 1000 ∧ Q (.str (Txt.mul z n)) H) := by
  intro pins s σ H x y v u Q I rx ry h
  obtain ⟨z, n, rfl, rfl, h1, h2, h3, h4, q⟩ := h
  obtain ⟨t, rfl⟩ := rx
  obtain ⟨t', rfl⟩ := ry
  refine PySem.SB.mul ⟨?_, fun _ _ => ?_, fun _ _ => ?_⟩ fun t' k => ⟨.str (Txt.mul z n), H, I.tok k, ⟨t', rfl⟩, q⟩
  · rw [decide_eq_false (by omega), decide_eq_false (by omega)] <;> rfl
  · have : (1000 : Int) ≤ (2 ^ 63 - 1) / n := by
      refine (Int.le_ediv_iff_mul_le (by omega)).mpr ?_
      have : (1000 : Int) * n ≤ 1000 * 1000 := by omega
      omega
    omega
  · have a1 : z.length * n.toNat ≤ 1000 * 1000 := Nat.mul_le_mul h4 (by omega)
    unfold PySem.Builtin.Str.tooLong
    simp only [decide_eq_false_iff_not]
    rw [sizeLine_eq]
    omega

/-! ### in place -/
theorem ip_of {op : Operator} {r : R2} (ho : OpR X (inplaceOp op) r) : PIp X op r := by
  intro pins s σ H x y v u Q I rx ry h
  exact ho pins s σ H x y v u Q I rx ry h
end
end Cl
set_option maxRecDepth 100000
set_option maxHeartbeats 4000000
/-! zip of a tuple and a list: over two sources that are told by what they do -/
namespace Cl
open PySem PySem.Spec PyProof.Rows L2 RZ
open PySem.Sem (wp)
section
variable {prog : Program} {w : World}
/-- the iterator at i hands out x and goes from P to P' -/
def Gives1 (prog : Program) (w : World) (i : Addr) (P P' : Heap → Prop) (x : Value) : Prop :=
  ∀ (A : Around) (E : Value → Shared → Prop) (s : Shared) (Q : Value → Shared → Prop), P s.heap → (∀ h', P' h' → Heap.SameBut i s.heap h' → Q x { s with heap := h' }) → wpAny (model prog w) A (Builtin.SmallTypes.nextOf (.ref i)) Q E s
/-- the iterator at i is at its end -/
def Ends1 (prog : Program) (w : World) (i : Addr) (P : Heap → Prop) : Prop :=
  ∀ (A : Around) (E : Value → Shared → Prop) (s : Shared) (Q : Value → Shared → Prop), A.handled = none → P s.heap →
    (∀ h' e, Heap.ExtBut i s.heap h' → (∃ o, h'.get? e = some o ∧ o.cls = .type "StopIteration") → E (.ref e) { s with heap := h' }) → wpAny (model prog w) A (Builtin.SmallTypes.nextOf (.ref i)) Q E s
def Calm1 (P : Heap → Prop) (bs : List Addr) : Prop := ∀ b, b ∈ bs → ∀ h h' : Heap, Heap.ExtBut b h h' → P h → P h'
/-- two iterators i1, i2 in the zip at z with its tuples TI, TO -/
structure Apart1 (z TI TO i1 i2 : Addr) : Prop where
  a1 : TI ≠ z
  a2 : TO ≠ z
  a3 : i1 ≠ z
  a4 : i2 ≠ z
  a5 : TI ≠ TO
  a6 : TI ≠ i1
  a7 : TI ≠ i2
  a8 : TO ≠ i1
  a9 : TO ≠ i2
  b1 : i1 ≠ i2
variable {A : Around} {E : Value → Shared → Prop} {s : Shared} {z TI TO i1 i2 : Addr} {P1 P2 R1 R2 : Heap → Prop} {x y a b : Value}
theorem zg_item {Q : Option Value → Shared → Prop} (D : Apart1 z TI TO i1 i2) (hz : IsZip s.heap z TI TO .none) (hTI : IsPair s.heap TI (.ref i1) (.ref i2)) (hTO : IsPair s.heap TO a b)
    (p1 : P1 s.heap) (p2 : P2 s.heap) (g1 : Gives1 prog w i1 P1 R1 x) (g2 : Gives1 prog w i2 P2 R2 y) (c1 : Calm1 P1 [z]) (c2 : Calm1 P2 [z, i1, TO])
    (hQ : ∀ h', IsZip h' z TI TO (rawInt s.heap.objs.size) → IsPair h' TO x y → (∃ h1, R1 h1 ∧ ∀ c o, c ≠ TO → c ≠ i2 → c ≠ z → h1.get? c = some o → h'.get? c = some o) → (∃ h2, R2 h2 ∧ ∀ c o, c ≠ TO → c ≠ z → h2.get? c = some o → h'.get? c = some o) →
      IsPair h' s.heap.objs.size x y → h'.objs.size = s.heap.objs.size + 1 → (∀ c o, c ≠ z → c ≠ TO → c ≠ i1 → c ≠ i2 → s.heap.get? c = some o → h'.get? c = some o) → Q (some (.ref s.heap.objs.size)) { s with heap := h' }) :
    wpAny (model prog w) A (pyNext (.ref z)) Q E s := by
  have isz : s.TypeIs (.ref z) "zip" := ⟨_, hz, rfl⟩
  unfold pyNext
  refine wpAny_bind (wpAny_attempt (wpAny_callSpecial?_slot (name := Str.ofString "__next__") isz PySem.F.slot_zip_next (wpAny_call_entry PySem.F.slot_zip_next isz PySem.F.entry_zip_next ?_ (PySem.F.args_zip_next_1 _))))
  show wpAny _ _ (field (.ref z) 2 >>= _) _ _ _
  refine wpAny_bind (wpAny_field (x := .bool false) hz rfl rfl ?_)
  show wpAny _ _ (field (.ref z) 3 >>= _) _ _ _
  refine wpAny_bind (wpAny_field (x := .ref TI) hz rfl rfl (wpAny_bind (wpAny_seqItems hTI rfl ?_)))
  refine wpAny_bind (m := Builtin.SmallTypes.ownedTupleIsFree (.ref z)) ?_
  unfold Builtin.SmallTypes.ownedTupleIsFree
  refine wpAny_bind (wpAny_field (x := .none) hz rfl rfl (wpAny_pure ?_))
  simp only [if_true]
  refine wpAny_bind (wpAny_rule (wpAny_bind (wpAny_field (x := .ref TO) hz rfl rfl (wpAny_bind (wpAny_setField_rec hz (by simp) fun ha za sa => ?_)))))
  have za' : IsZip ha z TI TO .ellipsis := za
  refine wpAny_bind ?_
  simp only [List.zipIdx_cons, List.zipIdx_nil, List.forIn_cons, List.forIn_nil]
  refine wpAny_bind (wpAny_bind (wpAny_onRaise ?_))
  refine wpAny_bind (m := Builtin.SmallTypes.nextOf (.ref i1)) (g1 _ _ _ _ (c1 z (by simp) _ _ sa.extBut p1) fun hb rb sb => wpAny_pure ?_)
  have tb : IsPair hb TO a b := sb.extBut _ _ D.a8 (sa.extBut _ _ D.a2 hTO)
  refine wpAny_bind (wpAny_seqItems tb rfl (wpAny_bind (wpAny_updateSeq_pair tb fun hc tc sc => wpAny_bind (wpAny_letGo (wpAny_pure ?_)))))
  have tc' : IsPair hc TO x b := tc
  refine wpAny_bind (wpAny_bind (wpAny_onRaise ?_))
  refine wpAny_bind (m := Builtin.SmallTypes.nextOf (.ref i2)) (g2 _ _ _ _ (c2 TO (by simp) _ _ sc.extBut (c2 i1 (by simp) _ _ sb.extBut (c2 z (by simp) _ _ sa.extBut p2))) fun hd rd sd => wpAny_pure ?_)
  have td : IsPair hd TO x b := sd.extBut _ _ D.a9 tc'
  refine wpAny_bind (wpAny_seqItems td rfl (wpAny_bind (wpAny_updateSeq_pair td fun he te se => wpAny_bind (wpAny_letGo (wpAny_pure (wpAny_pure ?_))))))
  have te' : IsPair he TO x y := te
  refine wpAny_bind (wpAny_seqItems te' rfl (wpAny_bind (wpAny_newTuple ?_)))
  have size : he.objs.size = s.heap.objs.size := (((se.1.trans sd.1).trans sc.1).trans sb.1).trans sa.1
  have ze : IsZip he z TI TO .ellipsis := se.extBut _ _ D.a2.symm (sd.extBut _ _ D.a4.symm (sc.extBut _ _ D.a2.symm (sb.extBut _ _ D.a3.symm za')))
  have zlt : z < he.objs.size := Heap.lt_size ze
  refine wpAny_bind (m := Builtin.SmallTypes.ownedTupleHandOut (.ref z) (.ref he.objs.size)) ?_
  unfold Builtin.SmallTypes.ownedTupleHandOut
  have zf : IsZip (he.push { cls := .type "tuple", data := .seq #[x, y] }) z TI TO .ellipsis := Heap.get?_push_of_some _ ze
  refine wpAny_bind (wpAny_setField_rec zf (by simp) fun hg zg sg => ?_)
  have zg' : IsZip hg z TI TO (rawInt he.objs.size) := zg
  refine wpAny_setField_rec zg' (by simp) fun hk zk sk => ?_
  have up : ∀ c o, c ≠ z → he.get? c = some o → hk.get? c = some o := fun c o cz q => sk.extBut _ _ cz (sg.extBut _ _ cz (Heap.get?_push_of_some _ q))
  have zk' : IsZip hk z TI TO (rawInt he.objs.size) := zk
  have pr : IsPair hk he.objs.size x y := sk.extBut _ _ (Nat.ne_of_gt zlt) (sg.extBut _ _ (Nat.ne_of_gt zlt) (Heap.get?_push_size _ rfl))
  have hsz : hk.objs.size = he.objs.size + 1 := by rw [sk.1, sg.1, Heap.size_push]
  rw [size] at zk' pr hsz
  refine wpAny_pure ⟨_, rfl, wpAny_pure ?_⟩
  show Q (some (.ref he.objs.size)) _
  rw [size]
  refine hQ hk zk' (up _ _ D.a2 te') ⟨hb, rb, fun c o n1 n2 n3 q => up c o n3 (se.extBut _ _ n1 (sd.extBut _ _ n2 (sc.extBut _ _ n1 q)))⟩ ⟨hd, rd, fun c o n1 n2 q => up c o n2 (se.extBut _ _ n1 q)⟩ pr hsz fun c o n1 n2 n3 n4 q => ?_
  exact up c o n1 (se.extBut _ _ n2 (sd.extBut _ _ n4 (sc.extBut _ _ n2 (sb.extBut _ _ n3 (sa.extBut _ _ n1 q)))))
theorem zg_end {Q : Option Value → Shared → Prop} (hh : A.handled = none) (D : Apart1 z TI TO i1 i2) (hz : IsZip s.heap z TI TO .none) (hTI : IsPair s.heap TI (.ref i1) (.ref i2)) (hTO : IsPair s.heap TO a b)
    (p1 : P1 s.heap) (p2 : P2 s.heap) (c1 : Calm1 P1 [z]) (c2 : Calm1 P2 [z, i1, TO]) (g : Ends1 prog w i1 P1 ∨ (∃ x, Gives1 prog w i1 P1 R1 x) ∧ Ends1 prog w i2 P2)
    (hQ : ∀ h', (∀ c o, c ≠ z → c ≠ TO → c ≠ i1 → c ≠ i2 → s.heap.get? c = some o → h'.get? c = some o) → Q none { s with heap := h' }) :
    wpAny (model prog w) A (pyNext (.ref z)) Q E s := by
  have isz : s.TypeIs (.ref z) "zip" := ⟨_, hz, rfl⟩
  unfold pyNext
  refine wpAny_bind (wpAny_attempt (wpAny_callSpecial?_slot (name := Str.ofString "__next__") isz PySem.F.slot_zip_next (wpAny_call_entry PySem.F.slot_zip_next isz PySem.F.entry_zip_next ?_ (PySem.F.args_zip_next_1 _))))
  have fin : ∀ (h' : Heap) (e : Addr), (∀ c o, c ≠ z → c ≠ TO → c ≠ i1 → c ≠ i2 → s.heap.get? c = some o → h'.get? c = some o) → (∃ o, h'.get? e = some o ∧ o.cls = .type "StopIteration") →
      wpAny (model prog w) A (do if (← isInstance (.ref e) (.type "StopIteration")) then return Option.none else throw (.ref e)) Q E { s with heap := h' } := by
    intro h' e k he
    obtain ⟨o, ho, hc⟩ := he
    refine wpAny_bind (wpAny_isInstance (T := "StopIteration") (b := true) ⟨o, ho, hc⟩ isSubtype_stop ?_)
    exact wpAny_pure (hQ _ k)
  show wpAny _ _ (field (.ref z) 2 >>= _) _ _ _
  refine wpAny_bind (wpAny_field (x := .bool false) hz rfl rfl ?_)
  show wpAny _ _ (field (.ref z) 3 >>= _) _ _ _
  refine wpAny_bind (wpAny_field (x := .ref TI) hz rfl rfl (wpAny_bind (wpAny_seqItems hTI rfl ?_)))
  refine wpAny_bind (m := Builtin.SmallTypes.ownedTupleIsFree (.ref z)) ?_
  unfold Builtin.SmallTypes.ownedTupleIsFree
  refine wpAny_bind (wpAny_field (x := .none) hz rfl rfl (wpAny_pure ?_))
  simp only [if_true]
  refine wpAny_bind (wpAny_rule (wpAny_bind (wpAny_field (x := .ref TO) hz rfl rfl (wpAny_bind (wpAny_setField_rec hz (by simp) fun ha za sa => ?_)))))
  have za' : IsZip ha z TI TO .ellipsis := za
  refine wpAny_bind ?_
  simp only [List.zipIdx_cons, List.zipIdx_nil, List.forIn_cons, List.forIn_nil]
  refine wpAny_bind (wpAny_bind (wpAny_onRaise ?_))
  rcases g with g | ⟨⟨x, g1⟩, g2⟩
  · refine wpAny_bind (m := Builtin.SmallTypes.nextOf (.ref i1)) (g _ _ _ _ hh (c1 z (by simp) _ _ sa.extBut p1) fun hb e sb he => ?_)
    obtain ⟨oe, hoe, hce⟩ := he
    have zb : IsZip hb z TI TO .ellipsis := sb _ _ D.a3.symm za'
    have nez : e ≠ z := fun q => by
      subst q
      rw [zb] at hoe
      cases hoe
      simp at hce
    exact wpAny_setField_rec zb (by simp) fun hc _ sc => fin hc e (fun c o n1 _ n3 _ q => sc.extBut _ _ n1 (sb _ _ n3 (sa.extBut _ _ n1 q))) ⟨oe, sc.extBut _ _ nez hoe, hce⟩
  · refine wpAny_bind (m := Builtin.SmallTypes.nextOf (.ref i1)) (g1 _ _ _ _ (c1 z (by simp) _ _ sa.extBut p1) fun hb rb sb => wpAny_pure ?_)
    have tb : IsPair hb TO a b := sb.extBut _ _ D.a8 (sa.extBut _ _ D.a2 hTO)
    refine wpAny_bind (wpAny_seqItems tb rfl (wpAny_bind (wpAny_updateSeq_pair tb fun hc tc sc => wpAny_bind (wpAny_letGo (wpAny_pure ?_)))))
    refine wpAny_bind (wpAny_bind (wpAny_onRaise ?_))
    refine wpAny_bind (m := Builtin.SmallTypes.nextOf (.ref i2)) (g2 _ _ _ _ hh (c2 TO (by simp) _ _ sc.extBut (c2 i1 (by simp) _ _ sb.extBut (c2 z (by simp) _ _ sa.extBut p2))) fun hd e sd he => ?_)
    obtain ⟨oe, hoe, hce⟩ := he
    have zd : IsZip hd z TI TO .ellipsis := sd _ _ D.a4.symm (sc.extBut _ _ D.a2.symm (sb.extBut _ _ D.a3.symm za'))
    have nez : e ≠ z := fun q => by
      subst q
      rw [zd] at hoe
      cases hoe
      simp at hce
    exact wpAny_setField_rec zd (by simp) fun hg _ sg => fin hg e (fun c o n1 n2 n3 n4 q => sg.extBut _ _ n1 (sd _ _ n4 (sc.extBut _ _ n2 (sb.extBut _ _ n3 (sa.extBut _ _ n1 q))))) ⟨oe, sg.extBut _ _ nez hoe, hce⟩
/-! the two sources -/
theorem gives_tup {it l : Addr} {i : Nat} {items : Array Value} {x : Value} (hx : items[i]? = some x) : Gives1 prog w it (fun h => h.IsTupleIter it l i ∧ h.IsTuple l items) (fun h => h.IsTupleIter it l (i + 1)) x :=
  fun _ _ _ _ p q => nextOf_tuple_item p.1 p.2 hx q
theorem gives_lst {it l : Addr} {i : Nat} {items : Array Value} {x : Value} (hx : items[i]? = some x) : Gives1 prog w it (fun h => h.IsListIter it l i ∧ h.IsList l items) (fun h => h.IsListIter it l (i + 1)) x :=
  fun _ _ _ _ p q => wpAny_nextOf_list_item p.1 p.2 hx q
theorem ends_tup {it l : Addr} {i : Nat} {items : Array Value} (hx : items[i]? = none) : Ends1 prog w it (fun h => h.IsTupleIter it l i ∧ h.IsTuple l items) :=
  fun _ _ _ _ hh p q => nextOf_tuple_end hh p.1 p.2 hx q
theorem ends_lst {it l : Addr} {i : Nat} {items : Array Value} (hx : items[i]? = none) : Ends1 prog w it (fun h => h.IsListIter it l i ∧ h.IsList l items) :=
  fun _ _ _ _ hh p q => wpAny_nextOf_list_end hh p.1 p.2 hx q
theorem calm_tup {it l : Addr} {i : Nat} {items : Array Value} {bs : List Addr} (h1 : it ∉ bs) (h2 : l ∉ bs) : Calm1 (fun h => h.IsTupleIter it l i ∧ h.IsTuple l items) bs :=
  fun b hb _ _ e p => ⟨p.1.extBut e fun q => h1 (by rw [q]; exact hb), p.2.extBut e fun q => h2 (by rw [q]; exact hb)⟩
theorem calm_lst {it l : Addr} {i : Nat} {items : Array Value} {bs : List Addr} (h1 : it ∉ bs) (h2 : l ∉ bs) : Calm1 (fun h => h.IsListIter it l i ∧ h.IsList l items) bs :=
  fun b hb _ _ e p => ⟨p.1.extBut e fun q => h1 (by rw [q]; exact hb), p.2.extBut e fun q => h2 (by rw [q]; exact hb)⟩
end
end Cl
set_option maxRecDepth 100000
set_option maxHeartbeats 4000000
/-! zip(a tuple, a list): made, walked -/
namespace Cl
open PySem PySem.Spec PyProof.Rows L2 RZ
open PySem.Sem (wp)
/-- the heap behind zip(l1, l2) -/
def zipM (h : Heap) (l1 l2 : Addr) : Heap :=
  ((((h.push { cls := .type "tuple_iterator", data := .fields #[.ref l1, .int 0 0] }).push { cls := .type "list_iterator", data := .fields #[.ref l2, .int 0 0] }).push
    { cls := .type "tuple", data := .seq #[.ref h.objs.size, .ref (h.objs.size + 1)] }).push { cls := .type "tuple", data := .seq #[.none, .none] }).push
      { cls := .type "zip", data := .fields #[.none, .bool false, .bool false, .ref (h.objs.size + 2), .ref (h.objs.size + 3)] }
theorem zipM_new (l1 l2 : Addr) (xs ys : Array Value) :
    Meets (Builtin.«zip.__new__» ⟨[.type "zip", .ref l1, .ref l2], []⟩) (fun _ R s => s.heap.IsTuple l1 xs ∧ s.heap.IsList l2 ys ∧ R (.ok (.ret (.ref (s.heap.objs.size + 4)))) { s with heap := zipM s.heap l1 l2 }) :=
  .of_wp fun prog w A R s h => by
    obtain ⟨hp, g, d, tk, os⟩ := s
    obtain ⟨hl1, hl2, h⟩ := h
    have hsub := sub_zip
    have q1 : Heap.IsTuple (Shared.heap ⟨hp, g, d, tk, os⟩) l1 xs := hl1
    have q2 : Heap.IsList (Shared.heap ⟨hp.push { cls := .type "tuple_iterator", data := .fields #[.ref l1, .int 0 0] }, g, d, tk, os⟩) l2 ys := Heap.IsList.push hl2 _
    have e : zipM hp l1 l2 = ((((hp.push { cls := .type "tuple_iterator", data := .fields #[.ref l1, .int 0 0] }).push { cls := .type "list_iterator", data := .fields #[.ref l2, .int 0 0] }).push
      { cls := .type "tuple", data := .seq #[.ref hp.objs.size, .ref (hp.objs.size + 1)] }).push { cls := .type "tuple", data := .seq #[.none, .none] }).push
        { cls := .type "zip", data := .fields #[.none, .bool false, .bool false, .ref (hp.objs.size + 2), .ref (hp.objs.size + 3)] } := rfl
    simp only [e] at h
    wp_walk using wpAny_pyIter_tuple q1, wpAny_pyIter_list q2
    simp only [Heap.size_push, Nat.add_assoc] at *
    exact ⟨_, rfl, h⟩
section
variable {prog : Program} {w : World} {A : Around} {E : Value → Shared → Prop} {s : Shared}
theorem call_zipM {l1 l2 : Addr} {xs ys : Array Value} {Q : Value → Shared → Prop} (hl1 : s.heap.IsTuple l1 xs) (hl2 : s.heap.IsList l2 ys)
    (h : ∀ h', IsZip h' (s.heap.objs.size + 4) (s.heap.objs.size + 2) (s.heap.objs.size + 3) .none → IsPair h' (s.heap.objs.size + 2) (.ref s.heap.objs.size) (.ref (s.heap.objs.size + 1)) →
      IsPair h' (s.heap.objs.size + 3) .none .none → h'.IsTupleIter s.heap.objs.size l1 0 → h'.IsListIter (s.heap.objs.size + 1) l2 0 → (∀ c o, s.heap.get? c = some o → h'.get? c = some o) → Q (.ref (s.heap.objs.size + 4)) { s with heap := h' }) :
    wpAny (model prog w) A (call (.type "zip") [.ref l1, .ref l2]) Q E s := by
  refine callType_new PySem.F.called_zip (by decide) (PySem.F.typeCall_zip_2 _ _) (PySem.F.newCall_zip_2 _ _) (fun obj => PySem.F.args_object_init_3 obj _ _) PySem.F.entry_zip_new (zipM_new l1 l2 xs ys) ⟨hl1, hl2, ?_⟩
  generalize en : s.heap.objs.size = n at h
  have old : ∀ c o, s.heap.get? c = some o → (zipM s.heap l1 l2).get? c = some o := fun c o q =>
    Heap.get?_push_of_some _ (Heap.get?_push_of_some _ (Heap.get?_push_of_some _ (Heap.get?_push_of_some _ (Heap.get?_push_of_some _ q))))
  have s0 : (zipM s.heap l1 l2).get? n = some { cls := .type "tuple_iterator", data := .fields #[.ref l1, .int 0 0] } := by
    rw [← en]
    exact Heap.get?_push_of_some _ (Heap.get?_push_of_some _ (Heap.get?_push_of_some _ (Heap.get?_push_of_some _ (Heap.get?_push_size _ rfl))))
  have at_ : ∀ {g : Heap} {o : Obj} {k : Nat}, g.objs.size = k → o.isFreed = false → (g.push o).get? k = some o := fun {g o k} e f => by
    rw [← e]
    exact Heap.get?_push_size _ f
  have s1 : (zipM s.heap l1 l2).get? (n + 1) = some { cls := .type "list_iterator", data := .fields #[.ref l2, .int 0 0] } :=
    Heap.get?_push_of_some _ (Heap.get?_push_of_some _ (Heap.get?_push_of_some _ (at_ (by rw [Heap.size_push, en]) rfl)))
  have s2 : (zipM s.heap l1 l2).get? (n + 2) = some { cls := .type "tuple", data := .seq #[.ref n, .ref (n + 1)] } := by
    rw [← en]
    exact Heap.get?_push_of_some _ (Heap.get?_push_of_some _ (at_ (by rw [Heap.size_push, Heap.size_push]) rfl))
  have s3 : (zipM s.heap l1 l2).get? (n + 3) = some { cls := .type "tuple", data := .seq #[.none, .none] } :=
    Heap.get?_push_of_some _ (at_ (by rw [Heap.size_push, Heap.size_push, Heap.size_push, en]) rfl)
  have s4 : (zipM s.heap l1 l2).get? (n + 4) = some { cls := .type "zip", data := .fields #[.none, .bool false, .bool false, .ref (n + 2), .ref (n + 3)] } := by
    rw [← en]
    exact at_ (by rw [Heap.size_push, Heap.size_push, Heap.size_push, Heap.size_push]) rfl
  rw [← en] at s4 ⊢
  rw [en] at s4 ⊢
  exact ⟨⟨_, s4, rfl⟩, h _ s4 s2 s3 ⟨_, s0, rfl, rfl⟩ ⟨_, s1, rfl, rfl⟩ old⟩
end
end Cl
set_option maxRecDepth 100000
set_option maxHeartbeats 4000000
/-! for a, b in zip(a tuple, a list), by the layer's judgements -/
namespace Cl
open PySem PySem.Spec PyProof.Rows L2 RZ
/-- the tuple at a, the list at b, turn by turn -/
def ItzM (K : PySem.W.Frag) (a b : Addr) : It where
  go := fun i H => ∃ (xs ys : List V) (x y : V), SqT K H a xs ∧ SqL K H b ys ∧ xs[i]? = some x ∧ ys[i]? = some y
  yld := fun i H v H' => ∃ T x y, v = .ref T ∧ H T = none ∧ H' = upd H T (.tup [x, y]) ∧ (∀ xs, SqT K H a xs → xs[i]? = some x) ∧ ∀ ys, SqL K H b ys → ys[i]? = some y
  stop := fun i H => ∃ xs ys : List V, SqT K H a xs ∧ SqL K H b ys ∧ (xs.length ≤ i ∨ ys.length ≤ i)
theorem mem5 {c z TI TO i1 i2 : Addr} (h : c ∈ [z, TI, TO, i1, i2]) : c = z ∨ c = TI ∨ c = TO ∨ c = i1 ∨ c = i2 := by simpa using h
theorem not5 {c z TI TO i1 i2 : Addr} (h : c ∉ [z, TI, TO, i1, i2]) : c ≠ z ∧ c ≠ TI ∧ c ≠ TO ∧ c ≠ i1 ∧ c ≠ i2 := by simpa using h
theorem apart5 (n : Nat) : Apart1 (n + 4) (n + 2) (n + 3) n (n + 1) :=
  ⟨Nat.ne_of_lt (by omega), Nat.ne_of_lt (by omega), Nat.ne_of_lt (by omega), Nat.ne_of_lt (by omega), Nat.ne_of_lt (by omega), Nat.ne_of_gt (by omega), Nat.ne_of_gt (by omega), Nat.ne_of_gt (by omega), Nat.ne_of_gt (by omega), Nat.ne_of_lt (by omega)⟩
theorem no5 {c n : Nat} (lt : c < n) : c ∉ [n + 4, n + 2, n + 3, n, n + 1] := by
  simp
  omega
theorem le5 {c n : Nat} (h : c ∈ [n + 4, n + 2, n + 3, n, n + 1]) : n ≤ c := by
  have h' : c = n + 4 ∨ c = n + 2 ∨ c = n + 3 ∨ c = n ∨ c = n + 1 := by simpa using h
  omega
theorem turn_zipM {P : Program} {w : World} {K : PySem.W.Frag} {elts : List Expr} {kk : Nat} {tpos : Pos} {a b z TI TO i1 i2 : Addr} (D : Apart1 z TI TO i1 i2) (ha : a ∉ [z, TI, TO, i1, i2]) (hb : b ∉ [z, TI, TO, i1, i2]) :
    Turn P w K (.Tuple elts kk tpos) (ItzM K a b) [z, TI, TO, i1, i2] z (fun i h => IsZip h z TI TO .none ∧ IsPair h TI (.ref i1) (.ref i2) ∧ (∃ x y, IsPair h TO x y) ∧ h.IsTupleIter i1 a i ∧ h.IsListIter i2 b i) where
  mem := by simp
  obj := fun i h st c hc => by
    obtain ⟨s1, s2, ⟨x, y, s3⟩, ⟨o1, e1, _, d1⟩, ⟨o2, e2, _, d2⟩⟩ := st
    rcases mem5 hc with rfl | rfl | rfl | rfl | rfl
    · exact ⟨_, s1, nofun⟩
    · exact ⟨_, s2, nofun⟩
    · exact ⟨_, s3, nofun⟩
    · exact ⟨o1, e1, by rw [d1]; exact nofun⟩
    · exact ⟨o2, e2, by rw [d2]; exact nofun⟩
  keep := fun i h h' st k => by
    obtain ⟨s1, s2, ⟨x, y, s3⟩, t1, t2⟩ := st
    exact ⟨k _ (by simp) _ s1, k _ (by simp) _ s2, ⟨x, y, k _ (by simp) _ s3⟩, t1.at (k _ (by simp)), t2.at (k _ (by simp))⟩
  item := by
    intro X hP hw hK hc i pins s σ H E I hf st hg
    subst hP hw hK
    obtain ⟨s1, s2, ⟨x0, y0, s3⟩, t1, t2⟩ := st
    obtain ⟨xs, ys, x, y, qx, qy, ex, ey⟩ := hg
    obtain ⟨its, rv, p, _⟩ := I.tuple qx
    obtain ⟨jts, rw', q, _⟩ := I.list qy
    obtain ⟨u, hu, ru⟩ := rv.get ex
    obtain ⟨v, hv, rv'⟩ := rw'.get ey
    have na := not5 ha
    have nb := not5 hb
    have c1 : Calm1 (fun h => h.IsTupleIter i1 a i ∧ h.IsTuple a its.toArray) [z] := calm_tup (by simp [D.a3]) (by simp [na.1])
    have c2 : Calm1 (fun h => h.IsListIter i2 b i ∧ h.IsList b jts.toArray) [z, i1, TO] := calm_lst (by simp [D.a4, D.b1.symm, D.a9.symm]) (by simp [nb.1, nb.2.2.1, nb.2.2.2.1])
    refine zg_item D s1 s2 s3 (P1 := fun h => h.IsTupleIter i1 a i ∧ h.IsTuple a its.toArray) (P2 := fun h => h.IsListIter i2 b i ∧ h.IsList b jts.toArray) ⟨t1, p⟩ ⟨t2, q.isList⟩
      (gives_tup (x := u) (by simpa using hu)) (gives_lst (x := v) (by simpa using hv)) c1 c2 fun h' z' O' r1 r2 pr hsz old => ?_
    obtain ⟨h1, r1, k1⟩ := r1
    obtain ⟨h2, r2, k2⟩ := r2
    have zl : z < s.heap.objs.size := Heap.lt_size s1
    refine ⟨_, rfl, wpAny_letOwnedTupleGo_zip (s := { s with heap := h' }) z' fun g zz sb => ?_⟩
    have sb' : ∀ c o, c ≠ z → h'.get? c = some o → g.get? c = some o := fun c o n e => (sb.2 c n).trans e
    have tup : g.get? s.heap.objs.size = some { cls := .type "tuple", data := .seq #[u, v] } := sb' _ _ (Nat.ne_of_gt zl) pr
    have new : ObjOk X.prog X.w (upd H s.heap.objs.size (.tup [x, y])) g s.heap.objs.size (.tup [x, y]) := ⟨by show 2 ≤ sizeLine; decide, [u, v], .cons ru (.cons rv' .nil), ⟨_, tup, rfl, _, rfl⟩⟩
    have J : Inv X pins σ (upd H s.heap.objs.size (.tup [x, y])) { s with heap := g } := I.turnedNew (t' := s.toks) (ch := [z, TI, TO, i1, i2]) (fun c o hn e => by
      have n := not5 hn
      exact sb' c o n.1 (old c o n.1 n.2.2.1 n.2.2.2.1 n.2.2.2.2 e)) hf (Nat.le_refl _) new
    refine ⟨.ref s.heap.objs.size, _, J, rfl, ⟨_, x, y, rfl, I.hok.fresh (Nat.le_refl _), rfl, fun l hl => by rw [I.tuple_inj hl qx]; exact ex, fun l hl => by rw [I.list_inj hl qy]; exact ey⟩, ⟨zz, ?_, ⟨u, v, sb' _ _ D.a2 O'⟩, ?_, ?_⟩, fun c hcm => ?_⟩
    · exact sb' _ _ D.a1 (old _ _ D.a1 D.a5 D.a6 D.a7 s2)
    · exact r1.at fun o e => sb' _ _ D.a3 (k1 _ _ D.a8.symm D.b1 D.a3 e)
    · exact r2.at fun o e => sb' _ _ D.a4 (k2 _ _ D.a9.symm D.a4 e)
    · have lt : c < s.heap.objs.size := by
        obtain ⟨_, e1, _⟩ := t1
        obtain ⟨_, e2, _⟩ := t2
        rcases mem5 hcm with e | e | e | e | e
        · rw [e]; exact zl
        · rw [e]; exact Heap.lt_size s2
        · rw [e]; exact Heap.lt_size s3
        · rw [e]; exact Heap.lt_size e1
        · rw [e]; exact Heap.lt_size e2
      rw [upd_ne (Nat.ne_of_lt lt)]
      exact (hf c hcm).1
  done := by
    intro X hP hw hK hc i pins s σ H E I hf st hg
    subst hP hw hK
    obtain ⟨s1, s2, ⟨x0, y0, s3⟩, t1, t2⟩ := st
    obtain ⟨xs, ys, qx, qy, hend⟩ := hg
    obtain ⟨its, rv, p, _⟩ := I.tuple qx
    obtain ⟨jts, rw', q, _⟩ := I.list qy
    have l1 := rv.length
    have l2 := rw'.length
    have na := not5 ha
    have nb := not5 hb
    have c1 : Calm1 (fun h => h.IsTupleIter i1 a i ∧ h.IsTuple a its.toArray) [z] := calm_tup (by simp [D.a3]) (by simp [na.1])
    have c2 : Calm1 (fun h => h.IsListIter i2 b i ∧ h.IsList b jts.toArray) [z, i1, TO] := calm_lst (by simp [D.a4, D.b1.symm, D.a9.symm]) (by simp [nb.1, nb.2.2.1, nb.2.2.2.1])
    have how : Ends1 X.prog X.w i1 (fun h => h.IsTupleIter i1 a i ∧ h.IsTuple a its.toArray) ∨ (∃ x, Gives1 X.prog X.w i1 (fun h => h.IsTupleIter i1 a i ∧ h.IsTuple a its.toArray) (fun h => h.IsTupleIter i1 a (i + 1)) x) ∧ Ends1 X.prog X.w i2 (fun h => h.IsListIter i2 b i ∧ h.IsList b jts.toArray) := by
      cases e : its.toArray[i]? with
      | none => exact .inl (ends_tup e)
      | some x =>
        refine .inr ⟨⟨x, gives_tup e⟩, ends_lst ?_⟩
        have lt : i < its.length := by
          have := (Array.getElem?_eq_some_iff.mp e).1
          simpa using this
        have : ys.length ≤ i := by omega
        simp
        omega
    exact zg_end (I.ok.hd hc) D s1 s2 s3 (P1 := fun h => h.IsTupleIter i1 a i ∧ h.IsTuple a its.toArray) (P2 := fun h => h.IsListIter i2 b i ∧ h.IsList b jts.toArray) ⟨t1, p⟩ ⟨t2, q.isList⟩ c1 c2 how fun h' old =>
      ⟨rfl, I.turnedL (t' := s.toks) (ch := [z, TI, TO, i1, i2]) (fun c o hn e => by
        have n := not5 hn
        exact old c o n.1 n.2.2.1 n.2.2.2.1 n.2.2.2.2 e) hf⟩
  self := fun A i s Q E st h => wpAny_pyIter_zip st.1 h
def iZipM (K : PySem.W.Frag) (ta : TA) : TI := fun σ H R => ta σ H fun vs H1 => ∃ a b xs ys, vs = [.ref a, .ref b] ∧ SqT K H1 a xs ∧ SqL K H1 b ys ∧ R (ItzM K a b) H1
theorem pi_zipM {X : Cx} {e e2 : Expr} {ta : TA} {p pos tpos : Pos} {elts : List Expr} {kk : Nat} (hg : Gl X "zip") (hm : X.mg "zip" = none) (ha : PA X [e, e2] ta)
    (hs : starEach [e, e2] X.env = (false, eval e X.env) :: starEach [e2] X.env := by rfl) (hpl : (backTo pos (starEach [e2] X.env)).any (·.1) = false := by rfl) :
    PI X (.Tuple elts kk tpos) (.Call (.Name "zip" p) [e, e2] [] pos) (iZipM X.K ta) := by
  refine ⟨fun pins s σ H R I h => ?_⟩
  refine Call_ (ld_blt I hg hm PyProof.Rows.boot_zip (PyProof.Rows.callWith_type1 (thn (ha.run pos pins s σ H _ I h) fun us s1 hh => ?_) hs hpl))
  obtain ⟨vs, H1, I1, r1, a, b, xs, ys, ex, qx, qy, q⟩ := hh
  subst ex
  cases r1 with
  | cons r rr =>
    cases rr with
    | cons r' rr =>
      cases rr
      cases r
      cases r'
      obtain ⟨its, rv, p1, _⟩ := I1.tuple qx
      obtain ⟨jts, rw', p2, _⟩ := I1.list qy
      refine call_zipM p1 p2.isList fun h' hz hI hO k1 k2 old => wpAny_pyIter_zip hz ?_
      have J : Inv X pins σ H1 { s1 with heap := h' } := I1.kept (t' := s1.toks) old
      have la : a < s1.heap.objs.size := p1.lt
      have lb : b < s1.heap.objs.size := p2.lt
      refine ⟨_, [s1.heap.objs.size + 4, s1.heap.objs.size + 2, s1.heap.objs.size + 3, s1.heap.objs.size, s1.heap.objs.size + 1], _, _, H1, rfl, J, turn_zipM (apart5 _) (no5 la) (no5 lb), ⟨hz, hI, ⟨_, _, hO⟩, k1, k2⟩, fun c hcm => ?_, q⟩
      have le : s1.heap.objs.size ≤ c := le5 hcm
      exact I1.fpOk le (I1.hok.fresh le)
section
variable {K : PySem.W.Frag} {a b : Addr} {xs ys : List V}
theorem walk_zipM {n : Nat} (h1 : n = xs.length) (h2 : n = ys.length) : Walk (ItzM K a b) n (fun H => SqT K H a xs ∧ SqL K H b ys) (YPair (fun i => xs[i]?) (fun i => ys[i]?)) := by
  refine ⟨fun i _ hi q => ⟨xs, ys, xs[i]'(by omega), ys[i]'(by omega), q.1, q.2, by simp [← h1, hi], by simp [← h2, hi]⟩, fun _ q => ⟨xs, ys, q.1, q.2, .inl (by omega)⟩, fun i H v H' _ q y => ?_⟩
  obtain ⟨T, x, z, e1, e2, e3, e4, e5⟩ := y
  exact ⟨T, x, z, e1, e2, e3, e4 xs q.1, e5 ys q.2⟩
theorem walk_zipT {n : Nat} (h1 : n = xs.length) (h2 : n = ys.length) : Walk (ItzT K a b) n (fun H => SqT K H a xs ∧ SqT K H b ys) (YPair (fun i => xs[i]?) (fun i => ys[i]?)) := by
  refine ⟨fun i _ hi q => ⟨xs, ys, xs[i]'(by omega), ys[i]'(by omega), q.1, q.2, by simp [← h1, hi], by simp [← h2, hi]⟩, fun _ q => ⟨xs, ys, q.1, q.2, .inl (by omega)⟩, fun i H v H' _ q y => ?_⟩
  obtain ⟨T, x, z, e1, e2, e3, e4, e5⟩ := y
  exact ⟨T, x, z, e1, e2, e3, e4 xs q.1, e5 ys q.2⟩
end
end Cl
set_option maxRecDepth 100000
set_option maxHeartbeats 4000000
/-! try: .. except C as n: .. except ..: .., where the first clause takes whatever comes -/
namespace Cl
open PySem PySem.Spec PyProof.Rows L2
/-- the first clause 'except x as n' takes every exception of the body -/
def wFst (K : PySem.W.Frag) (c : Value) (i : Nat) (ts : Addr → Value → Option Addr → TS) (D : Ends) : WX := fun cls d σ H =>
  PySem.W.exmOne K cls c = some true ∧ ∀ a, H a = none → ts a cls d { nx := fun τ G => D.nx (τ.set i none) G, rt := D.rt, bk := fun τ G => D.bk (τ.set i none) G, ct := fun τ G => D.ct (τ.set i none) G } (σ.set i (some (.ref a))) H
section
variable {X : Cx} {x n : Str} {c : Value} {i : Nat} {body suite : List Stmt} {b1 : Stmt} {np pos pos' : Pos} {more : List ExceptHandler} {tb : WX → TS} {ts : Addr → Value → Option Addr → TS}
/-- what a suite's end leaves, its name gone -/
theorem suite_end {pins : List (Addr × Obj)} {D : Ends} {a : Addr} {oe : Obj} {f : Flow} {s6 : Shared} (ok : X.Ok) (hN : X.N.Nodup) (hi : X.N[i]? = some n) (hln : X.env.kindOf n = some .local)
    (h : SP (X.suite a ((a, oe) :: (X.pn ++ pins))) [] { nx := fun τ G => D.nx (τ.set i none) G, rt := D.rt, bk := fun τ G => D.bk (τ.set i none) G, ct := fun τ G => D.ct (τ.set i none) G } f s6) :
    wpAny (model X.prog X.w) X.A (do bindName X.env n .none; unbindBehindTheSuite X.env n pos') (fun _ s7 => SP X pins D f s7) X.xe s6 := by
  cases f with
  | next =>
    obtain ⟨τ, G, S, q⟩ := h
    exact gone_ok (S.unsuite ok) hN hi hln fun _ J => ⟨_, _, J, q⟩
  | brk =>
    obtain ⟨τ, G, S, q⟩ := h
    exact gone_ok (S.unsuite ok) hN hi hln fun _ J => ⟨_, _, J, q⟩
  | cont =>
    obtain ⟨τ, G, S, q⟩ := h
    exact gone_ok (S.unsuite ok) hN hi hln fun _ J => ⟨_, _, J, q⟩
  | ret u =>
    obtain ⟨v, τ, G, S, r, q⟩ := h
    exact gone_ok (S.unsuite ok) hN hi hln fun _ J => ⟨_, _, _, J, r, q⟩
theorem body_end {pins : List (Addr × Obj)} {D : Ends} {xe : Value → Shared → Prop} {f : Flow} {s1 : Shared} (ok : X.Ok) (h : SP (X.tr (X.pn ++ pins) xe) [] D f s1) : SP X pins D f s1 := by
  cases f with
  | next =>
    obtain ⟨τ, G, J, q⟩ := h
    exact ⟨τ, G, J.ofTry ok, q⟩
  | brk =>
    obtain ⟨τ, G, J, q⟩ := h
    exact ⟨τ, G, J.ofTry ok, q⟩
  | cont =>
    obtain ⟨τ, G, J, q⟩ := h
    exact ⟨τ, G, J.ofTry ok, q⟩
  | ret u =>
    obtain ⟨v, τ, G, J, r, q⟩ := h
    exact ⟨v, τ, G, J.ofTry ok, r, q⟩
theorem ps_try_fst (hs : X.stack = X.env :: X.outer) (hf : X.env.frame = some X.env.locals) (hN : X.N.Nodup) (hi : X.N[i]? = some n) (hln : X.env.kindOf n = some .local) (hc : Names X x c)
    (hb : ∀ (W : WX) (pn : List (Addr × Obj)) (xe : Value → Shared → Prop), Takes (X.tr pn xe) W → PassesOwn (model X.prog X.w) X.A X.env xe → PSs (X.tr pn xe) body (tb W))
    (hsu : ∀ (a : Addr) (oe : Obj) (cls : Value) (d : Option Addr) (pn : List (Addr × Obj)), Zc cls d oe → (∃ vs, oe.data = .fields vs) → PSs (X.suite a ((a, oe) :: pn)) (b1 :: suite) (ts a cls d)) :
    PS X (.Try body (.ExceptHandler (some (.Name x np)) (some n) (b1 :: suite) pos' :: more) [] [] pos) (fun D σ H => tb (wFst X.K c i ts D) D σ H) := by
  refine ⟨fun pins s σ H D I h => ?_⟩
  have ok := I.ok
  have fr : X.A.frames = some (X.env :: X.outer) := by rw [ok.frames, hs]
  refine wpAny_Try_except ?_
  refine wpAny_mono ((hb (wFst X.K c i ts D) (X.pn ++ pins) _ (fun u s' xx => ?_) PassesOwn.looking).run [] s σ H D (I.toTry _) h) (fun f s1 hsp => ?_) (fun e s1 he => he)
  · obtain ⟨a, B, sI, pins', τ, G, cls, d, rfl, J', nb, up, sky, na, os, ag, hm, yes⟩ := xx
    have J : Inv X pins τ G sI := J'.ofTry ok
    rw [show X.stack = X.env :: X.outer from hs] at sky
    show wpAny (model X.prog X.w) X.A (noteFrame (.ref a) X.env) _ _ _
    refine Sky.land Zc.steady fr hf sky fun h3 fl3 up3 => ?_
    obtain ⟨o3, v3, e3, z3, d3⟩ := fl3.there
    have far : a ∉ frs (X.env :: X.outer) := fun hm => by
      obtain ⟨_, o, e, no⟩ := fl3.2.2.1.mem hm
      rw [e3] at e
      cases e
      exact no _ d3
    have nL : a ≠ X.env.locals := fun z => far (List.mem_filterMap.mpr ⟨X.env, List.mem_cons_self, by rw [hf, z]⟩)
    have nF : a ∉ X.fs := fun hm => far (by
      obtain ⟨e, he, q⟩ := List.mem_filterMap.mp hm
      exact List.mem_filterMap.mpr ⟨e, List.mem_cons_of_mem _ he, q⟩)
    have J3 : Inv X pins τ G { s' with heap := h3 } := J.landed nb fl3.1 (up.trans up3) os ag
    have S3 := J3.suite e3 d3 na nL nF
    refine wpAny_handleBy_cons (codeAny_handlers_test ?_) (by intro q; cases q)
    have LT : PySem.W.Looks (model X.prog X.w) h3 (typeOf (.ref a)) cls := fun A Q E s k q => wpAny_typeOf_ref (k _ _ e3) (by rw [z3.1]; exact q)
    have LM := PySem.W.exm_one (M := model X.prog X.w) (J3.kIn) LT hm
    have test : ∀ {Q : Value → Shared → Prop} {E : Value → Shared → Prop}, Q c { s' with heap := h3 } → wpAny (model X.prog X.w) (X.A.mark (some (.ref a))) (eval (.Name x np) X.env) Q E { s' with heap := h3 } := fun {Q E} q => by
      obtain ⟨hg, hdb, hm | ⟨hm, hv, hn⟩⟩ := hc
      · exact ld_glob (X := X.suite a ((a, o3) :: (X.pn ++ pins))) S3 hg hm q hdb
      · exact ld_blt (X := X.suite a ((a, o3) :: (X.pn ++ pins))) S3 hg hm hv q hn hdb
    refine test (LM.here (codeAny_handlers_suite_as (HandSPX.lands_againZ fl3 fun h4 fl4 up4 => ?_)))
    obtain ⟨o4, v4, e4, z4, d4⟩ := fl4.there
    have J4 : Inv X pins τ G { s' with heap := h4 } := J.landed nb fl4.1 ((up.trans up3).trans up4) os ag
    have S4 := J4.suite e4 d4 na nL nF
    refine store_ok (X := X.suite a ((a, o4) :: (X.pn ++ pins))) (v := .ref a) S4 hN hi (.inl hln) rfl (fun s5 S5 => ?_) (.inr hln)
    refine wpAny_mono ((hsu a o4 cls d (X.pn ++ pins) z4 ⟨_, d4⟩).run [] s5 _ G _ S5 (yes a na)) (fun f s6 hsp => ?_) (fun _ _ z => False.elim z)
    exact suite_end ok hN hi hln hsp
  · cases f with
    | next =>
      obtain ⟨τ, G, J, q⟩ := body_end ok hsp
      exact wpAny_execs_nil ⟨τ, G, J, q⟩
    | brk => exact body_end ok hsp
    | cont => exact body_end ok hsp
    | ret u => exact body_end ok hsp
end
end Cl
set_option maxRecDepth 100000
set_option maxHeartbeats 4000000
/-! the text by places; what is asked of the top. Printed by gen.py. -/
namespace Cl
open PySem PySem.Spec PyProof.Rows L2
def topS (i : Nat) : Stmt := PySem.Challenge.pw_cutlinked_k30_whole_parcels_seals_and_di.main.body.getD i (.Pass ⟨0, 0, 0, 0⟩)
abbrev s_is_row : Stmt := topS 27
abbrev s_check_row : Stmt := topS 28
abbrev s_is_sign : Stmt := topS 29
abbrev s_is_short_string : Stmt := topS 30
abbrev s_is_parcel_deep : Stmt := topS 31
abbrev s_is_parcel : Stmt := topS 32
abbrev s_whole : Stmt := topS 33
abbrev s_bytes_of : Stmt := topS 34
abbrev s_row_of : Stmt := topS 35
abbrev s_parcel_of : Stmt := topS 37
abbrev s_raw_mark : Stmt := topS 38
abbrev s_mark : Stmt := topS 39
abbrev s_seal_of : Stmt := topS 40
abbrev s_sealed : Stmt := topS 41
abbrev s_unsealed : Stmt := topS 42
abbrev s_is_integer : Stmt := topS 44
abbrev s_is_within : Stmt := topS 45
abbrev s_is_sized : Stmt := topS 46
abbrev s_is_listed : Stmt := topS 47
abbrev s_check_within : Stmt := topS 48
abbrev s_parcels_in : Stmt := topS 51
abbrev s_kept_parcels : Stmt := topS 52
abbrev s__law_hand : Stmt := topS 54
abbrev s__law_draw : Stmt := topS 55
abbrev s__law_is : Stmt := topS 56
abbrev s__law_deep : Stmt := topS 57
abbrev s__law_number : Stmt := topS 58
abbrev s__law_figures : Stmt := topS 59
abbrev s__law_row : Stmt := topS 60
abbrev s__law_mark : Stmt := topS 61
abbrev s__law_seal : Stmt := topS 62
abbrev s__law_sealed : Stmt := topS 63
abbrev s__law_read_whole : Stmt := topS 64
abbrev s__law_sign : Stmt := topS 65
abbrev s__law_read_text : Stmt := topS 66
abbrev s__law_read_parcel : Stmt := topS 67
abbrev s__law_read : Stmt := topS 68
abbrev s__law_parcel : Stmt := topS 69
abbrev s__law_nested : Stmt := topS 70
abbrev s__law_parcel_told : Stmt := topS 71
abbrev s__law_bent : Stmt := topS 72
abbrev s__law_are_rows : Stmt := topS 73
abbrev s__law_called : Stmt := topS 74
abbrev s__law_did : Stmt := topS 75
abbrev s__law_disk_deed : Stmt := topS 76
abbrev s__law_kept_due : Stmt := topS 77
abbrev s__law_is_disk : Stmt := topS 78
abbrev s_law : Stmt := topS 79
abbrev s_BadRow_init : Stmt := inClass (topS 5) 0
abbrev s_RowReader_init : Stmt := inClass (topS 36) 0
abbrev s_RowReader_next_byte : Stmt := inClass (topS 36) 1
abbrev s_RowReader_read_whole : Stmt := inClass (topS 36) 2
abbrev s_RowReader_read_string : Stmt := inClass (topS 36) 3
abbrev s_RowReader_read_several : Stmt := inClass (topS 36) 4
abbrev s_RowReader_read_parcel : Stmt := inClass (topS 36) 5
abbrev s_Disk_init : Stmt := inClass (topS 50) 0
abbrev s_Disk_write : Stmt := inClass (topS 50) 1
abbrev s_Disk_sync : Stmt := inClass (topS 50) 2
abbrev s_Disk_blocks : Stmt := inClass (topS 50) 3
abbrev s_Disk_synced : Stmt := inClass (topS 50) 4
abbrev s_Disk_cut : Stmt := inClass (topS 50) 5
abbrev s_Disk_drop : Stmt := inClass (topS 50) 6
abbrev s_Disk_copy : Stmt := inClass (topS 50) 7
abbrev N_is_row : List Str := ["thing", "byte"]
abbrev p_is_row : List Str := ["thing"]
theorem sc_is_row : FnScope N_is_row p_is_row (defScope s_is_row) := ⟨rfl, rfl, rfl, by decide +kernel, rfl, by decide +kernel, by decide +kernel⟩
abbrev N_check_row : List Str := ["thing"]
abbrev p_check_row : List Str := ["thing"]
theorem sc_check_row : FnScope N_check_row p_check_row (defScope s_check_row) := ⟨rfl, rfl, rfl, by decide +kernel, rfl, by decide +kernel, by decide +kernel⟩
abbrev N_is_sign : List Str := ["number"]
abbrev p_is_sign : List Str := ["number"]
theorem sc_is_sign : FnScope N_is_sign p_is_sign (defScope s_is_sign) := ⟨rfl, rfl, rfl, by decide +kernel, rfl, by decide +kernel, by decide +kernel⟩
abbrev N_is_short_string : List Str := ["thing", "sign"]
abbrev p_is_short_string : List Str := ["thing"]
theorem sc_is_short_string : FnScope N_is_short_string p_is_short_string (defScope s_is_short_string) := ⟨rfl, rfl, rfl, by decide +kernel, rfl, by decide +kernel, by decide +kernel⟩
abbrev N_is_parcel_deep : List Str := ["thing", "left", "item"]
abbrev p_is_parcel_deep : List Str := ["thing", "left"]
theorem sc_is_parcel_deep : FnScope N_is_parcel_deep p_is_parcel_deep (defScope s_is_parcel_deep) := ⟨rfl, rfl, rfl, by decide +kernel, rfl, by decide +kernel, by decide +kernel⟩
abbrev N_is_parcel : List Str := ["thing"]
abbrev p_is_parcel : List Str := ["thing"]
theorem sc_is_parcel : FnScope N_is_parcel p_is_parcel (defScope s_is_parcel) := ⟨rfl, rfl, rfl, by decide +kernel, rfl, by decide +kernel, by decide +kernel⟩
abbrev N_whole : List Str := ["number", "found"]
abbrev p_whole : List Str := ["number"]
theorem sc_whole : FnScope N_whole p_whole (defScope s_whole) := ⟨rfl, rfl, rfl, by decide +kernel, rfl, by decide +kernel, by decide +kernel⟩
abbrev N_bytes_of : List Str := ["parcel", "sign", "found", "item"]
abbrev p_bytes_of : List Str := ["parcel"]
theorem sc_bytes_of : FnScope N_bytes_of p_bytes_of (defScope s_bytes_of) := ⟨rfl, rfl, rfl, by decide +kernel, rfl, by decide +kernel, by decide +kernel⟩
abbrev N_row_of : List Str := ["parcel"]
abbrev p_row_of : List Str := ["parcel"]
theorem sc_row_of : FnScope N_row_of p_row_of (defScope s_row_of) := ⟨rfl, rfl, rfl, by decide +kernel, rfl, by decide +kernel, by decide +kernel⟩
abbrev N_parcel_of : List Str := ["row", "reader", "found"]
abbrev p_parcel_of : List Str := ["row"]
theorem sc_parcel_of : FnScope N_parcel_of p_parcel_of (defScope s_parcel_of) := ⟨rfl, rfl, rfl, by decide +kernel, rfl, by decide +kernel, by decide +kernel⟩
abbrev N_raw_mark : List Str := ["row", "found", "byte"]
abbrev p_raw_mark : List Str := ["row"]
theorem sc_raw_mark : FnScope N_raw_mark p_raw_mark (defScope s_raw_mark) := ⟨rfl, rfl, rfl, by decide +kernel, rfl, by decide +kernel, by decide +kernel⟩
abbrev N_mark : List Str := ["row"]
abbrev p_mark : List Str := ["row"]
theorem sc_mark : FnScope N_mark p_mark (defScope s_mark) := ⟨rfl, rfl, rfl, by decide +kernel, rfl, by decide +kernel, by decide +kernel⟩
abbrev N_seal_of : List Str := ["row", "number", "found", "turn"]
abbrev p_seal_of : List Str := ["row"]
theorem sc_seal_of : FnScope N_seal_of p_seal_of (defScope s_seal_of) := ⟨rfl, rfl, rfl, by decide +kernel, rfl, by decide +kernel, by decide +kernel⟩
abbrev N_sealed : List Str := ["parcel", "row"]
abbrev p_sealed : List Str := ["parcel"]
theorem sc_sealed : FnScope N_sealed p_sealed (defScope s_sealed) := ⟨rfl, rfl, rfl, by decide +kernel, rfl, by decide +kernel, by decide +kernel⟩
abbrev N_unsealed : List Str := ["row", "found"]
abbrev p_unsealed : List Str := ["row"]
theorem sc_unsealed : FnScope N_unsealed p_unsealed (defScope s_unsealed) := ⟨rfl, rfl, rfl, by decide +kernel, rfl, by decide +kernel, by decide +kernel⟩
abbrev N_is_integer : List Str := ["thing"]
abbrev p_is_integer : List Str := ["thing"]
theorem sc_is_integer : FnScope N_is_integer p_is_integer (defScope s_is_integer) := ⟨rfl, rfl, rfl, by decide +kernel, rfl, by decide +kernel, by decide +kernel⟩
abbrev N_is_within : List Str := ["thing", "least", "most"]
abbrev p_is_within : List Str := ["thing", "least", "most"]
theorem sc_is_within : FnScope N_is_within p_is_within (defScope s_is_within) := ⟨rfl, rfl, rfl, by decide +kernel, rfl, by decide +kernel, by decide +kernel⟩
abbrev N_is_sized : List Str := ["thing", "least", "most"]
abbrev p_is_sized : List Str := ["thing", "least", "most"]
theorem sc_is_sized : FnScope N_is_sized p_is_sized (defScope s_is_sized) := ⟨rfl, rfl, rfl, by decide +kernel, rfl, by decide +kernel, by decide +kernel⟩
abbrev N_is_listed : List Str := ["thing"]
abbrev p_is_listed : List Str := ["thing"]
theorem sc_is_listed : FnScope N_is_listed p_is_listed (defScope s_is_listed) := ⟨rfl, rfl, rfl, by decide +kernel, rfl, by decide +kernel, by decide +kernel⟩
abbrev N_check_within : List Str := ["thing", "least", "most"]
abbrev p_check_within : List Str := ["thing", "least", "most"]
theorem sc_check_within : FnScope N_check_within p_check_within (defScope s_check_within) := ⟨rfl, rfl, rfl, by decide +kernel, rfl, by decide +kernel, by decide +kernel⟩
abbrev N_parcels_in : List Str := ["blocks", "found", "row", "told"]
abbrev p_parcels_in : List Str := ["blocks"]
theorem sc_parcels_in : FnScope N_parcels_in p_parcels_in (defScope s_parcels_in) := ⟨rfl, rfl, rfl, by decide +kernel, rfl, by decide +kernel, by decide +kernel⟩
abbrev N_kept_parcels : List Str := ["blocks", "row"]
abbrev p_kept_parcels : List Str := ["blocks"]
theorem sc_kept_parcels : FnScope N_kept_parcels p_kept_parcels (defScope s_kept_parcels) := ⟨rfl, rfl, rfl, by decide +kernel, rfl, by decide +kernel, by decide +kernel⟩
abbrev N__law_hand : List Str := ["_law_script", "_law_cell"]
abbrev p__law_hand : List Str := ["_law_script"]
theorem sc__law_hand : FnScope N__law_hand p__law_hand (defScope s__law_hand) := ⟨rfl, rfl, rfl, by decide +kernel, rfl, by decide +kernel, by decide +kernel⟩
abbrev N__law_draw : List Str := ["_law_hand_here", "_law_many", "_law_cell", "_law_digit", "_law_number_here"]
abbrev p__law_draw : List Str := ["_law_hand_here", "_law_many"]
theorem sc__law_draw : FnScope N__law_draw p__law_draw (defScope s__law_draw) := ⟨rfl, rfl, rfl, by decide +kernel, rfl, by decide +kernel, by decide +kernel⟩
abbrev N__law_is : List Str := ["_law_told", "_law_due", "_law_one", "_law_two"]
abbrev p__law_is : List Str := ["_law_told", "_law_due"]
theorem sc__law_is : FnScope N__law_is p__law_is (defScope s__law_is) := ⟨rfl, rfl, rfl, by decide +kernel, rfl, by decide +kernel, by decide +kernel⟩
abbrev N__law_deep : List Str := ["_law_hand_here", "_law_found", "_law_turn"]
abbrev p__law_deep : List Str := ["_law_hand_here"]
theorem sc__law_deep : FnScope N__law_deep p__law_deep (defScope s__law_deep) := ⟨rfl, rfl, rfl, by decide +kernel, rfl, by decide +kernel, by decide +kernel⟩
abbrev N__law_number : List Str := ["_law_thing", "_law_least", "_law_most"]
abbrev p__law_number : List Str := ["_law_thing", "_law_least", "_law_most"]
theorem sc__law_number : FnScope N__law_number p__law_number (defScope s__law_number) := ⟨rfl, rfl, rfl, by decide +kernel, rfl, by decide +kernel, by decide +kernel⟩
abbrev N__law_figures : List Str := ["_law_number_here", "_law_found", "_law_left", "_law_turn"]
abbrev p__law_figures : List Str := ["_law_number_here"]
theorem sc__law_figures : FnScope N__law_figures p__law_figures (defScope s__law_figures) := ⟨rfl, rfl, rfl, by decide +kernel, rfl, by decide +kernel, by decide +kernel⟩
abbrev N__law_row : List Str := ["_law_parcel_here", "_law_sign_here", "_law_found", "_law_part"]
abbrev p__law_row : List Str := ["_law_parcel_here"]
theorem sc__law_row : FnScope N__law_row p__law_row (defScope s__law_row) := ⟨rfl, rfl, rfl, by decide +kernel, rfl, by decide +kernel, by decide +kernel⟩
abbrev N__law_mark : List Str := ["_law_row_here", "_law_found", "_law_byte"]
abbrev p__law_mark : List Str := ["_law_row_here"]
theorem sc__law_mark : FnScope N__law_mark p__law_mark (defScope s__law_mark) := ⟨rfl, rfl, rfl, by decide +kernel, rfl, by decide +kernel, by decide +kernel⟩
abbrev N__law_seal : List Str := ["_law_row_here", "_law_left", "_law_found", "_law_turn"]
abbrev p__law_seal : List Str := ["_law_row_here"]
theorem sc__law_seal : FnScope N__law_seal p__law_seal (defScope s__law_seal) := ⟨rfl, rfl, rfl, by decide +kernel, rfl, by decide +kernel, by decide +kernel⟩
abbrev N__law_sealed : List Str := ["_law_parcel_here", "_law_row_here"]
abbrev p__law_sealed : List Str := ["_law_parcel_here"]
theorem sc__law_sealed : FnScope N__law_sealed p__law_sealed (defScope s__law_sealed) := ⟨rfl, rfl, rfl, by decide +kernel, rfl, by decide +kernel, by decide +kernel⟩
abbrev N__law_read_whole : List Str := ["_law_row_here", "_law_at", "_law_found", "_law_power", "_law_place", "_law_byte"]
abbrev p__law_read_whole : List Str := ["_law_row_here", "_law_at"]
theorem sc__law_read_whole : FnScope N__law_read_whole p__law_read_whole (defScope s__law_read_whole) := ⟨rfl, rfl, rfl, by decide +kernel, rfl, by decide +kernel, by decide +kernel⟩
abbrev N__law_sign : List Str := ["_law_byte", "_law_signs"]
abbrev p__law_sign : List Str := ["_law_byte"]
theorem sc__law_sign : FnScope N__law_sign p__law_sign (defScope s__law_sign) := ⟨rfl, rfl, rfl, by decide +kernel, rfl, by decide +kernel, by decide +kernel⟩
abbrev N__law_read_text : List Str := ["_law_row_here", "_law_at", "_law_many", "_law_here", "_law_bad", "_law_signs", "_law_place"]
abbrev p__law_read_text : List Str := ["_law_row_here", "_law_at"]
theorem sc__law_read_text : FnScope N__law_read_text p__law_read_text (defScope s__law_read_text) := ⟨rfl, rfl, rfl, by decide +kernel, rfl, by decide +kernel, by decide +kernel⟩
abbrev N__law_read_parcel : List Str := ["_law_row_here", "_law_at", "_law_left", "_law_sort", "_law_many", "_law_here", "_law_bad", "_law_found", "_law_turn", "_law_part"]
abbrev p__law_read_parcel : List Str := ["_law_row_here", "_law_at", "_law_left"]
theorem sc__law_read_parcel : FnScope N__law_read_parcel p__law_read_parcel (defScope s__law_read_parcel) := ⟨rfl, rfl, rfl, by decide +kernel, rfl, by decide +kernel, by decide +kernel⟩
abbrev N__law_read : List Str := ["_law_row_here", "_law_parcel_here", "_law_here", "_law_bad"]
abbrev p__law_read : List Str := ["_law_row_here"]
theorem sc__law_read : FnScope N__law_read p__law_read (defScope s__law_read) := ⟨rfl, rfl, rfl, by decide +kernel, rfl, by decide +kernel, by decide +kernel⟩
abbrev N__law_parcel : List Str := ["_law_hand_here", "_law_left", "_law_kind", "_law_turn"]
abbrev p__law_parcel : List Str := ["_law_hand_here", "_law_left"]
theorem sc__law_parcel : FnScope N__law_parcel p__law_parcel (defScope s__law_parcel) := ⟨rfl, rfl, rfl, by decide +kernel, rfl, by decide +kernel, by decide +kernel⟩
abbrev N__law_nested : List Str := ["_law_deep_here", "_law_thing", "_law_found", "_law_turn"]
abbrev p__law_nested : List Str := ["_law_deep_here", "_law_thing"]
theorem sc__law_nested : FnScope N__law_nested p__law_nested (defScope s__law_nested) := ⟨rfl, rfl, rfl, by decide +kernel, rfl, by decide +kernel, by decide +kernel⟩
abbrev N__law_parcel_told : List Str := ["_law_row_here", "error"]
abbrev p__law_parcel_told : List Str := ["_law_row_here"]
theorem sc__law_parcel_told : FnScope N__law_parcel_told p__law_parcel_told (defScope s__law_parcel_told) := ⟨rfl, rfl, rfl, by decide +kernel, rfl, by decide +kernel, by decide +kernel⟩
abbrev N__law_bent : List Str := ["_law_hand_here", "_law_row_here", "_law_at", "_law_byte", "_law_some"]
abbrev p__law_bent : List Str := ["_law_hand_here", "_law_row_here"]
theorem sc__law_bent : FnScope N__law_bent p__law_bent (defScope s__law_bent) := ⟨rfl, rfl, rfl, by decide +kernel, rfl, by decide +kernel, by decide +kernel⟩
abbrev N__law_are_rows : List Str := ["_law_hand_here", "_law_parcel_here", "_law_row_here", "_law_due", "_law_turn"]
abbrev p__law_are_rows : List Str := ["_law_hand_here"]
theorem sc__law_are_rows : FnScope N__law_are_rows p__law_are_rows (defScope s__law_are_rows) := ⟨rfl, rfl, rfl, by decide +kernel, rfl, by decide +kernel, by decide +kernel⟩
abbrev N__law_called : List Str := ["_law_disk", "_law_deed"]
abbrev p__law_called : List Str := ["_law_disk", "_law_deed"]
theorem sc__law_called : FnScope N__law_called p__law_called (defScope s__law_called) := ⟨rfl, rfl, rfl, by decide +kernel, rfl, by decide +kernel, by decide +kernel⟩
abbrev N__law_did : List Str := ["_law_account", "_law_deed", "_law_lines", "_law_byte", "_law_found", "_law_waits", "_law_many", "_law_line"]
abbrev p__law_did : List Str := ["_law_account", "_law_deed"]
theorem sc__law_did : FnScope N__law_did p__law_did (defScope s__law_did) := ⟨rfl, rfl, rfl, by decide +kernel, rfl, by decide +kernel, by decide +kernel⟩
abbrev N__law_disk_deed : List Str := ["_law_hand_here", "_law_account", "_law_kind", "_law_many", "_law_kept", "_law_line", "_law_wrong"]
abbrev p__law_disk_deed : List Str := ["_law_hand_here", "_law_account"]
theorem sc__law_disk_deed : FnScope N__law_disk_deed p__law_disk_deed (defScope s__law_disk_deed) := ⟨rfl, rfl, rfl, by decide +kernel, rfl, by decide +kernel, by decide +kernel⟩
abbrev N__law_kept_due : List Str := ["_law_blocks", "_law_found", "_law_row_here"]
abbrev p__law_kept_due : List Str := ["_law_blocks"]
theorem sc__law_kept_due : FnScope N__law_kept_due p__law_kept_due (defScope s__law_kept_due) := ⟨rfl, rfl, rfl, by decide +kernel, rfl, by decide +kernel, by decide +kernel⟩
abbrev N__law_is_disk : List Str := ["_law_disk", "_law_account"]
abbrev p__law_is_disk : List Str := ["_law_disk", "_law_account"]
theorem sc__law_is_disk : FnScope N__law_is_disk p__law_is_disk (defScope s__law_is_disk) := ⟨rfl, rfl, rfl, by decide +kernel, rfl, by decide +kernel, by decide +kernel⟩
abbrev N_law : List Str := ["_law_script", "_law_hand_here", "_law_disk", "_law_account", "_law_other", "_law_twin", "_law_turn", "_law_deed"]
abbrev p_law : List Str := ["_law_script"]
theorem sc_law : FnScope N_law p_law (defScope s_law) := ⟨rfl, rfl, rfl, by decide +kernel, rfl, by decide +kernel, by decide +kernel⟩
abbrev N_BadRow_init : List Str := ["self", "place"]
abbrev p_BadRow_init : List Str := ["self", "place"]
theorem sc_BadRow_init : FnScope N_BadRow_init p_BadRow_init (defScope s_BadRow_init) := ⟨rfl, rfl, rfl, by decide +kernel, rfl, by decide +kernel, by decide +kernel⟩
abbrev N_RowReader_init : List Str := ["self", "row"]
abbrev p_RowReader_init : List Str := ["self", "row"]
theorem sc_RowReader_init : FnScope N_RowReader_init p_RowReader_init (defScope s_RowReader_init) := ⟨rfl, rfl, rfl, by decide +kernel, rfl, by decide +kernel, by decide +kernel⟩
abbrev N_RowReader_next_byte : List Str := ["self"]
abbrev p_RowReader_next_byte : List Str := ["self"]
theorem sc_RowReader_next_byte : FnScope N_RowReader_next_byte p_RowReader_next_byte (defScope s_RowReader_next_byte) := ⟨rfl, rfl, rfl, by decide +kernel, rfl, by decide +kernel, by decide +kernel⟩
abbrev N_RowReader_read_whole : List Str := ["self", "begin", "found", "worth", "byte"]
abbrev p_RowReader_read_whole : List Str := ["self"]
theorem sc_RowReader_read_whole : FnScope N_RowReader_read_whole p_RowReader_read_whole (defScope s_RowReader_read_whole) := ⟨rfl, rfl, rfl, by decide +kernel, rfl, by decide +kernel, by decide +kernel⟩
abbrev N_RowReader_read_string : List Str := ["self", "begin", "many", "found", "turn", "byte"]
abbrev p_RowReader_read_string : List Str := ["self"]
theorem sc_RowReader_read_string : FnScope N_RowReader_read_string p_RowReader_read_string (defScope s_RowReader_read_string) := ⟨rfl, rfl, rfl, by decide +kernel, rfl, by decide +kernel, by decide +kernel⟩
abbrev N_RowReader_read_several : List Str := ["self", "left", "many", "found"]
abbrev p_RowReader_read_several : List Str := ["self", "left"]
theorem sc_RowReader_read_several : FnScope N_RowReader_read_several p_RowReader_read_several (defScope s_RowReader_read_several) := ⟨rfl, rfl, rfl, by decide +kernel, rfl, by decide +kernel, by decide +kernel⟩
abbrev N_RowReader_read_parcel : List Str := ["self", "left", "begin", "sort"]
abbrev p_RowReader_read_parcel : List Str := ["self", "left"]
theorem sc_RowReader_read_parcel : FnScope N_RowReader_read_parcel p_RowReader_read_parcel (defScope s_RowReader_read_parcel) := ⟨rfl, rfl, rfl, by decide +kernel, rfl, by decide +kernel, by decide +kernel⟩
abbrev N_Disk_init : List Str := ["self"]
abbrev p_Disk_init : List Str := ["self"]
theorem sc_Disk_init : FnScope N_Disk_init p_Disk_init (defScope s_Disk_init) := ⟨rfl, rfl, rfl, by decide +kernel, rfl, by decide +kernel, by decide +kernel⟩
abbrev N_Disk_write : List Str := ["self", "row"]
abbrev p_Disk_write : List Str := ["self", "row"]
theorem sc_Disk_write : FnScope N_Disk_write p_Disk_write (defScope s_Disk_write) := ⟨rfl, rfl, rfl, by decide +kernel, rfl, by decide +kernel, by decide +kernel⟩
abbrev N_Disk_sync : List Str := ["self", "found"]
abbrev p_Disk_sync : List Str := ["self"]
theorem sc_Disk_sync : FnScope N_Disk_sync p_Disk_sync (defScope s_Disk_sync) := ⟨rfl, rfl, rfl, by decide +kernel, rfl, by decide +kernel, by decide +kernel⟩
abbrev N_Disk_blocks : List Str := ["self"]
abbrev p_Disk_blocks : List Str := ["self"]
theorem sc_Disk_blocks : FnScope N_Disk_blocks p_Disk_blocks (defScope s_Disk_blocks) := ⟨rfl, rfl, rfl, by decide +kernel, rfl, by decide +kernel, by decide +kernel⟩
abbrev N_Disk_synced : List Str := ["self"]
abbrev p_Disk_synced : List Str := ["self"]
theorem sc_Disk_synced : FnScope N_Disk_synced p_Disk_synced (defScope s_Disk_synced) := ⟨rfl, rfl, rfl, by decide +kernel, rfl, by decide +kernel, by decide +kernel⟩
abbrev N_Disk_cut : List Str := ["self", "kept", "waiting", "many", "row"]
abbrev p_Disk_cut : List Str := ["self", "kept"]
theorem sc_Disk_cut : FnScope N_Disk_cut p_Disk_cut (defScope s_Disk_cut) := ⟨rfl, rfl, rfl, by decide +kernel, rfl, by decide +kernel, by decide +kernel⟩
abbrev N_Disk_drop : List Str := ["self", "number"]
abbrev p_Disk_drop : List Str := ["self", "number"]
theorem sc_Disk_drop : FnScope N_Disk_drop p_Disk_drop (defScope s_Disk_drop) := ⟨rfl, rfl, rfl, by decide +kernel, rfl, by decide +kernel, by decide +kernel⟩
abbrev N_Disk_copy : List Str := ["self", "found"]
abbrev p_Disk_copy : List Str := ["self"]
theorem sc_Disk_copy : FnScope N_Disk_copy p_Disk_copy (defScope s_Disk_copy) := ⟨rfl, rfl, rfl, by decide +kernel, rfl, by decide +kernel, by decide +kernel⟩
abbrev S_SIGNS : Str := " !\"#$ &'()*+,-./0123456789:;<=>?@ABCDEFGHIJKLMNOPQRSTUVWXYZ[\\]^_`abcdefghijklmnopqrstuvwxyz{|}~"
/-- an own error class without own __init__ -/
structure ExcF (K : PySem.W.Frag) (mg : Str → Option Value) (x : Str) (C : Addr) : Prop where
  g : mg x = some (.ref C)
  q : PySem.W.excIn K C He.veBase "ValueError.__new__" = true
  k : PySem.W.keepIn K (.ref C) = true
  b : PySem.W.subIn K (.ref C) (.type "BaseException") = some true
  t : PySem.W.typeIn K (.ref C) = some (.type "type")
abbrev cc (K : PySem.W.Frag) (x : Str) : Addr := He.ga K x
abbrev GInt (mg : Str → Option Value) (x : Str) (i : Int) : Prop := ∃ u, mg x = some u ∧ RelV (.int i) u
structure Txt (K : PySem.W.Frag) (mg : Str → Option Value) : Prop where
  k_NOTHING : ∃ u, mg "NOTHING" = some u ∧ RelV (.int 0) u
  k_NO : ∃ u, mg "NO" = some u ∧ RelV (.int 1) u
  k_YES : ∃ u, mg "YES" = some u ∧ RelV (.int 2) u
  k_NUMBER : ∃ u, mg "NUMBER" = some u ∧ RelV (.int 3) u
  k_BELOW : ∃ u, mg "BELOW" = some u ∧ RelV (.int 4) u
  k_STRING : ∃ u, mg "STRING" = some u ∧ RelV (.int 5) u
  k_SEVERAL : ∃ u, mg "SEVERAL" = some u ∧ RelV (.int 6) u
  k_MOST_DEEP : ∃ u, mg "MOST_DEEP" = some u ∧ RelV (.int 20) u
  k_MOST_SIGNS : ∃ u, mg "MOST_SIGNS" = some u ∧ RelV (.int 20) u
  k_FIRST_SIGN : ∃ u, mg "FIRST_SIGN" = some u ∧ RelV (.int 32) u
  k_LAST_SIGN : ∃ u, mg "LAST_SIGN" = some u ∧ RelV (.int 126) u
  k_NO_SIGN : ∃ u, mg "NO_SIGN" = some u ∧ RelV (.int 37) u
  k_SIGNS : ∃ u, mg "SIGNS" = some u ∧ RelV (.str S_SIGNS) u
  k_BASE : ∃ u, mg "BASE" = some u ∧ RelV (.int 128) u
  k_BYTES : ∃ u, mg "BYTES" = some u ∧ RelV (.int 256) u
  k_MULTIPLIER : ∃ u, mg "MULTIPLIER" = some u ∧ RelV (.int 1000003) u
  k_MODULUS : ∃ u, mg "MODULUS" = some u ∧ RelV (.int 2305843009213693951) u
  k_SEAL_BYTES : ∃ u, mg "SEAL_BYTES" = some u ∧ RelV (.int 4) u
  b_isinstance : mg "isinstance" = none
  b_all : mg "all" = none
  b_len : mg "len" = none
  b_ord : mg "ord" = none
  b_min : mg "min" = none
  b_int : mg "int" = none
  b_tuple : mg "tuple" = none
  b_list : mg "list" = none
  b_range : mg "range" = none
  b_zip : mg "zip" = none
  b_bool : mg "bool" = none
  b_str : mg "str" = none
  e_NoNumber : ExcF K mg "NoNumber" (cc K "NoNumber")
  e_NoParcel : ExcF K mg "NoParcel" (cc K "NoParcel")
  e_NoRow : ExcF K mg "NoRow" (cc K "NoRow")
  e_NoCut : ExcF K mg "NoCut" (cc K "NoCut")
  e_NoBlocks : ExcF K mg "NoBlocks" (cc K "NoBlocks")
  g_BadRow : mg "BadRow" = some (.ref (cc K "BadRow"))
  g_ForestError : mg "ForestError" = some (.ref (cc K "ForestError"))
  oex : OexC K (cc K "BadRow")
  oexno : PySem.W.findIn K (.ref (cc K "BadRow")) "place" = some none
  oexi : ∀ fI, PySem.W.findIn K (.ref (cc K "BadRow")) "__init__" = some (some (.ref fI)) → PySem.W.typeIn K (.ref fI) = some (.type "function")
  xf : XfC K (cc K "BadRow")
  clR : Cls K (cc K "RowReader")
  noRow : NoAttr K (cc K "RowReader") "row"
  noAt : NoAttr K (cc K "RowReader") "at"
  clD : Cls K (cc K "Disk")
  noWr : NoAttr K (cc K "Disk") "written"
  noLa : NoAttr K (cc K "Disk") "lasting"
  m_BB : PySem.W.exmOne K (.ref (cc K "BadRow")) (.ref (cc K "BadRow")) = some true
  m_NoRow_NoRow : PySem.W.exmOne K (.ref (cc K "NoRow")) (.ref (cc K "NoRow")) = some true
  m_NoRow_NoCut : PySem.W.exmOne K (.ref (cc K "NoRow")) (.ref (cc K "NoCut")) = some false
  m_NoRow_NoNumber : PySem.W.exmOne K (.ref (cc K "NoRow")) (.ref (cc K "NoNumber")) = some false
  m_NoCut_NoRow : PySem.W.exmOne K (.ref (cc K "NoCut")) (.ref (cc K "NoRow")) = some false
  m_NoCut_NoCut : PySem.W.exmOne K (.ref (cc K "NoCut")) (.ref (cc K "NoCut")) = some true
  m_NoCut_NoNumber : PySem.W.exmOne K (.ref (cc K "NoCut")) (.ref (cc K "NoNumber")) = some false
  m_NoNumber_NoRow : PySem.W.exmOne K (.ref (cc K "NoNumber")) (.ref (cc K "NoRow")) = some false
  m_NoNumber_NoCut : PySem.W.exmOne K (.ref (cc K "NoNumber")) (.ref (cc K "NoCut")) = some false
  m_NoNumber_NoNumber : PySem.W.exmOne K (.ref (cc K "NoNumber")) (.ref (cc K "NoNumber")) = some true
/-! ### a def that the top has made, and its promise -/
structure Kn (P : Program) (w : World) (K : PySem.W.Frag) (mg : Str → Option Value) (base : Heap) (x : Str) (k : Nat) (ps : List Str) (sp : Sp) : Prop where
  ex : ∃ f fd, FnOk P w K mg base (L2.CX P w) k f fd ps sp ∧ mg x = some (.ref f) ∧ PySem.W.keepIn K (.ref f) = true ∧ Binds K fd ps []
/-- a method of the class at C -/
structure Km (P : Program) (w : World) (K : PySem.W.Frag) (mg : Str → Option Value) (base : Heap) (C : Addr) (m : Str) (k : Nat) (ps : List Str) (sp : Sp) : Prop where
  ex : ∃ f fd, FnOk P w K mg base (L2.CX P w) k f fd ps sp ∧ Meth K C m f ∧ Binds K fd ps []
/-- a class's __init__ -/
structure Ki (P : Program) (w : World) (K : PySem.W.Frag) (mg : Str → Option Value) (base : Heap) (x : Str) (C : Addr) (k : Nat) (ps : List Str) (sp : Sp) : Prop where
  ex : ∃ f fd, FnOk P w K mg base (L2.CX P w) k f fd ps sp ∧ Mk K C f ∧ mg x = some (.ref C) ∧ Binds K fd ps []
/-- an error's __init__ -/
structure Kx (P : Program) (w : World) (K : PySem.W.Frag) (mg : Str → Option Value) (base : Heap) (C : Addr) (k : Nat) (ps : List Str) (sp : Sp) : Prop where
  ex : ∃ f fd, FnOk P w K mg base (L2.CX P w) k f fd ps sp ∧ PySem.W.findIn K (.ref C) "__init__" = some (some (.ref f)) ∧ Binds K fd ps []
section
variable {X : Cx} {x m : Str} {C : Addr} {k j : Nat} {ps : List Str} {sp : Sp} {E : XK} {Es : L2.St → XK} {e o : Expr} {es : List Expr} {t : TA} {to : TE} {p pos apos : Pos} {W : WX}
theorem pgc {v : V} (h : ∃ u, X.mg x = some u ∧ RelV v u) (hg : Gl X x := by rfl) (hd : (x == ("__debug__" : Str)) = false := by decide) : PE X (.Name x pos) (tC v) := by
  obtain ⟨u, h1, h2⟩ := h
  exact pe_glob hg h1 h2 hd
theorem pc (c : Kn X.prog X.w X.K X.mg X.base x k ps sp) (hr : Room j X.A) (hk : k ≤ j) (hx : Passes (L2.CX X.prog X.w) X E) (ha : PA X (e :: es) t) (hg : Gl X x := by rfl) (hdb : (x == ("__debug__" : Str)) = false := by decide)
    (he : starEach (e :: es) X.env = (false, eval e X.env) :: starEach es X.env := by rfl) (hpl : (backTo pos (starEach es X.env)).any (·.1) = false := by rfl) : PE X (.Call (.Name x p) (e :: es) [] pos) (tCall sp [] E t) := by
  obtain ⟨f, fd, F, hm, hkp, hb⟩ := c.ex
  exact pe_call F (hr.mono hk) hg hm hkp hb .nil hx ha hdb he hpl
theorem pcS (c : Kn X.prog X.w X.K X.mg X.base x k ps sp) (hr : Room j X.A) (hk : k ≤ j) (hx : ∀ σ, PassesAt (L2.CX X.prog X.w) X σ (Es σ)) (ha : PA X (e :: es) t) (hg : Gl X x := by rfl) (hdb : (x == ("__debug__" : Str)) = false := by decide)
    (he : starEach (e :: es) X.env = (false, eval e X.env) :: starEach es X.env := by rfl) (hpl : (backTo pos (starEach es X.env)).any (·.1) = false := by rfl) : PE X (.Call (.Name x p) (e :: es) [] pos) (tCallS sp Es t) := by
  obtain ⟨f, fd, F, hm, hkp, hb⟩ := c.ex
  exact pe_callS F (hr.mono hk) hg hm hkp hb hx ha hdb he hpl
theorem pmk0 (c : Ki X.prog X.w X.K X.mg X.base x C k ps sp) (hr : Room j X.A) (hk : k + 1 ≤ j) (hx : Passes (L2.CX X.prog X.w) X E) (hg : Gl X x := by rfl) (hdb : (x == ("__debug__" : Str)) = false := by decide) : PE X (.Call (.Name x p) [] [] pos) (tMake C sp [] E tNil) := by
  obtain ⟨f, fd, F, M, hm, hb⟩ := c.ex
  exact pe_make0 M F (hr.mono hk) hg hm hb .nil hx hdb
theorem pmk1 (c : Ki X.prog X.w X.K X.mg X.base x C k ps sp) (hr : Room j X.A) (hk : k + 1 ≤ j) (hx : Passes (L2.CX X.prog X.w) X E) (ha : PA X (e :: es) t) (hg : Gl X x := by rfl) (hdb : (x == ("__debug__" : Str)) = false := by decide)
    (he : starEach (e :: es) X.env = (false, eval e X.env) :: starEach es X.env := by rfl) (hpl : (backTo pos (starEach es X.env)).any (·.1) = false := by rfl) : PE X (.Call (.Name x p) (e :: es) [] pos) (tMake C sp [] E t) := by
  obtain ⟨f, fd, F, M, hm, hb⟩ := c.ex
  exact pe_make M F (hr.mono hk) hg hm hb .nil hx ha hdb he hpl
theorem pm {pl : Sem Bool} (c : Km X.prog X.w X.K X.mg X.base C m k ps sp) (cl : Cls X.K C) (hr : Room j X.A) (hk : k ≤ j) (hx : Passes (L2.CX X.prog X.w) X E) (ho : PE X o to) (ha : PA X (e :: es) t)
    (hst : starEach (e :: es) X.env = (false, eval e X.env) :: starEach es X.env := by rfl) (hpl : (backTo pos (starEach es X.env)).any (·.1) = false := by rfl)
    (ht : eval (.Call (.Attribute o m apos) (e :: es) [] pos) X.env = (do
      let ov ← eval o X.env
      standAt apos.atName
      let (f, first) ← holding [ov] (getMethod ov m pl)
      callWith pos f first (backTo pos (starEach (e :: es) X.env)) (backToKw pos (keywordEach [] X.env))) := by rfl) : PE X (.Call (.Attribute o m apos) (e :: es) [] pos) (tMeth C m sp [] E to t) := by
  obtain ⟨f, fd, F, M, hb⟩ := c.ex
  exact pe_meth ho cl M F (hr.mono hk) hb .nil hx ha hst hpl ht
theorem pm0 {pl : Sem Bool} (c : Km X.prog X.w X.K X.mg X.base C m k ps sp) (cl : Cls X.K C) (hr : Room j X.A) (hk : k ≤ j) (hx : Passes (L2.CX X.prog X.w) X E) (ho : PE X o to)
    (ht : eval (.Call (.Attribute o m apos) [] [] pos) X.env = (do
      let ov ← eval o X.env
      standAt apos.atName
      let (f, first) ← holding [ov] (getMethod ov m pl)
      callWith pos f first (backTo pos (starEach [] X.env)) (backToKw pos (keywordEach [] X.env))) := by rfl) : PE X (.Call (.Attribute o m apos) [] [] pos) (tMeth C m sp [] E to tNil) := by
  obtain ⟨f, fd, F, M, hb⟩ := c.ex
  exact pe_meth0 ho cl M F (hr.mono hk) hb .nil hx ht
/-- within a try whose suites do not look at the slots -/
theorem passAll (tk : Takes X W) : Passes (L2.CX X.prog X.w) X (fun cls d H => ∀ σ, W cls d σ H) := passes_call tk fun _ _ σ _ h => h σ
/-- raise C() -/
theorem rz0 (c : ExcF X.K X.mg x C) (tk : Takes X W) (hc : X.calm = true := by rfl) (hg : Gl X x := by rfl) (hdb : (x == ("__debug__" : Str)) = false := by decide) :
    PS X (.Raise (some (.Call (.Name x p) [] [] pos)) none apos) (fun _ σ H => W (.ref C) none σ H) :=
  ps_raise hc tk (pmk_own0 PySem.F.excBase_ValueError c.q c.g c.k (raises_own c.b c.t) hg hdb)
/-- raise C(e), C with its own __init__ -/
theorem rz1 (c : Kx X.prog X.w X.K X.mg X.base C k ps sp) (T : OexC X.K C) (ti : ∀ fI, PySem.W.findIn X.K (.ref C) "__init__" = some (some (.ref fI)) → PySem.W.typeIn X.K (.ref fI) = some (.type "function")) (hr : Room j X.A) (hk : k + 1 ≤ j) (hm : X.mg x = some (.ref C)) (tk : Takes X W)
    (ha : PA X (e :: es) t) (hc : X.calm = true := by rfl) (hg : Gl X x := by rfl) (hdb : (x == ("__debug__" : Str)) = false := by decide)
    (he : starEach (e :: es) X.env = (false, eval e X.env) :: starEach es X.env := by rfl) (hpl : (backTo pos (starEach es X.env)).any (·.1) = false := by rfl) :
    PS X (.Raise (some (.Call (.Name x p) (e :: es) [] pos)) none apos) (fun _ σ H => tMkO C sp [] t σ H fun cls d H' => W cls d σ H') := by
  obtain ⟨f, fd, F, i, hb⟩ := c.ex
  exact ps_raise hc tk (pmk_oex T i (ti f i) F (hr.mono hk) hb .nil passL hg hm ha hdb he hpl)
end

end Cl
set_option maxRecDepth 100000
set_option maxHeartbeats 4000000
/-! the plain law: parcels, byte rows, reading, marks -/
namespace Cl
open PySem PySem.Spec PyProof.Rows L2
/-- data: none, flags, integers, texts by their codes, tuples, lists -/
inductive D where
  | non | bl (b : Bool) | int (i : Int) | str (s : List Nat) | tup (xs : List D) | lst (xs : List D)
mutual
/-- how deep tuples and lists are nested -/
def dep : D → Nat
  | .tup xs => deps xs + 1
  | .lst xs => deps xs + 1
  | _ => 0
def deps : List D → Nat
  | [] => 0
  | x :: xs => max (dep x) (deps xs)
end
/-- a sign of a parcel -/
def sgn (c : Nat) : Bool := decide (32 ≤ c) && (decide (c ≤ 126) && decide (c ≠ 37))
def vstr (s : List Nat) : Bool := decide (1 ≤ s.length) && (decide (s.length ≤ 20) && s.all sgn)
mutual
/-- a parcel but for its depth -/
def vd : D → Bool
  | .str s => vstr s
  | .tup xs => vds xs
  | .lst _ => false
  | _ => true
def vds : List D → Bool
  | [] => true
  | x :: xs => vd x && vds xs
end
/-- the bytes of a whole -/
def figs (n : Nat) : List Nat := if n < 128 then [n] else (128 + n % 128) :: figs (n / 128)
termination_by n
decreasing_by omega
mutual
/-- the byte row of a parcel -/
def wr : D → List Nat
  | .non => [0]
  | .bl b => [if b then 2 else 1]
  | .int i => if i < 0 then 4 :: figs (-1 - i).toNat else 3 :: figs i.toNat
  | .str s => 5 :: (figs s.length ++ s)
  | .tup xs => 6 :: (figs xs.length ++ wrs xs)
  | .lst _ => []
def wrs : List D → List Nat
  | [] => []
  | x :: xs => wr x ++ wrs xs
end
/-! ### reading -/
/-- value, how many bytes, the last byte -/
def wl : List Nat → Option (Nat × Nat × Nat)
  | [] => none
  | b :: t => if b < 128 then some (b, 1, b) else match wl t with
    | none => none
    | some (v, k, l) => some (b % 128 + 128 * v, k + 1, l)
def rdW (r : List Nat) (p : Nat) : Option (Nat × Nat) := match wl (r.drop p) with
  | none => none
  | some (v, k, l) => if l = 0 ∧ 1 < k then none else some (v, p + k)
def rdC (r : List Nat) : Nat → Nat → Except Nat (List Nat)
  | 0, _ => .ok []
  | n + 1, p => match r[p]? with
    | none => .error r.length
    | some c => if sgn c = true then (match rdC r n (p + 1) with
      | .error e => .error e
      | .ok s => .ok (c :: s)) else .error p
def rdS (r : List Nat) (p : Nat) : Except Nat (D × Nat) := match rdW r p with
  | none => .error p
  | some (m, q) => if 1 ≤ m ∧ m ≤ 20 then (match rdC r m q with
    | .error e => .error e
    | .ok s => .ok (.str s, q + m)) else .error p
def rdI (f : Nat → Except Nat (D × Nat)) : Nat → Nat → Except Nat (List D × Nat)
  | 0, p => .ok ([], p)
  | n + 1, p => match f p with
    | .error e => .error e
    | .ok (d, q) => match rdI f n q with
      | .error e => .error e
      | .ok (ds, z) => .ok (d :: ds, z)
def rdT (r : List Nat) (f : Nat → Except Nat (D × Nat)) (p : Nat) : Except Nat (D × Nat) := match rdW r p with
  | none => .error p
  | some (m, q) => match rdI f m q with
    | .error e => .error e
    | .ok (ds, z) => .ok (.tup ds, z)
def rdN (r : List Nat) (p : Nat) (deep : Except Nat (D × Nat)) : Except Nat (D × Nat) := match r[p]? with
  | none => .error r.length
  | some s => if s = 0 then .ok (.non, p + 1) else if s = 1 then .ok (.bl false, p + 1) else if s = 2 then .ok (.bl true, p + 1)
    else if s = 3 then (match rdW r (p + 1) with
      | none => .error (p + 1)
      | some (m, q) => .ok (.int m, q))
    else if s = 4 then (match rdW r (p + 1) with
      | none => .error (p + 1)
      | some (m, q) => .ok (.int (-1 - (m : Int)), q))
    else if s = 5 then rdS r (p + 1) else if s = 6 then deep else .error p
def rdP (r : List Nat) : Nat → Nat → Except Nat (D × Nat)
  | 0, p => rdN r p (.error p)
  | l + 1, p => rdN r p (rdT r (rdP r l) (p + 1))
def rd (r : List Nat) : Except Nat D := match rdP r 20 0 with
  | .error e => .error e
  | .ok (d, q) => if q = r.length then .ok d else .error q
/-! ### marks, seals -/
def mkStep (f b : Nat) : Nat := (f * 1000003 + b + 1) % 2305843009213693951
def mk (r : List Nat) : Nat := r.foldl mkStep 1
def sl (r : List Nat) : List Nat := [mk r % 256, mk r / 256 % 256, mk r / 256 / 256 % 256, mk r / 256 / 256 / 256 % 256]
/-- the tuple that unsealed hands back -/
def un (r : List Nat) : List D := if r.length < 4 ∨ sl (r.take (r.length - 4)) ≠ r.drop (r.length - 4) then [] else match rd (r.take (r.length - 4)) with
  | .error _ => []
  | .ok d => [d]
def kp : List (List Nat) → List D
  | [] => []
  | r :: rs => match un r with
    | [] => []
    | d :: _ => d :: kp rs
/-- all are bytes -/
def byt (r : List Nat) : Prop := ∀ b ∈ r, b < 256

/-! ### facts of writing -/
theorem figs_small {n : Nat} (h : n < 128) : figs n = [n] := by
  unfold figs
  rw [if_pos h]
theorem figs_big {n : Nat} (h : ¬ n < 128) : figs n = (128 + n % 128) :: figs (n / 128) := by
  rw [figs, if_neg h]
theorem figs_byt (n : Nat) : byt (figs n) := by
  induction n using Nat.strongRecOn with
  | _ n ih =>
    by_cases h : n < 128
    · rw [figs_small h]
      intro b hb
      have : b = n := by simpa using hb
      omega
    · rw [figs_big h]
      intro b hb
      rcases List.mem_cons.mp hb with e | hb
      · omega
      · exact ih (n / 128) (by omega) b hb
theorem figs_pos (n : Nat) : 1 ≤ (figs n).length := by
  by_cases h : n < 128
  · rw [figs_small h]
    exact Nat.le_refl _
  · rw [figs_big h, List.length_cons]
    omega
/-- the length of a whole's bytes -/
theorem figs_len : ∀ (k n : Nat), n < 128 ^ (k + 1) → (figs n).length ≤ k + 1
  | 0, n, h => by
    rw [figs_small (by simpa using h)]
    exact Nat.le_refl _
  | k + 1, n, h => by
    by_cases h1 : n < 128
    · rw [figs_small h1]
      simp
    · rw [figs_big h1, List.length_cons]
      have : n / 128 < 128 ^ (k + 1) := by
        rw [Nat.div_lt_iff_lt_mul (by decide)]
        rw [Nat.pow_succ] at h
        exact h
      have := figs_len k (n / 128) this
      omega
theorem vstr_mem {s : List Nat} (h : vstr s = true) : 1 ≤ s.length ∧ s.length ≤ 20 ∧ ∀ c ∈ s, sgn c = true := by
  unfold vstr at h
  simp only [Bool.and_eq_true, decide_eq_true_eq, List.all_eq_true] at h
  exact ⟨h.1, h.2.1, h.2.2⟩
theorem sgn_lt {c : Nat} (h : sgn c = true) : 32 ≤ c ∧ c ≤ 126 ∧ c ≠ 37 := by
  unfold sgn at h
  simp only [Bool.and_eq_true, decide_eq_true_eq] at h
  exact ⟨h.1, h.2.1, h.2.2⟩
theorem byt_app {a b : List Nat} (h1 : byt a) (h2 : byt b) : byt (a ++ b) := fun x hx => (List.mem_append.mp hx).elim (h1 x) (h2 x)
theorem byt_cons {a : Nat} {b : List Nat} (h1 : a < 256) (h2 : byt b) : byt (a :: b) := fun x hx => by
  rcases List.mem_cons.mp hx with e | h
  · omega
  · exact h2 x h
mutual
theorem wr_byt : ∀ d : D, vd d = true → byt (wr d)
  | .non, _ => by intro b hb; simp [wr] at hb; omega
  | .bl b, _ => by
    intro x hx
    cases b <;> simp [wr] at hx <;> omega
  | .int i, _ => by
    unfold wr
    split
    · exact byt_cons (by decide) (figs_byt _)
    · exact byt_cons (by decide) (figs_byt _)
  | .str s, h => by
    unfold wr
    refine byt_cons (by decide) (byt_app (figs_byt _) fun c hc => ?_)
    have := sgn_lt ((vstr_mem h).2.2 c hc)
    omega
  | .tup xs, h => by
    unfold wr
    exact byt_cons (by decide) (byt_app (figs_byt _) (wrs_byt xs h))
  | .lst xs, h => by cases h
theorem wrs_byt : ∀ ds : List D, vds ds = true → byt (wrs ds)
  | [], _ => by intro b hb; simp [wrs] at hb
  | x :: xs, h => by
    have h' := Bool.and_eq_true_iff.mp (show (vd x && vds xs) = true from h)
    unfold wrs
    exact byt_app (wr_byt x h'.1) (wrs_byt xs h'.2)
end
theorem wr_pos : ∀ d : D, vd d = true → 1 ≤ (wr d).length
  | .non, _ => by simp [wr]
  | .bl b, _ => by simp [wr]
  | .int i, _ => by
    unfold wr
    split <;> simp
  | .str s, h => by
    unfold wr
    simp
  | .tup xs, h => by
    unfold wr
    simp
  | .lst xs, h => by cases h
/-! ### reading back -/
theorem wl_figs (n : Nat) (t : List Nat) : ∃ l, wl (figs n ++ t) = some (n, (figs n).length, l) ∧ (l = 0 → (figs n).length = 1) ∧ l < 128 := by
  induction n using Nat.strongRecOn with
  | _ n ih =>
    by_cases h : n < 128
    · rw [figs_small h]
      refine ⟨n, ?_, fun _ => rfl, h⟩
      show (if n < 128 then some (n, 1, n) else _) = _
      rw [if_pos h]
      rfl
    · obtain ⟨l, e, h0, h1⟩ := ih (n / 128) (by omega)
      rw [figs_big h]
      refine ⟨l, ?_, fun q => ?_, h1⟩
      · show (if 128 + n % 128 < 128 then _ else match wl (figs (n / 128) ++ t) with | none => none | some (v, k, l) => some ((128 + n % 128) % 128 + 128 * v, k + 1, l)) = _
        rw [if_neg (by omega), e]
        show some ((128 + n % 128) % 128 + 128 * (n / 128), (figs (n / 128)).length + 1, l) = _
        have e1 : (128 + n % 128) % 128 + 128 * (n / 128) = n := by omega
        rw [e1]
        rfl
      · -- the last figure of n / 128 is 0 only if n / 128 = 0
        exfalso
        have e2 := h0 q
        have e3 : figs (n / 128) = [n / 128] := by
          by_cases h2 : n / 128 < 128
          · exact figs_small h2
          · rw [figs_big h2, List.length_cons] at e2
            have := figs_pos (n / 128 / 128)
            omega
        rw [e3] at e
        have h2 : n / 128 < 128 := by
          by_cases h2 : n / 128 < 128
          · exact h2
          · rw [figs_big h2] at e3
            have e5 := congrArg List.length e3
            simp only [List.length_cons, List.length_nil] at e5
            have := figs_pos (n / 128 / 128)
            omega
        have e4 : wl ([n / 128] ++ t) = some (n / 128, 1, n / 128) := by
          show (if n / 128 < 128 then some (n / 128, 1, n / 128) else _) = _
          rw [if_pos h2]
        rw [e4] at e
        have : n / 128 = l := by
          injection e with e
          injection e with _ e
          injection e
        omega
theorem rdW_figs {r : List Nat} {p n : Nat} {t : List Nat} (h : r.drop p = figs n ++ t) : rdW r p = some (n, p + (figs n).length) := by
  obtain ⟨l, e, h0, _⟩ := wl_figs n t
  unfold rdW
  rw [h, e]
  show (if l = 0 ∧ 1 < (figs n).length then none else some (n, p + (figs n).length)) = _
  rw [if_neg]
  rintro ⟨q1, q2⟩
  rw [h0 q1] at q2
  omega
theorem rdC_app {r : List Nat} : ∀ (s : List Nat) (p : Nat) (t : List Nat), r.drop p = s ++ t → (∀ c ∈ s, sgn c = true) → rdC r s.length p = .ok s
  | [], _, _, _, _ => rfl
  | c :: s, p, t, h, hs => by
    have e : r[p]? = some c := by
      have : (r.drop p)[0]? = some c := by rw [h]; rfl
      rw [List.getElem?_drop] at this
      simpa using this
    have e2 : r.drop (p + 1) = s ++ t := by
      have : (r.drop p).drop 1 = s ++ t := by rw [h]; rfl
      rw [List.drop_drop] at this
      exact this
    show (match r[p]? with | none => _ | some c => _) = _
    rw [e]
    show (if sgn c = true then _ else _) = _
    rw [if_pos (hs c List.mem_cons_self), rdC_app s (p + 1) t e2 fun x hx => hs x (List.mem_cons_of_mem _ hx)]
theorem at_drop {r : List Nat} {p b : Nat} {t : List Nat} (h : r.drop p = b :: t) : r[p]? = some b ∧ r.drop (p + 1) = t := by
  constructor
  · have : (r.drop p)[0]? = some b := by rw [h]; rfl
    rw [List.getElem?_drop] at this
    simpa using this
  · have : (r.drop p).drop 1 = t := by rw [h]; rfl
    rw [List.drop_drop] at this
    exact this
theorem drop_app {r a t : List Nat} {p : Nat} (h : r.drop p = a ++ t) : r.drop (p + a.length) = t := by
  rw [← List.drop_drop, h, List.drop_left]
mutual
/-- a parcel's byte row is read as it, if there is room for its depth; else it is none -/
theorem rdP_wr (r : List Nat) : ∀ (d : D) (l p : Nat) (t : List Nat), vd d = true → r.drop p = wr d ++ t →
    (dep d ≤ l → rdP r l p = .ok (d, p + (wr d).length)) ∧ (¬ dep d ≤ l → ∃ e, rdP r l p = .error e)
  | .non, l, p, t, _, h => by
    obtain ⟨h1, h2⟩ := at_drop (show r.drop p = 0 :: t from h)
    refine ⟨fun _ => ?_, fun q => absurd (Nat.zero_le _) q⟩
    cases l <;> (unfold rdP rdN; rw [h1]; rfl)
  | .bl b, l, p, t, _, h => by
    refine ⟨fun _ => ?_, fun q => absurd (Nat.zero_le _) q⟩
    cases b with
    | false =>
      obtain ⟨h1, h2⟩ := at_drop (show r.drop p = 1 :: t from h)
      cases l <;> (unfold rdP rdN; rw [h1]; rfl)
    | true =>
      obtain ⟨h1, h2⟩ := at_drop (show r.drop p = 2 :: t from h)
      cases l <;> (unfold rdP rdN; rw [h1]; rfl)
  | .int i, l, p, t, _, h => by
    refine ⟨fun _ => ?_, fun q => absurd (Nat.zero_le _) q⟩
    by_cases hi : i < 0
    · have e : wr (.int i) = 4 :: figs (-1 - i).toNat := by
        unfold wr
        rw [if_pos hi]
      rw [e] at h ⊢
      obtain ⟨h1, h2⟩ := at_drop (show r.drop p = 4 :: (figs (-1 - i).toNat ++ t) from h)
      have e2 := rdW_figs h2
      have e3 : (-1 - (((-1 - i).toNat : Nat) : Int)) = i := by omega
      cases l <;> (unfold rdP rdN; rw [h1]; simp only [e2]; simp [e3]; omega)
    · have e : wr (.int i) = 3 :: figs i.toNat := by
        unfold wr
        rw [if_neg hi]
      rw [e] at h ⊢
      obtain ⟨h1, h2⟩ := at_drop (show r.drop p = 3 :: (figs i.toNat ++ t) from h)
      have e2 := rdW_figs h2
      have e3 : (((i.toNat : Nat) : Int)) = i := by omega
      cases l <;> (unfold rdP rdN; rw [h1]; simp only [e2]; simp [e3]; omega)
  | .str s, l, p, t, hv, h => by
    refine ⟨fun _ => ?_, fun q => absurd (Nat.zero_le _) q⟩
    obtain ⟨v1, v2, v3⟩ := vstr_mem hv
    have e : wr (.str s) = 5 :: (figs s.length ++ s) := rfl
    rw [e] at h ⊢
    obtain ⟨h1, h2⟩ := at_drop (show r.drop p = 5 :: (figs s.length ++ s ++ t) from h)
    rw [List.append_assoc] at h2
    have e2 := rdW_figs h2
    have e3 := rdC_app s _ t (drop_app h2) v3
    have e4 : rdS r (p + 1) = .ok (.str s, p + 1 + (figs s.length).length + s.length) := by
      unfold rdS
      rw [e2]
      show (if 1 ≤ s.length ∧ s.length ≤ 20 then _ else _) = _
      rw [if_pos ⟨v1, v2⟩, e3]
    have e5 : p + 1 + (figs s.length).length + s.length = p + (5 :: (figs s.length ++ s)).length := by
      rw [List.length_cons, List.length_append]
      omega
    rw [e5] at e4
    cases l <;> (unfold rdP rdN; rw [h1]; simp only [e4]; rfl)
  | .tup xs, 0, p, t, hv, h => by
    refine ⟨fun q => absurd q (by unfold dep; omega), fun _ => ⟨p, ?_⟩⟩
    obtain ⟨h1, h2⟩ := at_drop (show r.drop p = 6 :: (figs xs.length ++ wrs xs ++ t) from h)
    unfold rdP rdN
    rw [h1]
    rfl
  | .tup xs, l + 1, p, t, hv, h => by
    obtain ⟨h1, h2⟩ := at_drop (show r.drop p = 6 :: (figs xs.length ++ wrs xs ++ t) from h)
    rw [List.append_assoc] at h2
    have e2 := rdW_figs h2
    obtain ⟨i1, i2⟩ := rdI_wrs r xs l (p + 1 + (figs xs.length).length) t hv (drop_app h2)
    have e6 : rdP r (l + 1) p = rdT r (rdP r l) (p + 1) := by
      show rdN r p (rdT r (rdP r l) (p + 1)) = _
      unfold rdN
      rw [h1]
      rfl
    rw [e6]
    unfold rdT
    rw [e2]
    refine ⟨fun q => ?_, fun q => ?_⟩
    · have q' : deps xs ≤ l := by
        unfold dep at q
        omega
      dsimp only
      rw [i1 q']
      dsimp only
      have : (wr (.tup xs)).length = 1 + ((figs xs.length).length + (wrs xs).length) := by
        show (6 :: (figs xs.length ++ wrs xs)).length = _
        rw [List.length_cons, List.length_append]
        omega
      rw [this]
      congr 2
      omega
    · have q' : ¬ deps xs ≤ l := by
        unfold dep at q
        omega
      obtain ⟨e, he⟩ := i2 q'
      refine ⟨e, ?_⟩
      dsimp only
      rw [he]
  | .lst xs, l, p, t, hv, h => by cases hv
theorem rdI_wrs (r : List Nat) : ∀ (ds : List D) (l p : Nat) (t : List Nat), vds ds = true → r.drop p = wrs ds ++ t →
    (deps ds ≤ l → rdI (rdP r l) ds.length p = .ok (ds, p + (wrs ds).length)) ∧ (¬ deps ds ≤ l → ∃ e, rdI (rdP r l) ds.length p = .error e)
  | [], l, p, t, _, h => ⟨fun _ => rfl, fun q => absurd (Nat.zero_le _) q⟩
  | d :: ds, l, p, t, hv, h => by
    have hv' := Bool.and_eq_true_iff.mp (show (vd d && vds ds) = true from hv)
    have e0 : wrs (d :: ds) = wr d ++ wrs ds := rfl
    rw [e0, List.append_assoc] at h
    obtain ⟨a1, a2⟩ := rdP_wr r d l p (wrs ds ++ t) hv'.1 h
    obtain ⟨b1, b2⟩ := rdI_wrs r ds l (p + (wr d).length) t hv'.2 (drop_app h)
    have ed : deps (d :: ds) = max (dep d) (deps ds) := rfl
    have step : rdI (rdP r l) (d :: ds).length p = (match rdP r l p with
      | .error e => .error e
      | .ok (d, q) => match rdI (rdP r l) ds.length q with
        | .error e => .error e
        | .ok (ds, z) => .ok (d :: ds, z)) := rfl
    rw [step]
    by_cases hd : dep d ≤ l
    · rw [a1 hd]
      dsimp only
      refine ⟨fun q => ?_, fun q => ?_⟩
      · rw [b1 (by omega)]
        dsimp only
        rw [e0, List.length_append]
        congr 2
        omega
      · obtain ⟨e, he⟩ := b2 (by omega)
        rw [he]
        exact ⟨e, rfl⟩
    · obtain ⟨e, he⟩ := a2 hd
      rw [he]
      exact ⟨fun q => absurd (Nat.le_trans (Nat.le_max_left _ _) (ed ▸ q)) hd, fun _ => ⟨e, rfl⟩⟩
end
theorem rd_wr {d : D} (hv : vd d = true) : (dep d ≤ 20 → rd (wr d) = .ok d) ∧ (¬ dep d ≤ 20 → ∃ e, rd (wr d) = .error e) := by
  obtain ⟨a, b⟩ := rdP_wr (wr d) d 20 0 [] hv (by rw [List.drop_zero, List.append_nil])
  unfold rd
  refine ⟨fun q => ?_, fun q => ?_⟩
  · rw [a q]
    show (if 0 + (wr d).length = (wr d).length then _ else _) = _
    rw [if_pos (Nat.zero_add _)]
  · obtain ⟨e, he⟩ := b q
    rw [he]
    exact ⟨e, rfl⟩
end Cl
set_option maxRecDepth 100000
set_option maxHeartbeats 4000000
/-! bounds of what is read; data in the heap -/
namespace Cl
open PySem PySem.Spec PyProof.Rows L2
abbrev flat : D → Bool := vd
abbrev flats : List D → Bool := vds
mutual
/-- no tuple, list, text longer than L -/
def wid (L : Nat) : D → Bool
  | .str s => decide (s.length ≤ L)
  | .tup xs => decide (xs.length ≤ L) && wids L xs
  | .lst xs => decide (xs.length ≤ L) && wids L xs
  | _ => true
def wids (L : Nat) : List D → Bool
  | [] => true
  | x :: xs => wid L x && wids L xs
end
theorem wids_mem {L : Nat} : ∀ {ds : List D}, wids L ds = true → ∀ d ∈ ds, wid L d = true
  | [], _, d, h => by cases h
  | x :: xs, h, d, hd => by
    have h' := Bool.and_eq_true_iff.mp (show (wid L x && wids L xs) = true from h)
    rcases List.mem_cons.mp hd with e | hd
    · rw [e]; exact h'.1
    · exact wids_mem h'.2 d hd
theorem flats_mem : ∀ {ds : List D}, flats ds = true → ∀ d ∈ ds, flat d = true
  | [], _, d, h => by cases h
  | x :: xs, h, d, hd => by
    have h' := Bool.and_eq_true_iff.mp (show (flat x && flats xs) = true from h)
    rcases List.mem_cons.mp hd with e | hd
    · rw [e]; exact h'.1
    · exact flats_mem h'.2 d hd
theorem deps_mem : ∀ {ds : List D} {n : Nat}, deps ds ≤ n → ∀ d ∈ ds, dep d ≤ n
  | [], _, _, d, h => by cases h
  | x :: xs, n, h, d, hd => by
    have h' : max (dep x) (deps xs) ≤ n := h
    rcases List.mem_cons.mp hd with e | hd
    · rw [e]; omega
    · exact deps_mem (by omega) d hd
theorem vds_mem : ∀ {ds : List D}, vds ds = true → ∀ d ∈ ds, vd d = true
  | [], _, d, h => by cases h
  | x :: xs, h, d, hd => by
    have h' := Bool.and_eq_true_iff.mp (show (vd x && vds xs) = true from h)
    rcases List.mem_cons.mp hd with e | hd
    · rw [e]; exact h'.1
    · exact vds_mem h'.2 d hd
theorem wl_len : ∀ {t : List Nat} {v k l : Nat}, wl t = some (v, k, l) → 1 ≤ k ∧ k ≤ t.length
  | [], v, k, l, h => by cases h
  | b :: t, v, k, l, h => by
    have h' : (if b < 128 then some (b, 1, b) else match wl t with
      | none => none
      | some (v, k, l) => some (b % 128 + 128 * v, k + 1, l)) = some (v, k, l) := h
    by_cases hb : b < 128
    · rw [if_pos hb] at h'
      injection h' with h'
      injection h' with _ h'
      injection h' with h' _
      simp
      omega
    · rw [if_neg hb] at h'
      cases e : wl t with
      | none =>
        rw [e] at h'
        cases h'
      | some z =>
        obtain ⟨v', k', l'⟩ := z
        rw [e] at h'
        have := wl_len e
        injection h' with h'
        injection h' with _ h'
        injection h' with h' _
        simp
        omega
theorem rdW_len {r : List Nat} {p m q : Nat} (h : rdW r p = some (m, q)) : p < q ∧ q ≤ r.length := by
  unfold rdW at h
  cases e : wl (r.drop p) with
  | none =>
    rw [e] at h
    cases h
  | some z =>
    obtain ⟨v, k, l⟩ := z
    rw [e] at h
    have h' : (if l = 0 ∧ 1 < k then none else some (v, p + k)) = some (m, q) := h
    by_cases hb : l = 0 ∧ 1 < k
    · rw [if_pos hb] at h'
      cases h'
    · rw [if_neg hb] at h'
      have := wl_len e
      rw [List.length_drop] at this
      injection h' with h'
      injection h' with _ h'
      omega
theorem rdC_len {r : List Nat} : ∀ {n p : Nat} {s : List Nat}, rdC r n p = .ok s → s.length = n ∧ (0 < n → p + n ≤ r.length) ∧ ∀ c ∈ s, sgn c = true
  | 0, p, s, h => by
    have : s = [] := by
      injection h with h
      exact h.symm
    subst this
    exact ⟨rfl, fun q => absurd q (Nat.lt_irrefl _), fun c hc => by cases hc⟩
  | n + 1, p, s, h => by
    have h' : (match r[p]? with
      | none => .error r.length
      | some c => if sgn c = true then (match rdC r n (p + 1) with
        | .error e => .error e
        | .ok s => .ok (c :: s)) else .error p) = (Except.ok s : Except Nat (List Nat)) := h
    cases e : r[p]? with
    | none =>
      rw [e] at h'
      cases h'
    | some c =>
      rw [e] at h'
      dsimp only at h'
      have hp := (List.getElem?_eq_some_iff.mp e).1
      by_cases hc : sgn c = true
      · rw [if_pos hc] at h'
        cases e2 : rdC r n (p + 1) with
        | error z =>
          rw [e2] at h'
          cases h'
        | ok s' =>
          rw [e2] at h'
          dsimp only at h'
          injection h' with h'
          subst h'
          obtain ⟨a1, a2, a3⟩ := rdC_len e2
          refine ⟨by rw [List.length_cons, a1], fun _ => ?_, fun x hx => ?_⟩
          · by_cases hn : 0 < n
            · have := a2 hn
              omega
            · omega
          · rcases List.mem_cons.mp hx with q | hx
            · rw [q]; exact hc
            · exact a3 x hx
      · rw [if_neg hc] at h'
        cases h'
/-- what a reader keeps -/
def Good (r : List Nat) (l : Nat) (f : Nat → Except Nat (D × Nat)) : Prop := ∀ p d q, f p = .ok (d, q) → p < q ∧ q ≤ r.length ∧ dep d ≤ l ∧ wid r.length d = true ∧ flat d = true
theorem rdI_good {r : List Nat} {l : Nat} {f : Nat → Except Nat (D × Nat)} (g : Good r l f) : ∀ {n p : Nat} {ds : List D} {z : Nat}, rdI f n p = .ok (ds, z) → p ≤ r.length →
    ds.length = n ∧ p + n ≤ z ∧ z ≤ r.length ∧ deps ds ≤ l ∧ wids r.length ds = true ∧ flats ds = true
  | 0, p, ds, z, h, hp => by
    injection h with h
    injection h with h1 h2
    subst h1 h2
    exact ⟨rfl, Nat.le_refl _, hp, Nat.zero_le _, rfl, rfl⟩
  | n + 1, p, ds, z, h, hp => by
    have h' : (match f p with
      | .error e => .error e
      | .ok (d, q) => match rdI f n q with
        | .error e => .error e
        | .ok (ds, z) => .ok (d :: ds, z)) = (Except.ok (ds, z) : Except Nat (List D × Nat)) := h
    cases e : f p with
    | error x =>
      rw [e] at h'
      cases h'
    | ok x =>
      obtain ⟨d, q⟩ := x
      rw [e] at h'
      dsimp only at h'
      obtain ⟨g1, g2, g3, g4, g5⟩ := g p d q e
      cases e2 : rdI f n q with
      | error x =>
        rw [e2] at h'
        cases h'
      | ok x =>
        obtain ⟨ds', z'⟩ := x
        rw [e2] at h'
        dsimp only at h'
        injection h' with h'
        injection h' with h1 h2
        subst h1 h2
        obtain ⟨k1, k2, k3, k4, k5, k6⟩ := rdI_good g e2 g2
        refine ⟨by rw [List.length_cons, k1], by omega, k3, ?_, ?_, ?_⟩
        · show max (dep d) (deps ds') ≤ l
          omega
        · show (wid r.length d && wids r.length ds') = true
          rw [g4, k5]
          rfl
        · show (flat d && flats ds') = true
          rw [g5, k6]
          rfl
theorem rdN_good {r : List Nat} {l p : Nat} {x : Except Nat (D × Nat)} (hx : ∀ d q, x = .ok (d, q) → p < q ∧ q ≤ r.length ∧ dep d ≤ l ∧ wid r.length d = true ∧ flat d = true) :
    ∀ d q, rdN r p x = .ok (d, q) → p < q ∧ q ≤ r.length ∧ dep d ≤ l ∧ wid r.length d = true ∧ flat d = true := by
  intro d q h
  unfold rdN at h
  cases e : r[p]? with
  | none =>
    rw [e] at h
    cases h
  | some s =>
    have hp := (List.getElem?_eq_some_iff.mp e).1
    rw [e] at h
    dsimp only at h
    have leaf : ∀ {d0 : D}, (Except.ok (d0, p + 1) : Except Nat (D × Nat)) = .ok (d, q) → dep d0 = 0 → wid r.length d0 = true → flat d0 = true → p < q ∧ q ≤ r.length ∧ dep d ≤ l ∧ wid r.length d = true ∧ flat d = true := by
      intro d0 h a b c
      injection h with h
      injection h with h1 h2
      subst h1 h2
      exact ⟨by omega, by omega, by omega, b, c⟩
    have leafI : ∀ {f : Nat → D}, (match rdW r (p + 1) with | none => .error (p + 1) | some (m, q) => .ok (f m, q)) = (Except.ok (d, q) : Except Nat (D × Nat)) → (∀ m, dep (f m) = 0 ∧ wid r.length (f m) = true ∧ flat (f m) = true) →
        p < q ∧ q ≤ r.length ∧ dep d ≤ l ∧ wid r.length d = true ∧ flat d = true := by
      intro f h k
      cases e2 : rdW r (p + 1) with
      | none =>
        rw [e2] at h
        cases h
      | some z =>
        obtain ⟨m, q'⟩ := z
        rw [e2] at h
        dsimp only at h
        have := rdW_len e2
        injection h with h
        injection h with h1 h2
        subst h1 h2
        exact ⟨by omega, by omega, by rw [(k m).1]; omega, (k m).2.1, (k m).2.2⟩
    by_cases h0 : s = 0
    · rw [if_pos h0] at h
      exact leaf h rfl rfl rfl
    rw [if_neg h0] at h
    by_cases h1 : s = 1
    · rw [if_pos h1] at h
      exact leaf h rfl rfl rfl
    rw [if_neg h1] at h
    by_cases h2 : s = 2
    · rw [if_pos h2] at h
      exact leaf h rfl rfl rfl
    rw [if_neg h2] at h
    by_cases h3 : s = 3
    · rw [if_pos h3] at h
      exact leafI (f := fun m => .int m) h fun m => ⟨rfl, rfl, rfl⟩
    rw [if_neg h3] at h
    by_cases h4 : s = 4
    · rw [if_pos h4] at h
      exact leafI (f := fun m => .int (-1 - (m : Int))) h fun m => ⟨rfl, rfl, rfl⟩
    rw [if_neg h4] at h
    by_cases h5 : s = 5
    · rw [if_pos h5] at h
      unfold rdS at h
      cases e2 : rdW r (p + 1) with
      | none =>
        rw [e2] at h
        cases h
      | some z =>
        obtain ⟨m, q'⟩ := z
        rw [e2] at h
        dsimp only at h
        have lw := rdW_len e2
        by_cases hm : 1 ≤ m ∧ m ≤ 20
        · rw [if_pos hm] at h
          cases e3 : rdC r m q' with
          | error x =>
            rw [e3] at h
            cases h
          | ok s' =>
            rw [e3] at h
            dsimp only at h
            injection h with h
            injection h with h1 h2
            subst h1 h2
            obtain ⟨c1, c2, c3⟩ := rdC_len e3
            have := c2 (by omega)
            have hv : vstr s' = true := by
              unfold vstr
              rw [decide_eq_true (by omega : 1 ≤ s'.length), decide_eq_true (by omega : s'.length ≤ 20)]
              exact List.all_eq_true.mpr c3
            refine ⟨by omega, by omega, by show 0 ≤ l; omega, ?_, hv⟩
            show decide (s'.length ≤ r.length) = true
            exact decide_eq_true (by omega)
        · rw [if_neg hm] at h
          cases h
    rw [if_neg h5] at h
    by_cases h6 : s = 6
    · rw [if_pos h6] at h
      exact hx d q h
    · rw [if_neg h6] at h
      cases h
theorem rdP_good (r : List Nat) : ∀ l, Good r l (rdP r l)
  | 0 => fun p d q h => rdN_good (l := 0) (fun d q h => by cases h) d q h
  | l + 1 => fun p d q h => rdN_good (l := l + 1) (fun d q h => by
      unfold rdT at h
      cases e2 : rdW r (p + 1) with
      | none =>
        rw [e2] at h
        cases h
      | some z =>
        obtain ⟨m, q'⟩ := z
        rw [e2] at h
        dsimp only at h
        have lw := rdW_len e2
        cases e3 : rdI (rdP r l) m q' with
        | error x =>
          rw [e3] at h
          cases h
        | ok x =>
          obtain ⟨ds, z⟩ := x
          rw [e3] at h
          dsimp only at h
          injection h with h
          injection h with h1 h2
          subst h1 h2
          obtain ⟨k1, k2, k3, k4, k5, k6⟩ := rdI_good (rdP_good r l) e3 lw.2
          refine ⟨by omega, k3, ?_, ?_, k6⟩
          · show deps ds + 1 ≤ l + 1
            omega
          · show (decide (ds.length ≤ r.length) && wids r.length ds) = true
            rw [k5, decide_eq_true (by omega)]
            rfl) d q h
theorem rd_good {r : List Nat} {d : D} (h : rd r = .ok d) : dep d ≤ 20 ∧ wid r.length d = true ∧ flat d = true := by
  unfold rd at h
  cases e : rdP r 20 0 with
  | error x =>
    rw [e] at h
    cases h
  | ok x =>
    obtain ⟨d', q⟩ := x
    rw [e] at h
    dsimp only at h
    by_cases hq : q = r.length
    · rw [if_pos hq] at h
      injection h with h
      subst h
      have := rdP_good r 20 0 d' q e
      exact ⟨this.2.2.1, this.2.2.2.1, this.2.2.2.2⟩
    · rw [if_neg hq] at h
      cases h
/-! ### data in the heap -/
mutual
def Is (H : Hp) : V → D → Prop
  | v, .non => v = .non
  | v, .bl b => v = .bl b
  | v, .int i => v = .int i
  | v, .str s => v = .str ⟨s.toArray⟩
  | v, .tup xs => ∃ a vs, v = .ref a ∧ H a = some (.tup vs) ∧ IsL H vs xs
  | v, .lst xs => ∃ a vs, v = .ref a ∧ H a = some (.lst vs) ∧ IsL H vs xs
def IsL (H : Hp) : List V → List D → Prop
  | vs, [] => vs = []
  | vs, d :: ds => ∃ v r, vs = v :: r ∧ Is H v d ∧ IsL H r ds
end
/-- tuples stay -/
def TSame (H H' : Hp) : Prop := ∀ b xs, H b = some (.tup xs) → H' b = some (.tup xs)
theorem TSame.refl (H : Hp) : TSame H H := fun _ _ h => h
theorem TSame.trans {H H1 H2 : Hp} (a : TSame H H1) (b : TSame H1 H2) : TSame H H2 := fun c xs h => b c xs (a c xs h)
theorem TSame.of {H H' : Hp} (s : Same H H') : TSame H H' := fun b xs h => s b _ h
section
variable {H H' : Hp}
mutual
theorem Is.mono (s : Same H H') : ∀ (d : D) (v : V), Is H v d → Is H' v d
  | .non, _, h => h
  | .bl _, _, h => h
  | .int _, _, h => h
  | .str _, _, h => h
  | .tup xs, v, h => by
    obtain ⟨a, vs, e, ha, hl⟩ := h
    exact ⟨a, vs, e, s a _ ha, IsL.mono s xs vs hl⟩
  | .lst xs, v, h => by
    obtain ⟨a, vs, e, ha, hl⟩ := h
    exact ⟨a, vs, e, s a _ ha, IsL.mono s xs vs hl⟩
theorem IsL.mono (s : Same H H') : ∀ (ds : List D) (vs : List V), IsL H vs ds → IsL H' vs ds
  | [], _, h => h
  | d :: ds, vs, h => by
    obtain ⟨v, r, e, h1, h2⟩ := h
    exact ⟨v, r, e, Is.mono s d v h1, IsL.mono s ds r h2⟩
end
mutual
theorem Is.tmono (s : TSame H H') : ∀ (d : D) (v : V), flat d = true → Is H v d → Is H' v d
  | .non, _, _, h => h
  | .bl _, _, _, h => h
  | .int _, _, _, h => h
  | .str _, _, _, h => h
  | .tup xs, v, hf, h => by
    obtain ⟨a, vs, e, ha, hl⟩ := h
    exact ⟨a, vs, e, s a _ ha, IsL.tmono s xs vs hf hl⟩
  | .lst xs, v, hf, h => by cases hf
theorem IsL.tmono (s : TSame H H') : ∀ (ds : List D) (vs : List V), flats ds = true → IsL H vs ds → IsL H' vs ds
  | [], _, _, h => h
  | d :: ds, vs, hf, h => by
    have h' := Bool.and_eq_true_iff.mp (show (flat d && flats ds) = true from hf)
    obtain ⟨v, r, e, h1, h2⟩ := h
    exact ⟨v, r, e, Is.tmono s d v h'.1 h1, IsL.tmono s ds r h'.2 h2⟩
end
theorem IsL.len : ∀ {ds : List D} {vs : List V}, IsL H vs ds → vs.length = ds.length
  | [], vs, h => by rw [show vs = [] from h]; rfl
  | d :: ds, vs, h => by
    obtain ⟨v, r, rfl, h1, h2⟩ := h
    simp [IsL.len h2]
theorem IsL.get : ∀ {ds : List D} {vs : List V} {i : Nat} {v : V}, IsL H vs ds → vs[i]? = some v → ∃ d, ds[i]? = some d ∧ Is H v d
  | [], vs, i, v, h, e => by rw [show vs = [] from h] at e; simp at e
  | d :: ds, vs, 0, v, h, e => by
    obtain ⟨w, r, rfl, h1, h2⟩ := h
    have : w = v := by simpa using e
    subst this
    exact ⟨d, rfl, h1⟩
  | d :: ds, vs, i + 1, v, h, e => by
    obtain ⟨w, r, rfl, h1, h2⟩ := h
    obtain ⟨d', e1, e2⟩ := IsL.get (i := i) h2 (by simpa using e)
    exact ⟨d', by simpa using e1, e2⟩
theorem IsL.snoc : ∀ {ds : List D} {vs : List V} {v : V} {d : D}, IsL H vs ds → Is H v d → IsL H (vs ++ [v]) (ds ++ [d])
  | [], vs, v, d, h, e => by
    rw [show vs = [] from h]
    exact ⟨v, [], rfl, e, rfl⟩
  | x :: ds, vs, v, d, h, e => by
    obtain ⟨w, r, rfl, h1, h2⟩ := h
    exact ⟨w, r ++ [v], rfl, h1, IsL.snoc h2 e⟩
end
/-- the values of a row -/
abbrev rv (r : List Nat) : List V := r.map fun (n : Nat) => V.int (n : Int)
abbrev rD (r : List Nat) : List D := r.map fun (n : Nat) => D.int (n : Int)
theorem isL_rv {H : Hp} : ∀ r : List Nat, IsL H (rv r) (rD r)
  | [] => rfl
  | n :: r => ⟨_, _, rfl, rfl, isL_rv r⟩
theorem rv_get {r : List Nat} {i : Nat} {b : Nat} (h : r[i]? = some b) : (rv r)[i]? = some (.int (b : Int)) := by
  show (r.map _)[i]? = _
  rw [List.getElem?_map, h]
  rfl
theorem rv_got {r : List Nat} {i : Nat} {v : V} (h : (rv r)[i]? = some v) : ∃ b, r[i]? = some b ∧ v = .int (b : Int) := by
  have h' : (r.map fun (n : Nat) => V.int (n : Int))[i]? = some v := h
  rw [List.getElem?_map] at h'
  cases e : r[i]? with
  | none =>
    rw [e] at h'
    cases h'
  | some b =>
    rw [e] at h'
    exact ⟨b, rfl, (Option.some.inj h').symm⟩
theorem rv_len (r : List Nat) : (rv r).length = r.length := List.length_map _
theorem rv_app (a b : List Nat) : rv (a ++ b) = rv a ++ rv b := List.map_append
/-- a byte row at v -/
def RowAt (H : Hp) (v : V) (r : List Nat) : Prop := ∃ a, v = .ref a ∧ H a = some (.tup (rv r))
theorem RowAt.is {H : Hp} {v : V} {r : List Nat} (h : RowAt H v r) : Is H v (.tup (rD r)) := by
  obtain ⟨a, e, ha⟩ := h
  exact ⟨a, _, e, ha, isL_rv r⟩
theorem RowAt.mono {H H' : Hp} {v : V} {r : List Nat} (s : TSame H H') (h : RowAt H v r) : RowAt H' v r := by
  obtain ⟨a, e, ha⟩ := h
  exact ⟨a, e, s a _ ha⟩
theorem flats_rD : ∀ r : List Nat, flats (rD r) = true
  | [] => rfl
  | _ :: r => flats_rD r
theorem wids_rD (L : Nat) : ∀ r : List Nat, wids L (rD r) = true
  | [] => rfl
  | _ :: r => wids_rD L r
theorem deps_rD : ∀ r : List Nat, deps (rD r) = 0
  | [] => rfl
  | _ :: r => by
    show max 0 (deps (rD r)) = 0
    rw [deps_rD r]
    rfl
/-! ### frames -/
/-- all but what stands at a is as it was; tuples stay -/
structure But (a : Addr) (H H' : Hp) : Prop where
  k : ∀ b o, H b = some o → b ≠ a → H' b = some o
  t : TSame H H'
theorem But.refl (a : Addr) (H : Hp) : But a H H := ⟨fun _ _ h _ => h, TSame.refl H⟩
theorem But.trans {a : Addr} {H H1 H2 : Hp} (x : But a H H1) (y : But a H1 H2) : But a H H2 := ⟨fun b o h n => y.k b o (x.k b o h n) n, x.t.trans y.t⟩
theorem But.of {a : Addr} {H H' : Hp} (s : Same H H') : But a H H' := ⟨fun b o h _ => s b o h, TSame.of s⟩
theorem Same.new {H : Hp} {p : Addr} {o : HO} (h : H p = none) : Same H (upd H p o) := fun b u e => by
  rw [upd_ne (ne_of_none e h)]
  exact e
/-- what the caller did not know changes -/
theorem Same.own {H H1 : Hp} {p : Addr} {o : HO} (s : Same H H1) (h : H p = none) : Same H (upd H1 p o) := fun b u e => by
  rw [upd_ne (ne_of_none e h)]
  exact s b u e
theorem But.own {a : Addr} {H H1 : Hp} {p : Addr} {o : HO} (s : But a H H1) (h : H p = none) : But a H (upd H1 p o) :=
  ⟨fun b u e n => by rw [upd_ne (ne_of_none e h)]; exact s.k b u e n, fun b xs e => by rw [upd_ne (ne_of_none e h)]; exact s.t b xs e⟩
theorem But.put {a : Addr} {H H1 : Hp} {o : HO} (s : But a H H1) (h : ∀ xs, H a ≠ some (.tup xs)) : But a H (upd H1 a o) :=
  ⟨fun b u e n => by rw [upd_ne n]; exact s.k b u e n, fun b xs e => by rw [upd_ne fun q => h xs (by rw [← q]; exact e)]; exact s.t b xs e⟩
end Cl
set_option maxRecDepth 100000
set_option maxHeartbeats 4000000
/-! plain: a row read stays read when more follows; rows and seals opened -/
namespace Cl
theorem wl_app : ∀ {a : List Nat} (t : List Nat) {z : Nat × Nat × Nat}, wl a = some z → wl (a ++ t) = some z
  | [], t, z, h => by cases h
  | b :: a, t, z, h => by
    have e : ∀ l : List Nat, wl (b :: l) = if b < 128 then some (b, 1, b) else match wl l with
      | none => none
      | some (v, k, l) => some (b % 128 + 128 * v, k + 1, l) := fun l => rfl
    rw [List.cons_append, e]
    rw [e] at h
    by_cases hb : b < 128
    · rw [if_pos hb] at h ⊢
      exact h
    · rw [if_neg hb] at h ⊢
      cases e2 : wl a with
      | none => rw [e2] at h; cases h
      | some y =>
        rw [e2] at h
        rw [wl_app t e2]
        exact h
theorem rdW_app {r : List Nat} (t : List Nat) {p : Nat} {z : Nat × Nat} (h : rdW r p = some z) : rdW (r ++ t) p = some z := by
  unfold rdW at h ⊢
  rw [List.drop_append]
  cases e : wl (r.drop p) with
  | none => rw [e] at h; cases h
  | some y =>
    rw [e] at h
    rw [wl_app _ e]
    exact h
theorem at_app {r t : List Nat} {p b : Nat} (h : r[p]? = some b) : (r ++ t)[p]? = some b := by
  rw [List.getElem?_append_left (List.getElem?_eq_some_iff.mp h).1]
  exact h
theorem rdC_app' {r : List Nat} (t : List Nat) : ∀ {n p : Nat} {s : List Nat}, rdC r n p = .ok s → rdC (r ++ t) n p = .ok s
  | 0, p, s, h => h
  | n + 1, p, s, h => by
    have e : ∀ q : List Nat, rdC q (n + 1) p = match q[p]? with
      | none => .error q.length
      | some c => if sgn c = true then (match rdC q n (p + 1) with
        | .error e => .error e
        | .ok s => .ok (c :: s)) else .error p := fun q => rfl
    rw [e] at h ⊢
    cases hx : r[p]? with
    | none => rw [hx] at h; cases h
    | some c =>
      rw [hx] at h
      rw [at_app hx]
      dsimp only at h ⊢
      by_cases hs : sgn c = true
      · rw [if_pos hs] at h ⊢
        cases e2 : rdC r n (p + 1) with
        | error x => rw [e2] at h; cases h
        | ok s' =>
          rw [e2] at h
          rw [rdC_app' t e2]
          exact h
      · rw [if_neg hs] at h
        cases h
theorem rdS_app {r : List Nat} (t : List Nat) {p : Nat} {z : D × Nat} (h : rdS r p = .ok z) : rdS (r ++ t) p = .ok z := by
  unfold rdS at h ⊢
  cases e : rdW r p with
  | none => rw [e] at h; cases h
  | some mq =>
    obtain ⟨m, q⟩ := mq
    rw [e] at h
    rw [rdW_app t e]
    dsimp only at h ⊢
    by_cases hm : 1 ≤ m ∧ m ≤ 20
    · rw [if_pos hm] at h ⊢
      cases e2 : rdC r m q with
      | error x => rw [e2] at h; cases h
      | ok s =>
        rw [e2] at h
        rw [rdC_app' t e2]
        exact h
    · rw [if_neg hm] at h
      cases h
theorem rdI_ext {f g : Nat → Except Nat (D × Nat)} (hfg : ∀ p z, f p = .ok z → g p = .ok z) : ∀ {n p : Nat} {z : List D × Nat}, rdI f n p = .ok z → rdI g n p = .ok z
  | 0, p, z, h => h
  | n + 1, p, z, h => by
    have e : ∀ f : Nat → Except Nat (D × Nat), rdI f (n + 1) p = match f p with
      | .error e => .error e
      | .ok (d, q) => match rdI f n q with
        | .error e => .error e
        | .ok (ds, z) => .ok (d :: ds, z) := fun f => rfl
    rw [e] at h ⊢
    cases e2 : f p with
    | error x => rw [e2] at h; cases h
    | ok dq =>
      obtain ⟨d, q⟩ := dq
      rw [e2] at h
      rw [hfg p _ e2]
      dsimp only at h ⊢
      cases e3 : rdI f n q with
      | error x => rw [e3] at h; cases h
      | ok y =>
        rw [e3] at h
        rw [rdI_ext hfg e3]
        exact h
theorem rdT_app {r : List Nat} (t : List Nat) {f g : Nat → Except Nat (D × Nat)} (hfg : ∀ p z, f p = .ok z → g p = .ok z) {p : Nat} {z : D × Nat} (h : rdT r f p = .ok z) : rdT (r ++ t) g p = .ok z := by
  unfold rdT at h ⊢
  cases e : rdW r p with
  | none => rw [e] at h; cases h
  | some mq =>
    obtain ⟨m, q⟩ := mq
    rw [e] at h
    rw [rdW_app t e]
    dsimp only at h ⊢
    cases e2 : rdI f m q with
    | error x => rw [e2] at h; cases h
    | ok y =>
      rw [e2] at h
      rw [rdI_ext hfg e2]
      exact h
theorem rdN_app {r : List Nat} (t : List Nat) {x y : Except Nat (D × Nat)} (hxy : ∀ z, x = .ok z → y = .ok z) {p : Nat} {z : D × Nat} (h : rdN r p x = .ok z) : rdN (r ++ t) p y = .ok z := by
  unfold rdN at h ⊢
  cases hx : r[p]? with
  | none => rw [hx] at h; cases h
  | some s =>
    rw [hx] at h
    rw [at_app hx]
    dsimp only at h ⊢
    by_cases h0 : s = 0
    · rw [if_pos h0] at h ⊢; exact h
    rw [if_neg h0] at h ⊢
    by_cases h1 : s = 1
    · rw [if_pos h1] at h ⊢; exact h
    rw [if_neg h1] at h ⊢
    by_cases h2 : s = 2
    · rw [if_pos h2] at h ⊢; exact h
    rw [if_neg h2] at h ⊢
    by_cases h3 : s = 3
    · rw [if_pos h3] at h ⊢
      cases e : rdW r (p + 1) with
      | none => rw [e] at h; cases h
      | some mq => rw [e] at h; rw [rdW_app t e]; exact h
    rw [if_neg h3] at h ⊢
    by_cases h4 : s = 4
    · rw [if_pos h4] at h ⊢
      cases e : rdW r (p + 1) with
      | none => rw [e] at h; cases h
      | some mq => rw [e] at h; rw [rdW_app t e]; exact h
    rw [if_neg h4] at h ⊢
    by_cases h5 : s = 5
    · rw [if_pos h5] at h ⊢
      exact rdS_app t h
    rw [if_neg h5] at h ⊢
    by_cases h6 : s = 6
    · rw [if_pos h6] at h ⊢
      exact hxy z h
    rw [if_neg h6] at h
    cases h
theorem rdP_app {r : List Nat} (t : List Nat) : ∀ (l : Nat) (p : Nat) (z : D × Nat), rdP r l p = .ok z → rdP (r ++ t) l p = .ok z
  | 0, p, z, h => rdN_app t (fun z h => by cases h) (show rdN r p (.error p) = .ok z from h)
  | l + 1, p, z, h => rdN_app t (fun z h => rdT_app t (rdP_app t l) h) (show rdN r p (rdT r (rdP r l) (p + 1)) = .ok z from h)
theorem sl_len (r : List Nat) : (sl r).length = 4 := rfl
/-- a row with its seal -/
theorem un_seal (r : List Nat) : un (r ++ sl r) = match rd r with
    | .error _ => []
    | .ok d => [d] := by
  have hl : (r ++ sl r).length - 4 = r.length := by rw [List.length_append, sl_len]; omega
  unfold un
  rw [hl, List.take_left, List.drop_left]
  rw [if_neg (fun h => h.elim (fun z => by rw [List.length_append, sl_len] at z; omega) (fun z => z rfl))]
  try rfl
/-- a row without a seal -/
theorem un_wr {d : D} (hv : vd d = true) (hd : dep d ≤ 20) : un (wr d) = [] := by
  unfold un
  by_cases g : (wr d).length < 4 ∨ sl ((wr d).take ((wr d).length - 4)) ≠ (wr d).drop ((wr d).length - 4)
  · rw [if_pos g]
  rw [if_neg g]
  have h4 : ¬ (wr d).length < 4 := fun z => g (.inl z)
  have full := (rdP_wr (wr d) d 20 0 [] hv (by rw [List.drop_zero, List.append_nil])).1 hd
  cases e : rd ((wr d).take ((wr d).length - 4)) with
  | error x => rfl
  | ok d' =>
    exfalso
    unfold rd at e
    cases e2 : rdP ((wr d).take ((wr d).length - 4)) 20 0 with
    | error x => rw [e2] at e; cases e
    | ok y =>
      obtain ⟨d2, m⟩ := y
      rw [e2] at e
      dsimp only at e
      have e3 := rdP_app ((wr d).drop ((wr d).length - 4)) 20 0 _ e2
      rw [List.take_append_drop, full] at e3
      injection e3 with e3
      injection e3 with _ e4
      by_cases hm : m = ((wr d).take ((wr d).length - 4)).length
      · rw [List.length_take] at hm
        omega
      · rw [if_neg hm] at e
        cases e
end Cl
set_option maxRecDepth 100000
set_option maxHeartbeats 4000000
/-! small tests of values -/
namespace Cl
open PySem PySem.Spec PyProof.Rows L2
/-- a value's kind -/
inductive Kd (H : Hp) : V → String → Prop
  | non : Kd H .non "NoneType"
  | bl (b : Bool) : Kd H (.bl b) "bool"
  | int (i : Int) : Kd H (.int i) "int"
  | str (x : Str) : Kd H (.str x) "str"
  | lst {a : Addr} {xs : List V} (e : H a = some (.lst xs)) : Kd H (.ref a) "list"
  | tup {a : Addr} {xs : List V} (e : H a = some (.tup xs)) : Kd H (.ref a) "tuple"
  | dct {a : Addr} {xs : List (Key × V)} (e : H a = some (.dK xs)) : Kd H (.ref a) "dict"
section
variable {K : PySem.W.Frag} {H H' : Hp} {v : V} {n : String}
theorem Kd.ty (k : Kd H v n) : TyX K H v (.type n) := by
  cases k with
  | non => exact .base .non
  | bl b => exact .base (.bl b)
  | int i => exact .base (.int i)
  | str x => exact .base (.str x)
  | lst e => exact .base (.lst e)
  | tup e => exact .base (.tup e)
  | dct e => exact .base (.dK e)
theorem Kd.mono (s : Same H H') (k : Kd H v n) : Kd H' v n := by
  cases k with
  | non => exact .non
  | bl b => exact .bl b
  | int i => exact .int i
  | str x => exact .str x
  | lst e => exact .lst (s _ _ e)
  | tup e => exact .tup (s _ _ e)
  | dct e => exact .dct (s _ _ e)
/-- isinstance(v, int), (v, bool), (v, tuple), (v, str), (v, (tuple, list)) -/
theorem Kd.isInt (k : Kd H v n) : PySem.W.kitOne K (.type n) (.type "int") = some (n == "int" || n == "bool") := by
  cases k <;> exact kit_ty (by decide +kernel)
theorem Kd.isBool (k : Kd H v n) : PySem.W.kitOne K (.type n) (.type "bool") = some (n == "bool") := by
  cases k <;> exact kit_ty (by decide +kernel)
theorem Kd.isTup (k : Kd H v n) : PySem.W.kitOne K (.type n) (.type "tuple") = some (n == "tuple") := by
  cases k <;> exact kit_ty (by decide +kernel)
theorem Kd.isStr (k : Kd H v n) : PySem.W.kitOne K (.type n) (.type "str") = some (n == "str") := by
  cases k <;> exact kit_ty (by decide +kernel)
theorem Kd.isLst (k : Kd H v n) : PySem.W.kitOne K (.type n) (.type "list") = some (n == "list") := by
  cases k <;> exact kit_ty (by decide +kernel)
theorem Kd.isSeq (k : Kd H v n) : PySem.W.kitAny K (.type n) [.type "tuple", .type "list"] = some (n == "tuple" || n == "list") := by
  refine kitAny_cons k.isTup (fun h => ?_) (fun h => by rw [h]; rfl)
  rw [h]
  refine kitAny_cons k.isLst (fun h => ?_) (fun h => by rw [h]; rfl)
  rw [h]
  exact kitAny_nil
theorem Kd.isSeq2 (k : Kd H v n) : PySem.W.kitAny K (.type n) [.type "list", .type "tuple"] = some (n == "list" || n == "tuple") := by
  refine kitAny_cons k.isLst (fun h => ?_) (fun h => by rw [h]; rfl)
  rw [h]
  refine kitAny_cons k.isTup (fun h => ?_) (fun h => by rw [h]; rfl)
  rw [h]
  exact kitAny_nil
end
/-- an integer that is no flag, within bounds -/
def vin (lo hi : Int) : V → Bool
  | .int i => decide (lo ≤ i) && decide (i ≤ hi)
  | _ => false
def isI : V → Bool
  | .int _ => true
  | _ => false
theorem Kd.isI {H : Hp} {v : V} {n : String} (k : Kd H v n) : isI v = ((n == "int" || n == "bool") && !(n == "bool")) := by
  cases k <;> first | rfl | decide +kernel
/-- a tuple of these, or something else -/
inductive Th (H : Hp) : V → Option (List V) → Prop
  | tup {a : Addr} {us : List V} (e : H a = some (.tup us)) : Th H (.ref a) (some us)
  | oth {v : V} {n : String} (k : Kd H v n) (h : (n == "tuple") = false) : Th H v none
theorem Th.kd {H : Hp} {v : V} {o : Option (List V)} (t : Th H v o) : ∃ n, Kd H v n ∧ (n == "tuple") = o.isSome := by
  cases t with
  | tup e => exact ⟨_, .tup e, rfl⟩
  | oth k h => exact ⟨_, k, h⟩
theorem Th.mono {H H' : Hp} {v : V} {o : Option (List V)} (s : Same H H') (t : Th H v o) : Th H' v o := by
  cases t with
  | tup e => exact .tup (s _ _ e)
  | oth k h => exact .oth (k.mono s) h
/-- such a thing as a byte row -/
def rowB : Option (List V) → Bool
  | some us => us.all (vin 0 255)
  | none => false
/-- what is asked of a thing that is judged: items of known kinds, not too many -/
def Judg (H : Hp) (o : Option (List V)) : Prop := ∀ us, o = some us → us.length ≤ 100000 ∧ ∀ u ∈ us, ∃ n, Kd H u n
theorem Judg.mono {H H' : Hp} {o : Option (List V)} (s : Same H H') (j : Judg H o) : Judg H' o := fun us e => ⟨(j us e).1, fun u hu => by
  obtain ⟨n, k⟩ := (j us e).2 u hu
  exact ⟨n, k.mono s⟩⟩

def sp_is_integer : Sp := fun vs H Q _ => ∃ x, vs = [x] ∧ (∃ n, Kd H x n) ∧ Q (.bl (isI x)) H
def sp_is_within : Sp := fun vs H Q _ => ∃ (x : V) (lo hi : Int), vs = [x, .int lo, .int hi] ∧ (∃ n, Kd H x n) ∧ Q (.bl (vin lo hi x)) H
def sp_number : Sp := sp_is_within
def sp_is_sized : Sp := fun vs H Q _ => ∃ (x : V) (lo hi : Int), vs = [x, .int lo, .int hi] ∧ ∃ o, Th H x o ∧ Judg H o ∧ Q (.bl (match o with
  | some us => decide (lo ≤ (us.length : Int)) && decide ((us.length : Int) ≤ hi)
  | none => false)) H
def sp_is_listed : Sp := fun vs H Q _ => ∃ x, vs = [x] ∧ ∃ n, Kd H x n ∧ ∀ H', Same H H' → Q (.bl (n == "list" || n == "tuple")) H'
def sp_is_row : Sp := fun vs H Q _ => ∃ x, vs = [x] ∧ ∃ o, Th H x o ∧ Judg H o ∧ ∀ H', Same H H' → Q (.bl (rowB o)) H'
def sp_is_sign : Sp := fun vs H Q _ => ∃ x, vs = [x] ∧ ∃ n : Nat, x = .int (n : Int) ∧ Q (.bl (sgn n)) H
def sp_check_row (C : Addr) : Sp := fun vs H Q E => ∃ x, vs = [x] ∧ ∃ o, Th H x o ∧ Judg H o ∧ (rowB o = true → ∀ H', Same H H' → Q .non H') ∧ (rowB o = false → ∀ H', Same H H' → E (.ref C) none H')
def sp_check_within (C : Addr) : Sp := fun vs H Q E => ∃ (x : V) (lo hi : Int), vs = [x, .int lo, .int hi] ∧ (∃ n, Kd H x n) ∧ (vin lo hi x = true → Q .non H) ∧ (vin lo hi x = false → E (.ref C) none H)
section
variable {P : Program} {w : World} {K : PySem.W.Frag} {mg : Str → Option Value} {base : Heap} {f : Addr} {fd : FuncData}
theorem ok_is_integer (T : Txt K mg) (F : Fun K "is_integer" "is_integer" s_is_integer f fd) : FnOk P w K mg base (L2.CX P w) 1 f fd p_is_integer sp_is_integer := by
  refine F.okX sc_is_integer (fun vs H Q E h => ?_) (fun cdv A outer s H vs Q E hr h => ?_)
  · obtain ⟨_, rfl, _⟩ := h
    rfl
  · obtain ⟨x, rfl, ⟨n, k⟩, q⟩ := h
    refine ⟨_, (pss_one (ps_ret (pe_and (pe_callB call_isi (by rfl) T.b_isinstance (by decide +kernel) (pa_cons (pv 0) (pa_cons (pe_bltn (by rfl) T.b_int (by decide +kernel) (v := .ty "int") rfl) pa_nil))) (pe_one (pe_not (pe_callB call_isi (by rfl) T.b_isinstance (by decide +kernel) (pa_cons (pv 0) (pa_cons (pe_bltn (by rfl) T.b_bool (by decide +kernel) (v := .ty "bool") rfl) pa_nil)))))))), ?_⟩
    have e := k.isI
    refine ⟨x, rfl, x, .ty "int", .type n, .type "int", _, rfl, .ty _, k.ty, k.isInt, _, rfl, ?_⟩
    cases h1 : (n == "int" || n == "bool") with
    | false =>
      rw [h1, Bool.false_and] at e
      rw [e] at q
      exact iteF q
    | true =>
      refine iteT ⟨x, rfl, x, .ty "bool", .type n, .type "bool", _, rfl, .ty _, k.ty, k.isBool, _, rfl, ?_⟩
      rw [h1, Bool.true_and] at e
      rw [e] at q
      exact q
theorem ok_is_within (T : Txt K mg) (c_is_integer : Kn P w K mg base "is_integer" 1 p_is_integer sp_is_integer) (F : Fun K "is_within" "is_within" s_is_within f fd) : FnOk P w K mg base (L2.CX P w) 2 f fd p_is_within sp_is_within := by
  refine F.okX sc_is_within (fun vs H Q E h => ?_) (fun cdv A outer s H vs Q E hr h => ?_)
  · obtain ⟨_, _, _, rfl, _⟩ := h
    rfl
  · obtain ⟨x, lo, hi, rfl, ⟨n, k⟩, q⟩ := h
    refine ⟨_, (pss_one (ps_ret (pe_and (pc c_is_integer hr (by first | decide | omega) passL (pa_cons (pv 0) pa_nil)) (pe_one (pe_chain op_le op_le (pv 1) (pv 0) (pv 2)))))), ?_⟩
    refine ⟨x, rfl, x, rfl, ⟨n, k⟩, _, rfl, ?_⟩
    cases k with
    | int i =>
      refine iteT ⟨_, rfl, _, rfl, _, _, rfl, rfl, _, rfl, ?_⟩
      show if decide (lo ≤ i) = true then _ else _
      cases h1 : decide (lo ≤ i) with
      | false =>
        have e : vin lo hi (.int i) = false := by
          show (decide (lo ≤ i) && decide (i ≤ hi)) = false
          rw [h1, Bool.false_and]
        rw [e] at q
        exact iteF q
      | true =>
        have e : vin lo hi (.int i) = decide (i ≤ hi) := by
          show (decide (lo ≤ i) && decide (i ≤ hi)) = _
          rw [h1, Bool.true_and]
        rw [e] at q
        exact iteT ⟨_, rfl, _, _, rfl, rfl, q⟩
    | _ => exact iteF q
theorem ok_number (T : Txt K mg) (F : Fun K "_law_number" "_law_number" s__law_number f fd) : FnOk P w K mg base (L2.CX P w) 1 f fd p__law_number sp_number := by
  refine F.okX sc__law_number (fun vs H Q E h => ?_) (fun cdv A outer s H vs Q E hr h => ?_)
  · obtain ⟨_, _, _, rfl, _⟩ := h
    rfl
  · obtain ⟨x, lo, hi, rfl, ⟨n, k⟩, q⟩ := h
    refine ⟨_, (pss_one (ps_ret (pe_and (pe_callB call_isi (by rfl) T.b_isinstance (by decide +kernel) (pa_cons (pv 0) (pa_cons (pe_bltn (by rfl) T.b_int (by decide +kernel) (v := .ty "int") rfl) pa_nil))) (pe_and (pe_not (pe_callB call_isi (by rfl) T.b_isinstance (by decide +kernel) (pa_cons (pv 0) (pa_cons (pe_bltn (by rfl) T.b_bool (by decide +kernel) (v := .ty "bool") rfl) pa_nil)))) (pe_one (pe_chain op_le op_le (pv 1) (pv 0) (pv 2))))))), ?_⟩
    refine ⟨x, rfl, x, .ty "int", .type n, .type "int", _, rfl, .ty _, k.ty, k.isInt, _, rfl, ?_⟩
    have kb := k.isBool (K := K)
    have kt := k.ty (K := K)
    cases k with
    | int i =>
      refine iteT ⟨_, rfl, _, .ty "bool", _, .type "bool", _, rfl, .ty _, kt, kb, _, rfl, _, rfl, ?_⟩
      refine iteT ⟨_, rfl, _, rfl, _, _, rfl, rfl, _, rfl, ?_⟩
      show if decide (lo ≤ i) = true then _ else _
      cases h1 : decide (lo ≤ i) with
      | false =>
        have e : vin lo hi (.int i) = false := by
          show (decide (lo ≤ i) && decide (i ≤ hi)) = false
          rw [h1, Bool.false_and]
        rw [e] at q
        exact iteF q
      | true =>
        have e : vin lo hi (.int i) = decide (i ≤ hi) := by
          show (decide (lo ≤ i) && decide (i ≤ hi)) = _
          rw [h1, Bool.true_and]
        rw [e] at q
        exact iteT ⟨_, rfl, _, _, rfl, rfl, q⟩
    | bl b =>
      refine iteT ⟨_, rfl, _, .ty "bool", _, .type "bool", _, rfl, .ty _, kt, kb, _, rfl, _, rfl, ?_⟩
      exact iteF q
    | _ => exact iteF q
theorem ok_is_sign (T : Txt K mg) (F : Fun K "is_sign" "is_sign" s_is_sign f fd) : FnOk P w K mg base (L2.CX P w) 1 f fd p_is_sign sp_is_sign := by
  refine F.okX sc_is_sign (fun vs H Q E h => ?_) (fun cdv A outer s H vs Q E hr h => ?_)
  · obtain ⟨_, rfl, _⟩ := h
    rfl
  · obtain ⟨x, rfl, n, rfl, q⟩ := h
    refine ⟨_, (pss_one (ps_ret (pe_and (pe_chain op_le op_le (pgc (T.k_FIRST_SIGN)) (pv 0) (pgc (T.k_LAST_SIGN))) (pe_one (pe_cmpR op_ne (pv 0) (pgc (T.k_NO_SIGN)) (nomark _)))))), ?_⟩
    refine ⟨_, rfl, _, _, rfl, rfl, _, rfl, ?_⟩
    have e : sgn n = (decide ((32 : Int) ≤ (n : Int)) && (decide ((n : Int) ≤ 126) && !decide (V.int (n : Int) = V.int 37))) := by
      unfold sgn
      have e1 : decide (32 ≤ n) = decide ((32 : Int) ≤ (n : Int)) := decide_eq_decide.mpr (by omega)
      have e2 : decide (n ≤ 126) = decide ((n : Int) ≤ 126) := decide_eq_decide.mpr (by omega)
      have e3 : decide (n ≠ 37) = !decide (V.int (n : Int) = V.int 37) := by
        rw [← decide_not]
        exact decide_eq_decide.mpr ⟨fun h z => h (by injection z with z; omega), fun h z => h (by rw [z]; rfl)⟩
      rw [e1, e2, e3]
    rw [e] at q
    show if decide ((32 : Int) ≤ (n : Int)) = true then _ else _
    cases h1 : decide ((32 : Int) ≤ (n : Int)) with
    | false =>
      rw [h1, Bool.false_and] at q
      exact iteF ⟨_, rfl, iteF q⟩
    | true =>
      rw [h1, Bool.true_and] at q
      refine iteT ⟨_, _, rfl, rfl, _, rfl, ?_⟩
      show if decide ((n : Int) ≤ 126) = true then _ else _
      cases h2 : decide ((n : Int) ≤ 126) with
      | false =>
        rw [h2, Bool.false_and] at q
        exact iteF q
      | true =>
        rw [h2, Bool.true_and] at q
        exact iteT ⟨_, rfl, rfl, q⟩
end
end Cl
set_option maxRecDepth 100000
set_option maxHeartbeats 4000000
/-! comprehensions whose items are told ahead; rows, parcels judged -/
namespace Cl
open PySem PySem.Spec PyProof.Rows L2 RZ
/-- len of a list or a tuple -/
def rLenQ (K : PySem.W.Frag) : List V → Hp → VK → Prop := fun xs H Q => ∃ p ys, xs = [.ref p] ∧ (SqL K H p ys ∨ SqT K H p ys) ∧ Q (.int ys.length) H
theorem call_lenQ {X : Cx} : CallR X (.builtin "len") (rLenQ X.K) := call_len_seq
theorem take_snoc {α : Type} {l : List α} {i : Nat} {v : α} (h : l[i]? = some v) : l.take (i + 1) = l.take i ++ [v] := by
  rw [List.take_succ, h]
  rfl
/-- what a comprehension asks behind its source -/
def LcB (J : It) (g : TG) (te : TE) (vs : List Nat) (σ : L2.St) (R : Addr → Hp → Prop) (H1 : Hp) : Prop := ∀ D, H1 D = none →
  ∃ W : Nat → Nat → Hp → Prop, (∃ m, W 0 m (upd H1 D (.lst []))) ∧ ∀ k m H, W k m H → (J.stop k H ∧ R D H) ∨ (J.go k H ∧ ∃ Nx : Hp → Prop, (∀ H', Nx H' → ∃ m', m' < m ∧ W (k + 1) m' H') ∧
    ∀ x H', J.yld k H x H' → g x (wipe σ vs) H' fun σ2 H2 => wipe σ2 vs = wipe σ vs ∧ tYes σ2 H2 fun b H3 => if b = true then te σ2 H3 fun y H4 => ∃ acc, H4 D = some (.lst acc) ∧ acc.length < sizeLine ∧ Nx (upd H4 D (.lst (acc ++ [y]))) else Nx H3)
/-- one name: the items of the new list are ys -/
theorem lc1 {J : It} {n : Nat} {G : Hp → Prop} {Y : Nat → Hp → V → Hp → Prop} (w : Walk J n G Y) {i : Nat} {te : TE} {σ : L2.St} {H1 : Hp} {R : Addr → Hp → Prop} (ys : List V) (hn : n = ys.length) (hz : n ≤ 100000) (hG : ∀ H, Same H1 H → G H)
    (he : ∀ k x H H' y (Q' : VK), k < n → Same H1 H → Y k H x H' → ys[k]? = some y → Same H H' ∧ ((∀ H4, Same H' H4 → Q' y H4) → te ((σ.set i none).set i (some x)) H' Q'))
    (q : ∀ D H2, H1 D = none → Same H1 H2 → H2 D = some (.lst ys) → R D H2) : LcB J (gName i) te [i] σ R H1 := by
  intro D hD
  refine lc_it w (fun k H => Same H1 H ∧ H D = some (.lst (ys.take k))) ⟨Same.new hD, upd_same⟩ (fun k H _ p => hG H p.1) (fun k x H H' hk p y => ?_) (fun H p => q D H hD p.1 ?_)
  · obtain ⟨s, e⟩ := p
    have hy : ys[k]? = some (ys[k]'(by omega)) := List.getElem?_eq_getElem _
    obtain ⟨s', hs⟩ := he k x H H' _ (fun y H4 => ∃ acc, H4 D = some (.lst acc) ∧ acc.length < sizeLine ∧ (Same H1 (upd H4 D (.lst (acc ++ [y]))) ∧ (upd H4 D (.lst (acc ++ [y]))) D = some (.lst (ys.take (k + 1))))) hk s y hy
    refine ⟨?_, ?_⟩
    · show ((σ.set i none).set i (some x)).set i none = σ.set i none
      rw [List.set_set, List.set_set]
    · show te ((σ.set i none).set i (some x)) H' _
      refine hs fun H4 s4 => ⟨ys.take k, s4 _ _ (s' _ _ e), ?_, Same.own ((s.trans s').trans s4) hD, ?_⟩
      · have : (ys.take k).length ≤ k := List.length_take_le _ _
        exact Nat.lt_of_le_of_lt this (Nat.lt_of_lt_of_le hk (Nat.le_trans hz (by decide)))
      · rw [upd_same, take_snoc hy]
  · have e := p.2
    rw [hn, List.take_length] at e
    exact e
/-- a pair of names over new pairs -/
theorem lc2 {K : PySem.W.Frag} {J : It} {n : Nat} {G : Hp → Prop} {xs zs : Nat → Option V} (w : Walk J n G (YPair xs zs)) {i j : Nat} {te : TE} {σ : L2.St} {H1 : Hp} {R : Addr → Hp → Prop} (hij : i ≠ j) (ys : List V) (hn : n = ys.length) (hz : n ≤ 100000) (hG : ∀ H, Same H1 H → G H)
    (he : ∀ k x z H y (Q' : VK), k < n → Same H1 H → xs k = some x → zs k = some z → ys[k]? = some y → (∀ H4, Same H H4 → Q' y H4) → te ((((σ.set j none).set i none).set i (some x)).set j (some z)) H Q')
    (q : ∀ D H2, H1 D = none → Same H1 H2 → H2 D = some (.lst ys) → R D H2) : LcB J (gTup K 2 (gCons (gName i) (gCons (gName j) gNil))) te [i, j] σ R H1 := by
  intro D hD
  refine lc_it w (fun k H => Same H1 H ∧ H D = some (.lst (ys.take k))) ⟨Same.new hD, upd_same⟩ (fun k H _ p => hG H p.1) (fun k v H H' hk p y => ?_) (fun H p => q D H hD p.1 ?_)
  · obtain ⟨s, e⟩ := p
    obtain ⟨T, x, z, rfl, hT, rfl, ex, ez⟩ := y
    have hy : ys[k]? = some (ys[k]'(by omega)) := List.getElem?_eq_getElem _
    have s' : Same H (upd H T (.tup [x, z])) := Same.new hT
    refine ⟨T, [x, z], rfl, SqT.of upd_same, rfl, x, [z], rfl, z, [], rfl, rfl, ?_, ?_⟩
    · show (((((σ.set j none).set i none).set i (some x)).set j (some z)).set j none).set i none = (σ.set j none).set i none
      rw [List.set_set]
      rw [List.set_comm _ _ (Ne.symm hij)]
      rw [List.set_set, List.set_set, List.set_comm _ _ hij, List.set_set]
    · show te ((((σ.set j none).set i none).set i (some x)).set j (some z)) _ _
      refine he k x z _ _ _ hk (s.trans s') ex ez hy fun H4 s4 => ⟨ys.take k, s4 _ _ (s' _ _ e), ?_, Same.own ((s.trans s').trans s4) hD, ?_⟩
      · have : (ys.take k).length ≤ k := List.length_take_le _ _
        exact Nat.lt_of_le_of_lt this (Nat.lt_of_lt_of_le hk (Nat.le_trans hz (by decide)))
      · rw [upd_same, take_snoc hy]
  · have e := p.2
    rw [hn, List.take_length] at e
    exact e
theorem all_map {us : List V} {g : V → Bool} : (us.map g).all id = us.all g := by
  rw [List.all_map]
  rfl
theorem map_bl {us : List V} {g : V → Bool} : us.map (fun u => V.bl (g u)) = (us.map g).map V.bl := by
  rw [List.map_map]
  rfl
section
variable {P : Program} {w : World} {K : PySem.W.Frag} {mg : Str → Option Value} {base : Heap} {f : Addr} {fd : FuncData}
theorem ok_is_sized (T : Txt K mg) (F : Fun K "is_sized" "is_sized" s_is_sized f fd) : FnOk P w K mg base (L2.CX P w) 1 f fd p_is_sized sp_is_sized := by
  refine F.okX sc_is_sized (fun vs H Q E h => ?_) (fun cdv A outer s H vs Q E hr h => ?_)
  · obtain ⟨_, _, _, rfl, _⟩ := h
    rfl
  · obtain ⟨x, lo, hi, rfl, o, th, jd, q⟩ := h
    refine ⟨_, (pss_one (ps_ret (pe_and (pe_callB call_isi (by rfl) T.b_isinstance (by decide +kernel) (pa_cons (pv 0) (pa_cons (pe_bltn (by rfl) T.b_tuple (by decide +kernel) (v := .ty "tuple") rfl) pa_nil))) (pe_one (pe_chain op_le op_le (pv 1) (pe_callB call_len (by rfl) T.b_len (by decide +kernel) (pa_cons (pv 0) pa_nil)) (pv 2)))))), ?_⟩
    obtain ⟨n, k, e⟩ := th.kd
    refine ⟨x, rfl, x, .ty "tuple", .type n, .type "tuple", _, rfl, .ty _, k.ty, k.isTup, _, rfl, ?_⟩
    rw [e]
    cases th with
    | oth k h => exact iteF q
    | @tup a us ha =>
      refine iteT ⟨_, rfl, _, rfl, _, us.length, rfl, .inr ⟨us, SqT.of ha, rfl⟩, _, _, rfl, rfl, _, rfl, ?_⟩
      show if decide (lo ≤ ((us.length : Nat) : Int)) = true then _ else _
      have q' : Q (.bl (decide (lo ≤ (us.length : Int)) && decide ((us.length : Int) ≤ hi))) H := q
      cases h1 : decide (lo ≤ ((us.length : Nat) : Int)) with
      | false =>
        rw [h1, Bool.false_and] at q'
        exact iteF q'
      | true =>
        rw [h1, Bool.true_and] at q'
        exact iteT ⟨_, rfl, _, _, rfl, rfl, q'⟩
theorem ok_is_listed (T : Txt K mg) (F : Fun K "is_listed" "is_listed" s_is_listed f fd) : FnOk P w K mg base (L2.CX P w) 1 f fd p_is_listed sp_is_listed := by
  refine F.okX sc_is_listed (fun vs H Q E h => ?_) (fun cdv A outer s H vs Q E hr h => ?_)
  · obtain ⟨_, rfl, _⟩ := h
    rfl
  · obtain ⟨x, rfl, n, k, q⟩ := h
    refine ⟨_, (pss_one (ps_ret (pe_callB call_isiT (by rfl) T.b_isinstance (by decide +kernel) (pa_cons (pv 0) (pa_cons (pe_tup (pa_cons (pe_bltn (by rfl) T.b_list (by decide +kernel) (v := .ty "list") rfl) (pa_cons (pe_bltn (by rfl) T.b_tuple (by decide +kernel) (v := .ty "tuple") rfl) pa_nil))) pa_nil))))), ?_⟩
    refine ⟨x, rfl, (by show 2 ≤ sizeLine; decide), fun t ht => ?_⟩
    have s := Same.new (H := H) (o := .tup [.ty "list", .ty "tuple"]) ht
    exact ⟨x, t, [.ty "list", .ty "tuple"], .type n, [.type "list", .type "tuple"], _, rfl, upd_same, .cons (.ty _) (.cons (.ty _) .nil), (k.mono s).ty, k.isSeq2, q _ s⟩
theorem ok_check_within (T : Txt K mg) (c_is_within : Kn P w K mg base "is_within" 2 p_is_within sp_is_within) (F : Fun K "check_within" "check_within" s_check_within f fd) :
    FnOk P w K mg base (L2.CX P w) 3 f fd p_check_within (sp_check_within (cc K "NoNumber")) := by
  refine F.okX sc_check_within (fun vs H Q E h => ?_) (fun cdv A outer s H vs Q E hr h => ?_)
  · obtain ⟨_, _, _, rfl, _⟩ := h
    rfl
  · obtain ⟨x, lo, hi, rfl, k, q1, q2⟩ := h
    refine ⟨_, (pss_one (ps_if (pt_not (pt_val (pc c_is_within hr (by first | decide | omega) passL (pa_cons (pv 0) (pa_cons (pv 1) (pa_cons (pv 2) pa_nil)))))) (pss_one (rz0 T.e_NoNumber (takes_of rfl rfl rfl rfl))) pss_nil)), ?_⟩
    refine ⟨x, rfl, _, rfl, _, rfl, x, lo, hi, rfl, k, _, rfl, ?_⟩
    cases e : vin lo hi x with
    | true => exact iteF (q1 e)
    | false => exact iteT (q2 e)
theorem ok_is_row (T : Txt K mg) (F : Fun K "is_row" "is_row" s_is_row f fd) : FnOk P w K mg base (L2.CX P w) 1 f fd p_is_row sp_is_row := by
  refine F.okX sc_is_row (fun vs H Q E h => ?_) (fun cdv A outer s H vs Q E hr h => ?_)
  · obtain ⟨_, rfl, _⟩ := h
    rfl
  · obtain ⟨x, rfl, o, th, jd, q⟩ := h
    refine ⟨_, (pss_cons (ps_if (pt_not (pt_val (pe_callB call_isi (by rfl) T.b_isinstance (by decide +kernel) (pa_cons (pv 0) (pa_cons (pe_bltn (by rfl) T.b_tuple (by decide +kernel) (v := .ty "tuple") rfl) pa_nil))))) (pss_one (ps_ret pe_bl)) pss_nil)
 (pss_one (ps_ret (pe_callB (cr_all rfl) (by rfl) T.b_all (by decide +kernel) (pa_cons (pe_lc (own := [("byte", 1)]) (g := gName 1) rfl sc_is_row.nd (pi_tup (pv 0)) (blkOk_by (N := N_is_row) (sc := defScope s_is_row) (by decide +kernel)) (fun _ _ _ _ _ => (pg_name (i := 1) sc_is_row.nd rfl (Or.inl rfl))) (fun _ _ _ _ _ => pts_nil) (fun _ _ _ _ _ => (pe_and (pe_callB (id := "isinstance") (r := rIsi K) call_isi (by rfl) T.b_isinstance (by decide +kernel) (pa_cons (pv 1) (pa_cons (pe_bltn (by rfl) T.b_int (by decide +kernel) (v := .ty "int") rfl) pa_nil))) (pe_and (pe_not (pe_callB (id := "isinstance") (r := rIsi K) call_isi (by rfl) T.b_isinstance (by decide +kernel) (pa_cons (pv 1) (pa_cons (pe_bltn (by rfl) T.b_bool (by decide +kernel) (v := .ty "bool") rfl) pa_nil)))) (pe_one (pe_chain op_le op_lt pe_int (pv 1) (pgc (T.k_BYTES)))))))) pa_nil))))), ?_⟩
    obtain ⟨n, k, e⟩ := th.kd
    refine ⟨x, rfl, x, .ty "tuple", .type n, .type "tuple", _, rfl, .ty _, k.ty, k.isTup, _, rfl, ?_⟩
    rw [e]
    cases th with
    | oth k h => exact iteT (q H (Same.refl H))
    | @tup a us ha =>
      obtain ⟨hl, hk⟩ := jd us rfl
      refine iteF ?_
      refine ⟨_, rfl, a, rfl, ⟨us, SqT.of ha⟩, lc1 walk_tup (us.map fun u => V.bl (vin 0 255 u)) (by rw [List.length_map]) hl (fun H' s => SqT.of (s _ _ ha)) (fun i x H2 H3 y Q' hi s yv hy => ?_) fun D H2 hD s hd => ?_⟩
      · obtain ⟨rfl, hx⟩ := yv
        obtain rfl : V.bl (vin 0 255 x) = y := by
          rw [List.getElem?_map, hx] at hy
          exact Option.some.inj hy
        obtain ⟨n, k⟩ := hk x (List.mem_of_getElem? hx)
        have k := k.mono s
        refine ⟨Same.refl _, fun q' => ?_⟩
        have kb := k.isBool (K := K)
        have kt := k.ty (K := K)
        refine ⟨x, rfl, x, .ty "int", .type n, .type "int", _, rfl, .ty _, k.ty, k.isInt, _, rfl, ?_⟩
        cases k with
        | int j =>
          refine iteT ⟨_, rfl, _, .ty "bool", _, .type "bool", _, rfl, .ty _, kt, kb, _, rfl, _, rfl, ?_⟩
          refine iteT ⟨_, rfl, _, _, rfl, rfl, _, rfl, ?_⟩
          show if decide ((0 : Int) ≤ j) = true then _ else _
          have q2 := q' H3 (Same.refl _)
          have ev : vin 0 255 (.int j) = (decide ((0 : Int) ≤ j) && decide (j < 256)) := by
            show (decide ((0 : Int) ≤ j) && decide (j ≤ 255)) = _
            rw [show decide (j ≤ 255) = decide (j < 256) from decide_eq_decide.mpr (by omega)]
          rw [ev] at q2
          cases h1 : decide ((0 : Int) ≤ j) with
          | false =>
            rw [h1, Bool.false_and] at q2
            exact iteF q2
          | true =>
            rw [h1, Bool.true_and] at q2
            exact iteT ⟨_, _, rfl, rfl, q2⟩
        | bl b =>
          refine iteT ⟨_, rfl, _, .ty "bool", _, .type "bool", _, rfl, .ty _, kt, kb, _, rfl, _, rfl, ?_⟩
          exact iteF (q' H3 (Same.refl _))
        | _ => exact iteF (q' H3 (Same.refl _))
      · refine ⟨D, us.map (vin 0 255), rfl, SqL.of (by rw [hd, map_bl]), ?_⟩
        rw [all_map]
        exact q H2 s
theorem ok_check_row (T : Txt K mg) (c_is_row : Kn P w K mg base "is_row" 1 p_is_row sp_is_row) (F : Fun K "check_row" "check_row" s_check_row f fd) :
    FnOk P w K mg base (L2.CX P w) 2 f fd p_check_row (sp_check_row (cc K "NoRow")) := by
  refine F.okX sc_check_row (fun vs H Q E h => ?_) (fun cdv A outer s H vs Q E hr h => ?_)
  · obtain ⟨_, rfl, _⟩ := h
    rfl
  · obtain ⟨x, rfl, o, th, jd, q1, q2⟩ := h
    refine ⟨_, (pss_one (ps_if (pt_not (pt_val (pc c_is_row hr (by first | decide | omega) passL (pa_cons (pv 0) pa_nil)))) (pss_one (rz0 T.e_NoRow (takes_of rfl rfl rfl rfl))) pss_nil)), ?_⟩
    refine ⟨x, rfl, x, rfl, o, th, jd, fun H' s => ⟨_, rfl, ?_⟩⟩
    cases e : rowB o with
    | true => exact iteF (q1 e H' s)
    | false => exact iteT (q2 e H' s)
end
end Cl
set_option maxRecDepth 100000
set_option maxHeartbeats 4000000
/-! parcels judged; their bytes -/
namespace Cl
open PySem PySem.Spec PyProof.Rows L2 RZ
/-- where a def stands -/
structure At (K : PySem.W.Frag) (mg : Str → Option Value) (x : Str) (f : Addr) (fd : FuncData) (ps : List Str) : Prop where
  g : mg x = some (.ref f)
  k : PySem.W.keepIn K (.ref f) = true
  b : Binds K fd ps []
section
variable {P : Program} {w : World} {K : PySem.W.Frag} {mg : Str → Option Value} {base : Heap} {f : Addr} {fd : FuncData} {x : Str} {k : Nat} {ps : List Str} {sp : Sp}
theorem Kn.of (a : At K mg x f fd ps) (F : FnOk P w K mg base (L2.CX P w) k f fd ps sp) : Kn P w K mg base x k ps sp := ⟨f, fd, F, a.g, a.k, a.b⟩
/-- the promise that asks what never holds -/
theorem fn_no : FnOk P w K mg base (L2.CX P w) 0 f fd ps (fun _ _ _ _ => False) := ⟨fun _ _ _ _ h => h.elim, fun _ _ _ _ _ _ _ _ _ _ _ _ _ h => h.elim⟩
end
mutual
/-- integers and lengths that are not too great -/
def sm : D → Bool
  | .int i => decide (i.natAbs ≤ 10 ^ 19 + 1)
  | .str s => decide (s.length ≤ 20)
  | .tup xs => decide (xs.length ≤ 100000) && sms xs
  | .lst _ => false
  | _ => true
def sms : List D → Bool
  | [] => true
  | x :: xs => sm x && sms xs
end
theorem sms_mem : ∀ {ds : List D}, sms ds = true → ∀ d ∈ ds, sm d = true
  | [], _, d, h => by cases h
  | x :: xs, h, d, hd => by
    have h' := Bool.and_eq_true_iff.mp (show (sm x && sms xs) = true from h)
    rcases List.mem_cons.mp hd with e | hd
    · rw [e]; exact h'.1
    · exact sms_mem h'.2 d hd
theorem wrs_app : ∀ a b : List D, wrs (a ++ b) = wrs a ++ wrs b
  | [], b => rfl
  | x :: a, b => by
    show wr x ++ wrs (a ++ b) = wr x ++ wrs a ++ wrs b
    rw [wrs_app a b, List.append_assoc]
theorem wrs_le {ds : List D} {d : D} (h : d ∈ ds) : (wr d).length ≤ (wrs ds).length := by
  obtain ⟨a, b, rfl⟩ := List.append_of_mem h
  rw [wrs_app]
  show _ ≤ (wrs a ++ (wr d ++ wrs b)).length
  rw [List.length_append, List.length_append]
  omega
theorem wrs_take_le (ds : List D) (i : Nat) : (wrs (ds.take i)).length ≤ (wrs ds).length := by
  have e : wrs ds = wrs (ds.take i) ++ wrs (ds.drop i) := by rw [← wrs_app, List.take_append_drop]
  rw [e, List.length_append]
  omega
theorem dec_all {ds : List D} {n : Nat} : decide (deps ds ≤ n) = ds.all fun d => decide (dep d ≤ n) := by
  induction ds with
  | nil => rfl
  | cons x xs ih =>
    rw [List.all_cons, ← ih, ← Bool.decide_and]
    refine decide_eq_decide.mpr ?_
    show max (dep x) (deps xs) ≤ n ↔ _
    omega
def sp_short : Sp := fun vs H Q _ => ∃ x, vs = [x] ∧ ∃ s : List Nat, x = .str ⟨s.toArray⟩ ∧ vstr s = true ∧ ∀ H', Same H H' → Q (.bl true) H'
def sp_ipd (n : Nat) : Sp := fun vs H Q _ => ∃ x y, vs = [x, y] ∧ ∃ (l : Nat) (d : D), y = .int (l : Int) ∧ Is H x d ∧ vd d = true ∧ sm d = true ∧ dep d ≤ n ∧ ∀ H', Same H H' → Q (.bl (decide (dep d ≤ l))) H'
def sp_is_parcel : Sp := fun vs H Q _ => ∃ x, vs = [x] ∧ ∃ d : D, Is H x d ∧ vd d = true ∧ sm d = true ∧ dep d ≤ 21 ∧ ∀ H', Same H H' → Q (.bl (decide (dep d ≤ 20))) H'
/-- a new list of the bytes of r -/
abbrev NewL (H : Hp) (Q : VK) (r : List Nat) : Prop := ∀ p H', H p = none → Same H H' → H' p = some (.lst (rv r)) → Q (.ref p) H'
def sp_whole : Sp := fun vs H Q _ => ∃ x, vs = [x] ∧ ∃ n : Nat, x = .int (n : Int) ∧ n < 128 ^ 11 ∧ NewL H Q (figs n)
def sp_bytes (n : Nat) : Sp := fun vs H Q _ => ∃ x, vs = [x] ∧ ∃ d : D, Is H x d ∧ vd d = true ∧ sm d = true ∧ (wr d).length ≤ 100000 ∧ dep d ≤ n ∧ NewL H Q (wr d)
section
variable {P : Program} {w : World} {K : PySem.W.Frag} {mg : Str → Option Value} {base : Heap} {f : Addr} {fd : FuncData}
theorem str_at {s : List Nat} {i c : Nat} (h : (⟨s.toArray⟩ : Str).cps[i]? = some c) : s[i]? = some c := by simpa using h
theorem ok_short (T : Txt K mg) (c_is_sign : Kn P w K mg base "is_sign" 1 p_is_sign sp_is_sign) (F : Fun K "is_short_string" "is_short_string" s_is_short_string f fd) : FnOk P w K mg base (L2.CX P w) 2 f fd p_is_short_string sp_short := by
  refine F.okX sc_is_short_string (fun vs H Q E h => ?_) (fun cdv A outer s H vs Q E hr h => ?_)
  · obtain ⟨_, rfl, _⟩ := h
    rfl
  · obtain ⟨x, rfl, s, rfl, hv, q⟩ := h
    obtain ⟨v1, v2, v3⟩ := vstr_mem hv
    have hl : (⟨s.toArray⟩ : Str).length = s.length := SX.S_len s
    refine ⟨_, (pss_cons (ps_if (PW.pt (pw_or (pt_not (pt_val (pe_callB call_isi (by rfl) T.b_isinstance (by decide +kernel) (pa_cons (pv 0) (pa_cons (pe_bltn (by rfl) T.b_str (by decide +kernel) (v := .ty "str") rfl) pa_nil))))) (pw_or1 (pt_not (pt_chain op_le op_le pe_int (pe_callB call_len (by rfl) T.b_len (by decide +kernel) (pa_cons (pv 0) pa_nil)) (pgc (T.k_MOST_SIGNS))))))) (pss_one (ps_ret pe_bl)) pss_nil)
 (pss_one (ps_ret (pe_callB (cr_all rfl) (by rfl) T.b_all (by decide +kernel) (pa_cons (pe_lc (own := [("sign", 1)]) (g := gName 1) rfl sc_is_short_string.nd (pi_str (pv 0)) (blkOk_by (N := N_is_short_string) (sc := defScope s_is_short_string) (by decide +kernel)) (fun _ _ _ _ _ => (pg_name (i := 1) sc_is_short_string.nd rfl (Or.inl rfl))) (fun _ _ _ _ _ => pts_nil) (fun _ _ _ _ _ => (pc c_is_sign hr (by first | decide | omega) passL (pa_cons (pe_callB (id := "ord") call_ord (by rfl) T.b_ord (by decide +kernel) (pa_cons (pv 1) pa_nil)) pa_nil)))) pa_nil))))), ?_⟩
    have k : Kd H (.str ⟨s.toArray⟩) "str" := .str _
    refine ⟨_, rfl, _, .ty "str", _, .type "str", _, rfl, .ty _, k.ty, k.isStr, _, rfl, ?_⟩
    refine iteF ⟨_, rfl, _, _, rfl, ⟨by rw [hl]; exact Nat.le_trans v2 (by decide), rfl⟩, _, _, rfl, rfl, _, rfl, ?_⟩
    rw [hl]
    show if decide ((1 : Int) ≤ ((s.length : Nat) : Int)) = true then _ else _
    rw [decide_eq_true (by omega)]
    refine iteT ⟨_, _, rfl, rfl, _, rfl, ?_⟩
    show if (!decide (((s.length : Nat) : Int) ≤ 20)) = true then _ else _
    rw [decide_eq_true (by omega)]
    refine iteF ?_
    refine ⟨_, rfl, _, rfl, lc1 walk_str (s.map fun c => V.bl (sgn c)) (by simp) (by simp; omega) (fun _ _ => trivial) (fun i x H2 H3 y Q' hi s2 yv hy => ?_) fun D H2 hD s2 hd => ?_⟩
    · obtain ⟨rfl, c, hc, rfl⟩ := yv
      have hc' := str_at hc
      obtain rfl : V.bl (sgn c) = y := by
        rw [List.getElem?_map, hc'] at hy
        exact Option.some.inj hy
      refine ⟨Same.refl _, fun q' => ?_⟩
      exact ⟨_, rfl, _, rfl, rfl, _, rfl, c, rfl, q' H3 (Same.refl _)⟩
    · refine ⟨D, s.map sgn, rfl, SqL.of (by rw [hd, List.map_map]; rfl), ?_⟩
      have e : (s.map sgn).all id = true := by
        rw [List.all_map]
        exact List.all_eq_true.mpr v3
      rw [e]
      exact q H2 s2
theorem ok_ipd1 (T : Txt K mg) (n : Nat) {k : Nat} {spR : Sp} (c_is_short_string : Kn P w K mg base "is_short_string" 2 p_is_short_string sp_short) (c_is_parcel_deep : Kn P w K mg base "is_parcel_deep" k p_is_parcel_deep spR) (hk_is_parcel_deep : k ≤ n + 2)
    (hR : ∀ m, n = m + 1 → spR = sp_ipd m) (F : Fun K "is_parcel_deep" "is_parcel_deep" s_is_parcel_deep f fd) : FnOk P w K mg base (L2.CX P w) (n + 3) f fd p_is_parcel_deep (sp_ipd n) := by
  refine F.okX sc_is_parcel_deep (fun vs H Q E h => ?_) (fun cdv A outer s H vs Q E hr h => ?_)
  · obtain ⟨_, _, rfl, _⟩ := h
    rfl
  · obtain ⟨x, y, rfl, l, d, rfl, hd, hv, hs, hn, q⟩ := h
    have h2 : 2 ≤ n + 2 := by omega
    refine ⟨_, (pss_cons (ps_if (pt_val (pe_callB call_isi (by rfl) T.b_isinstance (by decide +kernel) (pa_cons (pv 0) (pa_cons (pe_bltn (by rfl) T.b_tuple (by decide +kernel) (v := .ty "tuple") rfl) pa_nil)))) (pss_one (ps_ret (pe_and (pe_cmpR op_gt (pv 1) pe_int (nomark _)) (pe_one (pe_callB (cr_all rfl) (by rfl) T.b_all (by decide +kernel) (pa_cons (pe_lc (own := [("item", 2)]) (g := gName 2) rfl sc_is_parcel_deep.nd (pi_tup (pv 0)) (blkOk_by (N := N_is_parcel_deep) (sc := defScope s_is_parcel_deep) (by decide +kernel)) (fun _ _ _ _ _ => (pg_name (i := 2) sc_is_parcel_deep.nd rfl (Or.inl rfl))) (fun _ _ _ _ _ => pts_nil) (fun _ _ _ _ _ => (pc c_is_parcel_deep hr (hk_is_parcel_deep) passL (pa_cons (pv 2) (pa_cons (pe_op op_sub (pv 1) pe_int) pa_nil))))) pa_nil)))))) pss_nil)
 (pss_one (ps_ret (pe_or (pe_cmpR op_isN (pv 0) pe_non (nomark _)) (pe_or (pe_callB call_isi (by rfl) T.b_isinstance (by decide +kernel) (pa_cons (pv 0) (pa_cons (pe_bltn (by rfl) T.b_int (by decide +kernel) (v := .ty "int") rfl) pa_nil))) (pe_one (pc c_is_short_string hr (by first | decide | omega) passL (pa_cons (pv 0) pa_nil)))))))), ?_⟩
    have key : (∃ nm, Kd H x nm ∧ (nm == "tuple") = false ∧ dep d = 0) ∨ ∃ xs, d = .tup xs := by
      cases d with
      | non => exact .inl ⟨_, by rw [show x = .non from hd]; exact .non, rfl, rfl⟩
      | bl b => exact .inl ⟨_, by rw [show x = .bl b from hd]; exact .bl b, rfl, rfl⟩
      | int i => exact .inl ⟨_, by rw [show x = .int i from hd]; exact .int i, rfl, rfl⟩
      | str s => exact .inl ⟨_, by rw [show x = .str ⟨s.toArray⟩ from hd]; exact .str _, rfl, rfl⟩
      | tup xs => exact .inr ⟨xs, rfl⟩
      | lst xs => cases hv
    rcases key with ⟨nm, kd, hne, h0⟩ | ⟨xs, rfl⟩
    · have q0 : ∀ H', Same H H' → Q (.bl true) H' := fun H' s => by
        have := q H' s
        rw [h0] at this
        rw [decide_eq_true (Nat.zero_le _)] at this
        exact this
      refine ⟨x, rfl, x, .ty "tuple", _, .type "tuple", _, rfl, .ty _, kd.ty, kd.isTup, _, rfl, ?_⟩
      rw [hne]
      refine iteF ⟨x, rfl, rfl, _, rfl, ?_⟩
      cases e : decide (x = .non) with
      | true => exact iteT (q0 H (Same.refl _))
      | false =>
        refine iteF ⟨x, rfl, x, .ty "int", .type nm, .type "int", _, rfl, .ty _, kd.ty, kd.isInt, _, rfl, ?_⟩
        cases d with
        | non =>
          rw [show x = .non from hd] at e
          cases e
        | bl b =>
          obtain rfl : x = .bl b := hd
          cases kd
          exact iteT (q0 H (Same.refl _))
        | int i =>
          obtain rfl : x = .int i := hd
          cases kd
          exact iteT (q0 H (Same.refl _))
        | str s =>
          obtain rfl : x = .str ⟨s.toArray⟩ := hd
          cases kd
          exact iteF ⟨_, rfl, _, rfl, s, rfl, hv, q0⟩
        | tup xs => exact absurd h0 (by show deps xs + 1 ≠ 0; omega)
        | lst xs => cases hv
    · obtain ⟨a, us, rfl, ha, hu⟩ := hd
      have kd : Kd H (.ref a) "tuple" := .tup ha
      refine ⟨_, rfl, _, .ty "tuple", _, .type "tuple", _, rfl, .ty _, kd.ty, kd.isTup, _, rfl, iteT ?_⟩
      have hs' := Bool.and_eq_true_iff.mp (show (decide (xs.length ≤ 100000) && sms xs) = true from hs)
      have hlen := of_decide_eq_true hs'.1
      have ul := hu.len
      cases n with
      | zero => exact absurd hn (by show ¬ deps xs + 1 ≤ 0; omega)
      | succ n =>
        have hR' := hR n rfl
        subst hR'
        refine ⟨_, rfl, _, _, rfl, rfl, _, rfl, ?_⟩
        cases l with
        | zero =>
          have q0 := q H (Same.refl _)
          have e0 : decide (dep (.tup xs) ≤ 0) = false := decide_eq_false (by show ¬ deps xs + 1 ≤ 0; omega)
          rw [e0] at q0
          exact iteF q0
        | succ l =>
          show if decide ((0 : Int) < ((l + 1 : Nat) : Int)) = true then _ else _
          rw [decide_eq_true (by omega)]
          refine iteT ?_
          refine ⟨_, rfl, a, rfl, ⟨us, SqT.of ha⟩, lc1 walk_tup (xs.map fun d => V.bl (decide (dep d ≤ l))) (by rw [List.length_map]; exact ul) (by rw [ul]; exact hlen) (fun H' s => SqT.of (s _ _ ha)) (fun i x H2 H3 y Q' hi s2 yv hy => ?_) fun D H2 hD s2 hdd => ?_⟩
          · obtain ⟨rfl, hx⟩ := yv
            obtain ⟨d, e1, e2⟩ := hu.get hx
            obtain rfl : V.bl (decide (dep d ≤ l)) = y := by
              rw [List.getElem?_map, e1] at hy
              exact Option.some.inj hy
            have mem := List.mem_of_getElem? e1
            refine ⟨Same.refl _, fun q' => ?_⟩
            refine ⟨_, rfl, _, rfl, _, _, rfl, rfl, _, _, rfl, l, d, ?_, e2.mono s2 d x, vds_mem hv d mem, sms_mem hs'.2 d mem, deps_mem (show deps xs ≤ n by have : deps xs + 1 ≤ n + 1 := hn; omega) d mem, q'⟩
            show V.int (((l + 1 : Nat) : Int) - 1) = V.int (l : Int)
            congr 1
            omega
          · refine ⟨D, xs.map fun d => decide (dep d ≤ l), rfl, SqL.of (by rw [hdd, List.map_map]; rfl), ?_⟩
            have e : (xs.map fun d => decide (dep d ≤ l)).all id = decide (dep (.tup xs) ≤ l + 1) := by
              rw [List.all_map]
              have : decide (dep (.tup xs) ≤ l + 1) = decide (deps xs ≤ l) := decide_eq_decide.mpr (by show deps xs + 1 ≤ l + 1 ↔ _; omega)
              rw [this, dec_all]
              rfl
            rw [e]
            exact q H2 s2
theorem ok_ipd (T : Txt K mg) (c_is_short_string : Kn P w K mg base "is_short_string" 2 p_is_short_string sp_short) (F : Fun K "is_parcel_deep" "is_parcel_deep" s_is_parcel_deep f fd) (a : At K mg "is_parcel_deep" f fd p_is_parcel_deep) :
    ∀ n, FnOk P w K mg base (L2.CX P w) (n + 3) f fd p_is_parcel_deep (sp_ipd n)
  | 0 => ok_ipd1 T 0 c_is_short_string (Kn.of a fn_no) (by omega) (fun m h => by omega) F
  | n + 1 => ok_ipd1 T (n + 1) c_is_short_string (Kn.of a (ok_ipd T c_is_short_string F a n)) (by omega) (fun m h => by rw [show m = n by omega]) F
theorem ok_is_parcel (T : Txt K mg) (c_is_parcel_deep : Kn P w K mg base "is_parcel_deep" 24 p_is_parcel_deep (sp_ipd 21)) (F : Fun K "is_parcel" "is_parcel" s_is_parcel f fd) : FnOk P w K mg base (L2.CX P w) 25 f fd p_is_parcel sp_is_parcel := by
  refine F.okX sc_is_parcel (fun vs H Q E h => ?_) (fun cdv A outer s H vs Q E hr h => ?_)
  · obtain ⟨_, rfl, _⟩ := h
    rfl
  · obtain ⟨x, rfl, d, hd, hv, hs, hn, q⟩ := h
    refine ⟨_, (pss_one (ps_ret (pc c_is_parcel_deep hr (by first | decide | omega) passL (pa_cons (pv 0) (pa_cons (pgc (T.k_MOST_DEEP)) pa_nil))))), ?_⟩
    exact ⟨x, rfl, _, _, rfl, 20, d, rfl, hd, hv, hs, hn, q⟩
end
end Cl
set_option maxRecDepth 100000
set_option maxHeartbeats 4000000
/-! the bytes of a parcel -/
namespace Cl
open PySem PySem.Spec PyProof.Rows L2 RZ
def NewT (H : Hp) (Q : VK) (r : List Nat) : Prop := ∀ p H', Same H H' → H' p = some (.tup (rv r)) → Q (.ref p) H'
def sp_row_of (C : Addr) : Sp := fun vs H Q E => ∃ x, vs = [x] ∧ ∃ d : D, Is H x d ∧ vd d = true ∧ sm d = true ∧ (wr d).length ≤ 100000 ∧ dep d ≤ 20 ∧ NewT H Q (wr d)
section
variable {P : Program} {w : World} {K : PySem.W.Frag} {mg : Str → Option Value} {base : Heap} {f : Addr} {fd : FuncData}
theorem szl {n : Nat} (h : n ≤ 1000000) : n ≤ sizeLine := Nat.le_trans h (by decide)
theorem szlt {n : Nat} (h : n ≤ 1000000) : n < sizeLine := Nat.lt_of_le_of_lt h (by decide)
theorem ok_whole (T : Txt K mg) (F : Fun K "whole" "whole" s_whole f fd) : FnOk P w K mg base (L2.CX P w) 1 f fd p_whole sp_whole := by
  refine F.okX sc_whole (fun vs H Q E h => ?_) (fun cdv A outer s H vs Q E hr h => ?_)
  · obtain ⟨_, rfl, _⟩ := h
    rfl
  · obtain ⟨x, rfl, n, rfl, hn, q⟩ := h
    refine ⟨_, (pss_cons (ps_set (i := 1) sc_whole.nd rfl (Or.inl rfl) (pe_lst pa_nil))
 (pss_cons (ps_while (passes_of rfl) (pt_cmpR op_ge (pv 0) (pgc (T.k_BASE)) (nomark _)) (pss_cons (ps_expr (pe_bm PySem.F.plainAttrs_list PySem.F.slot_list_append PySem.F.type_list_append mt_append (pv 1) (pa_cons (pe_op op_add (pgc (T.k_BASE)) (pe_op op_mod (pv 0) (pgc (T.k_BASE)))) pa_nil)))
 (pss_one (ps_set (i := 0) sc_whole.nd rfl (Or.inl rfl) (pe_op op_fdiv (pv 0) (pgc (T.k_BASE)))))))
 (pss_one (ps_ret (pe_op op_cat (pv 1) (pe_lst (pa_cons (pv 0) pa_nil))))))), ?_⟩
    have hf : (figs n).length ≤ 11 := figs_len 10 n hn
    refine ⟨szl (by decide), fun p hp => ?_⟩
    refine ⟨fun k σ H' => ∃ m pre, k = m ∧ σ = [some (.int (m : Int)), some (.ref p)] ∧ figs n = pre ++ figs m ∧ Same H H' ∧ H' p = some (.lst (rv pre)),
      ⟨n, n, [], rfl, rfl, rfl, Same.new hp, upd_same⟩, ?_⟩
    rintro k σ H' ⟨m, pre, rfl, rfl, e, s1, hl⟩
    have hpre : pre.length ≤ 11 := by
      rw [e, List.length_append] at hf
      omega
    refine ⟨_, rfl, _, _, rfl, rfl, _, rfl, ?_⟩
    show if decide ((128 : Int) ≤ (k : Int)) = true then _ else _
    by_cases hk : k < 128
    · rw [decide_eq_false (by omega)]
      refine iteF ?_
      refine ⟨_, rfl, _, rfl, szl (by show 1 ≤ 1000000; decide), fun z hz => ?_⟩
      have npz : p ≠ z := ne_of_none hl hz
      refine ⟨p, z, rv pre, [.int (k : Int)], rfl, rfl, by rw [upd_ne npz]; exact hl, upd_same, szl (by rw [rv_len]; show pre.length + 1 ≤ _; omega), fun r hr => ?_⟩
      have s2 : Same H (upd H' z (.lst [.int (k : Int)])) := s1.trans (Same.new hz)
      refine q r _ (s2.free hr) (s2.trans (Same.new hr)) ?_
      rw [upd_same, e, figs_small hk, rv_app]
      rfl
    · rw [decide_eq_true (by omega)]
      refine iteT ⟨fun σ' H2 => ∃ m pre, m < k ∧ σ' = [some (.int (m : Int)), some (.ref p)] ∧ figs n = pre ++ figs m ∧ Same H H2 ∧ H2 p = some (.lst (rv pre)), fun σ' H2 ⟨m, pre, lt, h⟩ => ⟨m, lt, m, pre, rfl, h⟩, ?_⟩
      refine ⟨_, rfl, .inl ⟨rfl, _, SqL.of hl⟩, _, rfl, _, _, rfl, rfl, (by show (0 : Int) < 128; decide), _, _, rfl, rfl, p, _, _, rfl, rfl, hl, szlt (by rw [rv_len]; omega), ?_⟩
      refine ⟨_, rfl, _, _, rfl, rfl, ⟨by decide, by decide⟩, k / 128, pre ++ [128 + k % 128], by omega, ?_, ?_, Same.own s1 hp, ?_⟩
      · show [some (V.int ((k : Int) / 128)), some (V.ref p)] = _
        rfl
      · rw [e, figs_big hk, List.append_assoc]
        rfl
      · rw [upd_same, rv_app]
        rfl
theorem small_int {i : Int} (h : i.natAbs ≤ 10 ^ 19 + 1) : i.toNat < 128 ^ 11 ∧ (-1 - i).toNat < 128 ^ 11 := by
  have : (10 : Nat) ^ 19 + 3 < 128 ^ 11 := by decide
  omega
theorem ok_bytes1 (T : Txt K mg) (n : Nat) {k : Nat} {spR : Sp} (c_whole : Kn P w K mg base "whole" 1 p_whole sp_whole) (c_bytes_of : Kn P w K mg base "bytes_of" k p_bytes_of spR) (hk_bytes_of : k ≤ n + 1) (hR : ∀ m, n = m + 1 → spR = sp_bytes m)
    (F : Fun K "bytes_of" "bytes_of" s_bytes_of f fd) : FnOk P w K mg base (L2.CX P w) (n + 2) f fd p_bytes_of (sp_bytes n) := by
  refine F.okX sc_bytes_of (fun vs H Q E h => ?_) (fun cdv A outer s H vs Q E hr h => ?_)
  · obtain ⟨_, rfl, _⟩ := h
    rfl
  · obtain ⟨x, rfl, d, hd, hv, hs, hw, hn, q⟩ := h
    refine ⟨_, (pss_cons (ps_if (pt_cmpR op_isN (pv 0) pe_non (nomark _)) (pss_one (ps_ret (pe_lst (pa_cons (pgc (T.k_NOTHING)) pa_nil)))) pss_nil)
 (pss_cons (ps_if (pt_val (pe_callB call_isi (by rfl) T.b_isinstance (by decide +kernel) (pa_cons (pv 0) (pa_cons (pe_bltn (by rfl) T.b_bool (by decide +kernel) (v := .ty "bool") rfl) pa_nil)))) (pss_one (ps_ret (pe_lst (pa_cons (pe_ifExp (pt_val (pv 0)) (pgc (T.k_YES)) (pgc (T.k_NO))) pa_nil)))) pss_nil)
 (pss_cons (ps_if (pt_val (pe_callB call_isi (by rfl) T.b_isinstance (by decide +kernel) (pa_cons (pv 0) (pa_cons (pe_bltn (by rfl) T.b_int (by decide +kernel) (v := .ty "int") rfl) pa_nil)))) (pss_one (ps_ret (pe_ifExp (pt_cmpR op_ge (pv 0) pe_int (nomark _)) (pe_op op_cat (pe_lst (pa_cons (pgc (T.k_NUMBER)) pa_nil)) (pc c_whole hr (by first | decide | omega) passL (pa_cons (pv 0) pa_nil))) (pe_op op_cat (pe_lst (pa_cons (pgc (T.k_BELOW)) pa_nil)) (pc c_whole hr (by first | decide | omega) passL (pa_cons (pe_op op_sub (pe_un un_neg pe_int) (pv 0)) pa_nil)))))) pss_nil)
 (pss_cons (ps_if (pt_val (pe_callB call_isi (by rfl) T.b_isinstance (by decide +kernel) (pa_cons (pv 0) (pa_cons (pe_bltn (by rfl) T.b_str (by decide +kernel) (v := .ty "str") rfl) pa_nil)))) (pss_one (ps_ret (pe_op op_cat (pe_op op_cat (pe_lst (pa_cons (pgc (T.k_STRING)) pa_nil)) (pc c_whole hr (by first | decide | omega) passL (pa_cons (pe_callB call_len (by rfl) T.b_len (by decide +kernel) (pa_cons (pv 0) pa_nil)) pa_nil))) (pe_lc (own := [("sign", 1)]) (g := gName 1) rfl sc_bytes_of.nd (pi_str (pv 0)) (blkOk_by (N := N_bytes_of) (sc := defScope s_bytes_of) (by decide +kernel)) (fun _ _ _ _ _ => (pg_name (i := 1) sc_bytes_of.nd rfl (Or.inl rfl))) (fun _ _ _ _ _ => pts_nil) (fun _ _ _ _ _ => (pe_callB (id := "ord") call_ord (by rfl) T.b_ord (by decide +kernel) (pa_cons (pv 1) pa_nil))))))) pss_nil)
 (pss_cons (ps_set (i := 2) sc_bytes_of.nd rfl (Or.inl rfl) (pe_op op_cat (pe_lst (pa_cons (pgc (T.k_SEVERAL)) pa_nil)) (pc c_whole hr (by first | decide | omega) passL (pa_cons (pe_callB call_len (by rfl) T.b_len (by decide +kernel) (pa_cons (pv 0) pa_nil)) pa_nil))))
 (pss_cons (ps_for (passes_of rfl) rfl (pi_tup (pv 0)) (pg_name (i := 3) sc_bytes_of.nd rfl (Or.inl rfl)) (pss_one (ps_expr (pe_bm PySem.F.plainAttrs_list PySem.F.slot_list_extend PySem.F.type_list_extend mt_extend (pv 2) (pa_cons (pc c_bytes_of hr (hk_bytes_of) passL (pa_cons (pv 3) pa_nil)) pa_nil)))))
 (pss_one (ps_ret (pv 2))))))))), ?_⟩
    refine ⟨x, rfl, rfl, _, rfl, ?_⟩
    cases d with
    | non =>
      obtain rfl : x = .non := hd
      refine iteT ⟨szl (by show 1 ≤ 1000000; decide), fun p hp => ?_⟩
      exact q p _ hp (Same.new hp) upd_same
    | bl b =>
      obtain rfl : x = .bl b := hd
      have kd : Kd H (.bl b) "bool" := .bl b
      refine iteF ⟨_, rfl, _, .ty "bool", _, .type "bool", _, rfl, .ty _, kd.ty, kd.isBool, _, rfl, iteT ⟨_, rfl, b, rfl, ?_⟩⟩
      cases b with
      | true =>
        refine iteT ⟨szl (by show 1 ≤ 1000000; decide), fun p hp => ?_⟩
        exact q p _ hp (Same.new hp) upd_same
      | false =>
        refine iteF ⟨szl (by show 1 ≤ 1000000; decide), fun p hp => ?_⟩
        exact q p _ hp (Same.new hp) upd_same
    | int i =>
      obtain rfl : x = .int i := hd
      have kd : Kd H (.int i) "int" := .int i
      obtain ⟨i1, i2⟩ := small_int (of_decide_eq_true hs)
      refine iteF ⟨_, rfl, _, .ty "bool", _, .type "bool", _, rfl, .ty _, kd.ty, kd.isBool, _, rfl, iteF ⟨_, rfl, _, .ty "int", _, .type "int", _, rfl, .ty _, kd.ty, kd.isInt, _, rfl, iteT ⟨_, rfl, _, _, rfl, rfl, _, rfl, ?_⟩⟩⟩
      show if decide ((0 : Int) ≤ i) = true then _ else _
      by_cases hi : i < 0
      · rw [decide_eq_false (by omega)]
        refine iteF ⟨szl (by show 1 ≤ 1000000; decide), fun p hp => ?_⟩
        refine ⟨_, rfl, _, rfl, _, _, rfl, rfl, _, rfl, (-1 - i).toNat, ?_, i2, fun z H' hz s2 hl => ?_⟩
        · show V.int (-1 - i) = _
          congr 1
          omega
        · have e : wr (.int i) = 4 :: figs (-1 - i).toNat := by
            unfold wr
            rw [if_pos hi]
          rw [e] at q hw
          refine ⟨p, z, [.int 4], _, rfl, rfl, s2 _ _ upd_same, hl, szl (by rw [rv_len]; show 1 + _ ≤ _; rw [List.length_cons] at hw; omega), fun r hr => ?_⟩
          have s3 : Same H H' := (Same.new hp).trans s2
          exact q r _ (s3.free hr) (s3.trans (Same.new hr)) (by rw [upd_same]; rfl)
      · rw [decide_eq_true (by omega)]
        refine iteT ⟨szl (by show 1 ≤ 1000000; decide), fun p hp => ?_⟩
        refine ⟨_, rfl, _, rfl, i.toNat, ?_, i1, fun z H' hz s2 hl => ?_⟩
        · congr 1
          omega
        · have e : wr (.int i) = 3 :: figs i.toNat := by
            unfold wr
            rw [if_neg hi]
          rw [e] at q hw
          refine ⟨p, z, [.int 3], _, rfl, rfl, s2 _ _ upd_same, hl, szl (by rw [rv_len]; show 1 + _ ≤ _; rw [List.length_cons] at hw; omega), fun r hr => ?_⟩
          have s3 : Same H H' := (Same.new hp).trans s2
          exact q r _ (s3.free hr) (s3.trans (Same.new hr)) (by rw [upd_same]; rfl)
    | str t =>
      obtain rfl : x = .str ⟨t.toArray⟩ := hd
      have kd : Kd H (.str ⟨t.toArray⟩) "str" := .str _
      obtain ⟨v1, v2, v3⟩ := vstr_mem hv
      have hl : (⟨t.toArray⟩ : Str).length = t.length := SX.S_len t
      have hw' : 1 + ((figs t.length).length + t.length) ≤ 100000 := by
        have e : (wr (.str t)).length = 1 + ((figs t.length).length + t.length) := by
          show (5 :: (figs t.length ++ t)).length = _
          rw [List.length_cons, List.length_append]
          omega
        omega
      refine iteF ⟨_, rfl, _, .ty "bool", _, .type "bool", _, rfl, .ty _, kd.ty, kd.isBool, _, rfl, iteF ⟨_, rfl, _, .ty "int", _, .type "int", _, rfl, .ty _, kd.ty, kd.isInt, _, rfl,
        iteF ⟨_, rfl, _, .ty "str", _, .type "str", _, rfl, .ty _, kd.ty, kd.isStr, _, rfl, iteT ⟨szl (by show 1 ≤ 1000000; decide), fun p hp => ?_⟩⟩⟩⟩
      refine ⟨_, rfl, _, _, rfl, ⟨by rw [hl]; exact Nat.le_trans v2 (by decide), rfl⟩, _, rfl, t.length, by rw [hl], Nat.lt_of_le_of_lt v2 (by decide), fun z H' hz s2 hlz => ?_⟩
      have s3 : Same H H' := (Same.new hp).trans s2
      refine ⟨p, z, [.int 5], _, rfl, rfl, s2 _ _ upd_same, hlz, szl (by rw [rv_len]; show 1 + _ ≤ _; omega), fun r hr => ?_⟩
      have s4 := Same.new (o := .lst ([.int 5] ++ rv (figs t.length))) hr
      refine ⟨_, rfl, _, rfl, lc1 walk_str (rv t) (by simp) (by simp; omega) (fun _ _ => trivial) (fun i x H2 H3 y Q' hi s5 yv hy => ?_) fun D H2 hD s5 hdd => ?_⟩
      · obtain ⟨rfl, c, hc, rfl⟩ := yv
        have hc' := str_at hc
        obtain ⟨b, e1, rfl⟩ := rv_got hy
        rw [hc'] at e1
        have e1 := Option.some.inj e1
        subst e1
        exact ⟨Same.refl _, fun q' => ⟨_, rfl, _, rfl, rfl, q' H3 (Same.refl _)⟩⟩
      · refine ⟨r, D, _, _, rfl, rfl, s5 _ _ upd_same, hdd, szl (by rw [List.length_append, rv_len, rv_len]; show 1 + _ + _ ≤ _; omega), fun m hm => ?_⟩
        have s6 : Same H H2 := (s3.trans s4).trans s5
        refine q m _ (s6.free hm) (s6.trans (Same.new hm)) ?_
        rw [upd_same]
        show some (HO.lst ([V.int 5] ++ rv (figs t.length) ++ rv t)) = some (HO.lst (rv (5 :: (figs t.length ++ t))))
        rw [show (5 :: (figs t.length ++ t)) = [5] ++ figs t.length ++ t by simp, rv_app, rv_app]
        rfl
    | lst xs => cases hv
    | tup xs =>
      obtain ⟨a, us, rfl, ha, hu⟩ := hd
      have kd : Kd H (.ref a) "tuple" := .tup ha
      have hs' := Bool.and_eq_true_iff.mp (show (decide (xs.length ≤ 100000) && sms xs) = true from hs)
      have hlen := of_decide_eq_true hs'.1
      have ul := hu.len
      have ew : wr (.tup xs) = 6 :: (figs xs.length ++ wrs xs) := rfl
      have hw' : 1 + ((figs xs.length).length + (wrs xs).length) ≤ 100000 := by
        rw [ew, List.length_cons, List.length_append] at hw
        omega
      cases n with
      | zero => exact absurd hn (by show ¬ deps xs + 1 ≤ 0; omega)
      | succ n =>
        have hR' := hR n rfl
        subst hR'
        refine iteF ⟨_, rfl, _, .ty "bool", _, .type "bool", _, rfl, .ty _, kd.ty, kd.isBool, _, rfl, iteF ⟨_, rfl, _, .ty "int", _, .type "int", _, rfl, .ty _, kd.ty, kd.isInt, _, rfl,
          iteF ⟨_, rfl, _, .ty "str", _, .type "str", _, rfl, .ty _, kd.ty, kd.isStr, _, rfl, iteF ⟨szl (by show 1 ≤ 1000000; decide), fun p hp => ?_⟩⟩⟩⟩
        refine ⟨_, rfl, _, _, rfl, .inr ⟨us, SqT.of (Same.new hp _ _ ha), rfl⟩, _, rfl, xs.length, by rw [ul], Nat.lt_of_le_of_lt hlen (by decide), fun z H' hz s2 hlz => ?_⟩
        have s3 : Same H H' := (Same.new hp).trans s2
        refine ⟨p, z, [.int 6], _, rfl, rfl, s2 _ _ upd_same, hlz, szl (by rw [rv_len]; show 1 + _ ≤ _; omega), fun r hr => ?_⟩
        have hrH : H r = none := s3.free hr
        have s4 := s3.trans (Same.new (o := .lst ([.int 6] ++ rv (figs xs.length))) hr)
        refine ⟨_, rfl, a, rfl, ⟨us, SqT.of (s4 _ _ ha)⟩, for_it walk_tup (fun i σ H2 => ∃ v3, σ = [some (.ref a), none, some (.ref r), v3] ∧ Same H H2 ∧ H2 r = some (.lst (rv (6 :: (figs xs.length ++ wrs (xs.take i))))))
          ⟨none, rfl, s4, ?_⟩ (fun i σ H2 _ ⟨_, _, s5, _⟩ => SqT.of (s5 _ _ ha)) (fun i x σ H2 H3 hi p1 yv => ?_) (fun σ H2 p1 => ?_)⟩
        · rw [upd_same]
          show some (HO.lst ([V.int 6] ++ rv (figs xs.length))) = some (HO.lst (rv (6 :: (figs xs.length ++ []))))
          rw [List.append_nil]
          rfl
        · obtain ⟨v3, rfl, s5, hl5⟩ := p1
          obtain ⟨rfl, hx⟩ := yv
          obtain ⟨d, e1, e2⟩ := hu.get hx
          have mem := List.mem_of_getElem? e1
          have le1 := wrs_le mem
          refine ⟨_, rfl, .inl ⟨rfl, _, SqL.of hl5⟩, _, rfl, _, rfl, d, e2.mono s5 d x, vds_mem hv d mem, sms_mem hs'.2 d mem, by omega, deps_mem (show deps xs ≤ n by have : deps xs + 1 ≤ n + 1 := hn; omega) d mem, fun z2 H4 hz2 s6 hlz2 => ?_⟩
          have et : wrs (xs.take (i + 1)) = wrs (xs.take i) ++ wr d := by
            rw [take_snoc e1, wrs_app]
            show _ ++ (wr d ++ []) = _
            rw [List.append_nil]
          have le2 := wrs_take_le xs (i + 1)
          have le3 : (6 :: (figs xs.length ++ wrs (xs.take i))).length + (wr d).length ≤ 100000 := by
            rw [et, List.length_append] at le2
            rw [List.length_cons, List.length_append]
            omega
          refine ⟨r, z2, _, _, rfl, rfl, s6 _ _ hl5, hlz2, szl (by rw [rv_len, rv_len]; omega), _, rfl, Same.own (s5.trans s6) hrH, ?_⟩
          rw [upd_same, ← rv_app, et]
          show some (HO.lst (rv (6 :: (figs xs.length ++ wrs (xs.take i)) ++ wr d))) = _
          rw [List.cons_append, List.append_assoc]
        · obtain ⟨v3, rfl, s5, hl5⟩ := p1
          rw [ul, List.take_length] at hl5
          exact ⟨_, rfl, q r H2 hrH s5 hl5⟩
theorem ok_bytes (T : Txt K mg) (c_whole : Kn P w K mg base "whole" 1 p_whole sp_whole) (F : Fun K "bytes_of" "bytes_of" s_bytes_of f fd) (a : At K mg "bytes_of" f fd p_bytes_of) : ∀ n, FnOk P w K mg base (L2.CX P w) (n + 2) f fd p_bytes_of (sp_bytes n)
  | 0 => ok_bytes1 T 0 c_whole (Kn.of a fn_no) (by omega) (fun m h => by omega) F
  | n + 1 => ok_bytes1 T (n + 1) c_whole (Kn.of a (ok_bytes T c_whole F a n)) (by omega) (fun m h => by rw [show m = n by omega]) F
theorem ok_row_of (T : Txt K mg) (c_is_parcel : Kn P w K mg base "is_parcel" 25 p_is_parcel sp_is_parcel) (c_bytes_of : Kn P w K mg base "bytes_of" 22 p_bytes_of (sp_bytes 20)) (F : Fun K "row_of" "row_of" s_row_of f fd) :
    FnOk P w K mg base (L2.CX P w) 26 f fd p_row_of (sp_row_of (cc K "NoParcel")) := by
  refine F.okX sc_row_of (fun vs H Q E h => ?_) (fun cdv A outer s H vs Q E hr h => ?_)
  · obtain ⟨_, rfl, _⟩ := h
    rfl
  · obtain ⟨x, rfl, d, hd, hv, hs, hw, hn, q⟩ := h
    refine ⟨_, (pss_cons (ps_if (pt_not (pt_val (pc c_is_parcel hr (by first | decide | omega) passL (pa_cons (pv 0) pa_nil)))) (pss_one (rz0 T.e_NoParcel (takes_of rfl rfl rfl rfl))) pss_nil)
 (pss_one (ps_ret (pe_callTy call_tuple_of (by rfl) T.b_tuple (by decide +kernel) (pa_cons (pc c_bytes_of hr (by first | decide | omega) passL (pa_cons (pv 0) pa_nil)) pa_nil))))), ?_⟩
    refine ⟨x, rfl, x, rfl, d, hd, hv, hs, by omega, fun H' s1 => ⟨_, rfl, ?_⟩⟩
    rw [decide_eq_true hn]
    refine iteF ⟨x, rfl, x, rfl, d, hd.mono s1 d x, hv, hs, hw, hn, fun p H2 hp s2 hl => ?_⟩
    exact ⟨p, _, rfl, .inl ⟨SqL.of hl, fun z hz => q z _ ((s1.trans s2).trans (Same.new hz)) upd_same⟩⟩
end
end Cl
set_option maxRecDepth 100000
set_option maxHeartbeats 4000000
/-! marks, seals; the law's own writing -/
namespace Cl
open PySem PySem.Spec PyProof.Rows L2 RZ
abbrev NewV (H : Hp) (Q : VK) (us : List V) : Prop := ∀ p H', Same H H' → H' p = some (.tup us) → Q (.ref p) H'
theorem catV {K : PySem.W.Frag} {H : Hp} {a b : Addr} {xs ys : List V} {Q : VK} (ha : H a = some (.tup xs)) (hb : H b = some (.tup ys)) (hz : xs.length + ys.length ≤ 1000000) (k : NewV H Q (xs ++ ys)) : rCatA K (.ref a) (.ref b) H Q := by
  refine ⟨a, b, xs, ys, rfl, rfl, SqT.of ha, SqT.of hb, szl hz, fun e => ?_, fun _ e => ?_, fun _ _ p hp => k p _ (Same.new hp) upd_same⟩
  · subst e
    exact k b H (Same.refl _) hb
  · subst e
    rw [List.append_nil] at k
    exact k a H (Same.refl _) ha
theorem slV {K : PySem.W.Frag} {H : Hp} {a : Addr} {xs ys : List V} {lo hi : Option Int} {Q : VK} (ha : H a = some (.tup xs)) (e : cutV xs lo hi = ys) (k : NewV H Q ys) : rSlA K (.ref a) lo hi H Q := by
  refine ⟨a, xs, rfl, SqT.of ha, fun q => ?_, fun _ p hp => ?_⟩
  · have e2 : cutV xs lo hi = xs := by
      unfold cutV
      rw [q.1, q.2, List.drop_zero, Nat.sub_zero, List.take_length]
    rw [e2] at e
    subst e
    exact k a H (Same.refl _) ha
  · rw [← e] at k
    exact k p _ (Same.new hp) upd_same
theorem cut_lo {xs : List V} {n : Nat} : cutV xs none (some (n : Int)) = xs.take n := by
  unfold cutV
  rw [HT.sIx_nat, HT.sIx_none, List.drop_zero, Nat.sub_zero]
  by_cases h : n ≤ xs.length
  · rw [Nat.min_eq_left h]
  · rw [Nat.min_eq_right (by omega), List.take_length, List.take_of_length_le (by omega)]
theorem cut_hi {xs : List V} {n : Nat} : cutV xs (some (n : Int)) none = xs.drop n := by
  unfold cutV
  rw [HT.sIx_nat, HT.sIx_none]
  by_cases h : n ≤ xs.length
  · rw [Nat.min_eq_left h, List.take_of_length_le (by rw [List.length_drop]; omega)]
  · rw [Nat.min_eq_right (by omega), List.drop_length, List.drop_of_length_le (by omega), List.take_nil]
theorem sIx_m4 (n d : Nat) : HT.sIx n d (some (-4)) = (-4 + (n : Int)).toNat := by
  show (if (-4 : Int) < 0 then (-4 + (n : Int)).toNat else min (-4 : Int).toNat n) = _
  rw [if_pos (by decide)]
/-- xs[:-4], xs[-4:] of four or more -/
theorem cut_lo4 {xs : List V} (h : 4 ≤ xs.length) : cutV xs none (some (-4)) = xs.take (xs.length - 4) := by
  unfold cutV
  rw [sIx_m4, HT.sIx_none, List.drop_zero, Nat.sub_zero]
  congr 1
  omega
theorem cut_hi4 {xs : List V} (h : 4 ≤ xs.length) : cutV xs (some (-4)) none = xs.drop (xs.length - 4) := by
  unfold cutV
  rw [sIx_m4, HT.sIx_none]
  have e : (-4 + (xs.length : Int)).toNat = xs.length - 4 := by omega
  rw [e, List.take_of_length_le (by rw [List.length_drop]; omega)]
theorem mk_take {r : List Nat} {i b : Nat} (h : r[i]? = some b) : mk (r.take (i + 1)) = mkStep (mk (r.take i)) b := by
  unfold mk
  rw [take_snoc h, List.foldl_append, List.foldl_cons, List.foldl_nil]
theorem step_cast (m b : Nat) : ((m : Int) * 1000003 + (b : Int) + 1) % 2305843009213693951 = ((mkStep m b : Nat) : Int) := by
  unfold mkStep
  omega
theorem cast_m (m : Nat) : (m : Int) % 256 = ((m % 256 : Nat) : Int) := by omega
theorem cast_d (m : Nat) : (m : Int) / 256 = ((m / 256 : Nat) : Int) := by omega
theorem cast_w (m : Nat) : (m : Int) % 4294967296 = ((m % 4294967296 : Nat) : Int) := by omega
theorem mk_lt (r : List Nat) : mk r < 2305843009213693951 := by
  unfold mk
  suffices h : ∀ (l : List Nat) (z : Nat), z < 2305843009213693951 → l.foldl mkStep z < 2305843009213693951 from h r 1 (by decide)
  intro l
  induction l with
  | nil => intro z hz; exact hz
  | cons b l ih =>
    intro z hz
    exact ih _ (Nat.mod_lt _ (by decide))
def nb (m : Nat) : Nat → Nat
  | 0 => m
  | i + 1 => nb m i / 256
def sp_raw_mark : Sp := fun vs H Q _ => ∃ x, vs = [x] ∧ ∃ r, RowAt H x r ∧ Q (.int (mk r : Nat)) H
def sp_mark (C : Addr) : Sp := fun vs H Q _ => ∃ x, vs = [x] ∧ ∃ r, RowAt H x r ∧ byt r ∧ r.length ≤ 100000 ∧ ∀ H', Same H H' → Q (.int (mk r : Nat)) H'
def sp_seal : Sp := fun vs H Q _ => ∃ x, vs = [x] ∧ ∃ r, RowAt H x r ∧ NewT H Q (sl r)
def sp_sealed (C : Addr) : Sp := fun vs H Q E => ∃ x, vs = [x] ∧ ∃ d : D, Is H x d ∧ vd d = true ∧ sm d = true ∧ (wr d).length ≤ 100000 ∧ dep d ≤ 20 ∧ NewT H Q (wr d ++ sl (wr d))
def sp_figures : Sp := fun vs H Q _ => ∃ x, vs = [x] ∧ ∃ n : Nat, x = .int (n : Int) ∧ n < 128 ^ 11 ∧ NewT H Q (figs n)
def sp_row (n : Nat) : Sp := fun vs H Q _ => ∃ x, vs = [x] ∧ ∃ d : D, Is H x d ∧ vd d = true ∧ sm d = true ∧ (wr d).length ≤ 100000 ∧ dep d ≤ n ∧ NewT H Q (wr d)
theorem row_judg {H : Hp} {a : Addr} {r : List Nat} (ha : H a = some (.tup (rv r))) (hl : r.length ≤ 100000) : Th H (.ref a) (some (rv r)) ∧ Judg H (some (rv r)) := by
  refine ⟨.tup ha, fun us e => ?_⟩
  obtain rfl := Option.some.inj e
  refine ⟨by rw [rv_len]; exact hl, fun u hu => ?_⟩
  obtain ⟨b, _, rfl⟩ := List.mem_map.mp hu
  exact ⟨_, .int _⟩
theorem rowB_rv {r : List Nat} (h : byt r) : rowB (some (rv r)) = true := by
  show (rv r).all (vin 0 255) = true
  refine List.all_eq_true.mpr fun u hu => ?_
  obtain ⟨b, hb, rfl⟩ := List.mem_map.mp hu
  have := h b hb
  show (decide ((0 : Int) ≤ (b : Int)) && decide ((b : Int) ≤ 255)) = true
  rw [decide_eq_true (by omega), decide_eq_true (by omega)]
  rfl
section
variable {P : Program} {w : World} {K : PySem.W.Frag} {mg : Str → Option Value} {base : Heap} {f : Addr} {fd : FuncData}
theorem ok_raw_mark (T : Txt K mg) (F : Fun K "raw_mark" "raw_mark" s_raw_mark f fd) : FnOk P w K mg base (L2.CX P w) 1 f fd p_raw_mark sp_raw_mark := by
  refine F.okX sc_raw_mark (fun vs H Q E h => ?_) (fun cdv A outer s H vs Q E hr h => ?_)
  · obtain ⟨_, rfl, _⟩ := h
    rfl
  · obtain ⟨x, rfl, r, ⟨a, rfl, ha⟩, q⟩ := h
    refine ⟨_, (pss_cons (ps_set (i := 1) sc_raw_mark.nd rfl (Or.inl rfl) pe_int)
 (pss_cons (ps_for (passes_of rfl) rfl (pi_tup (pv 0)) (pg_name (i := 2) sc_raw_mark.nd rfl (Or.inl rfl)) (pss_one (ps_set (i := 1) sc_raw_mark.nd rfl (Or.inl rfl) (pe_op op_mod (pe_op op_add (pe_op op_add (pe_op op_mul (pv 1) (pgc (T.k_MULTIPLIER))) (pv 2)) pe_int) (pgc (T.k_MODULUS))))))
 (pss_one (ps_ret (pv 1))))), ?_⟩
    refine ⟨_, rfl, a, rfl, ⟨rv r, SqT.of ha⟩, for_it walk_tup (fun i σ H2 => ∃ v2, σ = [some (.ref a), some (.int (mk (r.take i) : Nat)), v2] ∧ H2 = H) ⟨none, rfl, rfl⟩ (fun i σ H2 _ ⟨_, _, e⟩ => by rw [e]; exact SqT.of ha) (fun i x σ H2 H3 hi p1 yv => ?_) (fun σ H2 p1 => ?_)⟩
    · obtain ⟨v2, rfl, rfl⟩ := p1
      obtain ⟨rfl, hx⟩ := yv
      obtain ⟨b, e1, rfl⟩ := rv_got hx
      refine ⟨_, rfl, _, _, rfl, rfl, .inr (by decide), _, rfl, _, _, rfl, rfl, _, _, rfl, rfl, _, _, rfl, rfl, (by show (0 : Int) < 2305843009213693951; decide), some (.int (b : Int)), ?_, rfl⟩
      show [some (V.ref a), some (V.int ((((mk (r.take i) : Nat) : Int) * 1000003 + (b : Int) + 1) % 2305843009213693951)), some (V.int (b : Int))] = _
      rw [mk_take e1, step_cast]
    · obtain ⟨v2, rfl, rfl⟩ := p1
      rw [rv_len, List.take_length]
      exact ⟨_, rfl, q⟩
theorem ok_law_mark (T : Txt K mg) (F : Fun K "_law_mark" "_law_mark" s__law_mark f fd) : FnOk P w K mg base (L2.CX P w) 1 f fd p__law_mark sp_raw_mark := by
  refine F.okX sc__law_mark (fun vs H Q E h => ?_) (fun cdv A outer s H vs Q E hr h => ?_)
  · obtain ⟨_, rfl, _⟩ := h
    rfl
  · obtain ⟨x, rfl, r, ⟨a, rfl, ha⟩, q⟩ := h
    refine ⟨_, (pss_cons (ps_set (i := 1) sc__law_mark.nd rfl (Or.inl rfl) pe_int)
 (pss_cons (ps_for (passes_of rfl) rfl (pi_tup (pv 0)) (pg_name (i := 2) sc__law_mark.nd rfl (Or.inl rfl)) (pss_one (ps_set (i := 1) sc__law_mark.nd rfl (Or.inl rfl) (pe_op op_mod (pe_callTy call_int1 (by rfl) T.b_int (by decide +kernel) (pa_cons (pe_op op_add (pe_op op_add (pe_op op_mul (pv 1) pe_int) (pv 2)) pe_int) pa_nil)) pe_int))))
 (pss_one (ps_ret (pv 1))))), ?_⟩
    refine ⟨_, rfl, a, rfl, ⟨rv r, SqT.of ha⟩, for_it walk_tup (fun i σ H2 => ∃ v2, σ = [some (.ref a), some (.int (mk (r.take i) : Nat)), v2] ∧ H2 = H) ⟨none, rfl, rfl⟩ (fun i σ H2 _ ⟨_, _, e⟩ => by rw [e]; exact SqT.of ha) (fun i x σ H2 H3 hi p1 yv => ?_) (fun σ H2 p1 => ?_)⟩
    · obtain ⟨v2, rfl, rfl⟩ := p1
      obtain ⟨rfl, hx⟩ := yv
      obtain ⟨b, e1, rfl⟩ := rv_got hx
      refine ⟨_, rfl, _, _, rfl, rfl, .inr (by decide), _, rfl, _, _, rfl, rfl, _, _, rfl, rfl, .inl ⟨_, rfl, _, _, rfl, rfl, (by show (0 : Int) < 2305843009213693951; decide), some (.int (b : Int)), ?_, rfl⟩⟩
      show [some (V.ref a), some (V.int ((((mk (r.take i) : Nat) : Int) * 1000003 + (b : Int) + 1) % 2305843009213693951)), some (V.int (b : Int))] = _
      rw [mk_take e1, step_cast]
    · obtain ⟨v2, rfl, rfl⟩ := p1
      rw [rv_len, List.take_length]
      exact ⟨_, rfl, q⟩
theorem ok_mark (T : Txt K mg) (c_check_row : Kn P w K mg base "check_row" 2 p_check_row (sp_check_row (cc K "NoRow"))) (c_raw_mark : Kn P w K mg base "raw_mark" 1 p_raw_mark sp_raw_mark) (F : Fun K "mark" "mark" s_mark f fd) :
    FnOk P w K mg base (L2.CX P w) 3 f fd p_mark (sp_mark (cc K "NoRow")) := by
  refine F.okX sc_mark (fun vs H Q E h => ?_) (fun cdv A outer s H vs Q E hr h => ?_)
  · obtain ⟨_, rfl, _⟩ := h
    rfl
  · obtain ⟨x, rfl, r, ⟨a, rfl, ha⟩, hb, hl, q⟩ := h
    refine ⟨_, (pss_cons (ps_expr (pc c_check_row hr (by first | decide | omega) (passes_call (takes_of rfl rfl rfl rfl) (fun _ _ _ _ h => h)) (pa_cons (pv 0) pa_nil)))
 (pss_one (ps_ret (pc c_raw_mark hr (by first | decide | omega) passL (pa_cons (pv 0) pa_nil))))), ?_⟩
    obtain ⟨t1, t2⟩ := row_judg ha hl
    have e := rowB_rv hb
    refine ⟨_, rfl, _, rfl, _, t1, t2, fun _ H' s1 => ⟨_, rfl, _, rfl, r, ⟨a, rfl, s1 _ _ ha⟩, q H' s1⟩, fun z => ?_⟩
    rw [e] at z
    cases z
theorem ok_seal (T : Txt K mg) (c_raw_mark : Kn P w K mg base "raw_mark" 1 p_raw_mark sp_raw_mark) (F : Fun K "seal_of" "seal_of" s_seal_of f fd) : FnOk P w K mg base (L2.CX P w) 2 f fd p_seal_of sp_seal := by
  refine F.okX sc_seal_of (fun vs H Q E h => ?_) (fun cdv A outer s H vs Q E hr h => ?_)
  · obtain ⟨_, rfl, _⟩ := h
    rfl
  · obtain ⟨x, rfl, r, ⟨a, rfl, ha⟩, q⟩ := h
    refine ⟨_, (pss_cons (ps_set (i := 1) sc_seal_of.nd rfl (Or.inl rfl) (pc c_raw_mark hr (by first | decide | omega) passL (pa_cons (pv 0) pa_nil)))
 (pss_cons (ps_set (i := 2) sc_seal_of.nd rfl (Or.inl rfl) (pe_lst pa_nil))
 (pss_cons (ps_for (passes_of rfl) rfl (pi_range1 (by rfl) T.b_range (pa_cons (pgc (T.k_SEAL_BYTES)) pa_nil)) (pg_name (i := 3) sc_seal_of.nd rfl (Or.inl rfl)) (pss_cons (ps_expr (pe_bm PySem.F.plainAttrs_list PySem.F.slot_list_append PySem.F.type_list_append mt_append (pv 2) (pa_cons (pe_op op_mod (pv 1) (pgc (T.k_BYTES))) pa_nil)))
 (pss_one (ps_set (i := 1) sc_seal_of.nd rfl (Or.inl rfl) (pe_op op_fdiv (pv 1) (pgc (T.k_BYTES)))))))
 (pss_one (ps_ret (pe_callTy call_tuple_of (by rfl) T.b_tuple (by decide +kernel) (pa_cons (pv 2) pa_nil))))))), ?_⟩
    refine ⟨_, rfl, _, rfl, r, ⟨a, rfl, ha⟩, szl (by decide), fun p hp => ?_⟩
    refine ⟨4, rfl, by decide, by decide, for_it walk_range (fun i σ H2 => ∃ v3, σ = [some (.ref a), some (.int (nb (mk r) i : Nat)), some (.ref p), v3] ∧ Same H H2 ∧ H2 p = some (.lst ((List.range i).map fun j => V.int ((nb (mk r) j % 256 : Nat) : Int))) ∧ i ≤ 4)
      ⟨none, rfl, Same.new hp, upd_same, by decide⟩ (fun _ _ _ _ _ => trivial) (fun i x σ H2 H3 hi p1 yv => ?_) (fun σ H2 p1 => ?_)⟩
    · obtain ⟨v3, rfl, s1, hl, _⟩ := p1
      obtain ⟨rfl, rfl⟩ := yv
      have hi' : i < 4 := hi
      refine ⟨_, rfl, .inl ⟨rfl, _, SqL.of hl⟩, _, rfl, _, _, rfl, rfl, (by show (0 : Int) < 256; decide), p, _, _, rfl, rfl, hl, szlt (by simp; omega), ?_⟩
      refine ⟨_, rfl, _, _, rfl, rfl, ⟨by decide, by decide⟩, _, rfl, Same.own s1 hp, ?_, by omega⟩
      rw [upd_same, List.range_succ, List.map_append]
      rfl
    · obtain ⟨v3, rfl, s1, hl, _⟩ := p1
      exact ⟨_, rfl, p, _, rfl, .inl ⟨SqL.of hl, fun z hz => q z _ (s1.trans (Same.new hz)) upd_same⟩⟩
theorem low4 (m : Nat) : [m % 4294967296 % 256, m % 4294967296 / 256 % 256, m % 4294967296 / 256 / 256 % 256, m % 4294967296 / 256 / 256 / 256 % 256] = [m % 256, m / 256 % 256, m / 256 / 256 % 256, m / 256 / 256 / 256 % 256] := by
  have e1 : m % 4294967296 % 256 = m % 256 := by omega
  have e2 : m % 4294967296 / 256 % 256 = m / 256 % 256 := by omega
  have e3 : m % 4294967296 / 256 / 256 % 256 = m / 256 / 256 % 256 := by omega
  have e4 : m % 4294967296 / 256 / 256 / 256 % 256 = m / 256 / 256 / 256 % 256 := by omega
  rw [e1, e2, e3, e4]
theorem ok_law_seal (T : Txt K mg) (c__law_mark : Kn P w K mg base "_law_mark" 1 p__law_mark sp_raw_mark) (F : Fun K "_law_seal" "_law_seal" s__law_seal f fd) : FnOk P w K mg base (L2.CX P w) 2 f fd p__law_seal sp_seal := by
  refine F.okX sc__law_seal (fun vs H Q E h => ?_) (fun cdv A outer s H vs Q E hr h => ?_)
  · obtain ⟨_, rfl, _⟩ := h
    rfl
  · obtain ⟨x, rfl, r, ⟨a, rfl, ha⟩, q⟩ := h
    refine ⟨_, (pss_cons (ps_set (i := 1) sc__law_seal.nd rfl (Or.inl rfl) (pe_op op_mod (pc c__law_mark hr (by first | decide | omega) passL (pa_cons (pv 0) pa_nil)) pe_int))
 (pss_cons (ps_set (i := 2) sc__law_seal.nd rfl (Or.inl rfl) (pe_lst pa_nil))
 (pss_cons (ps_for (passes_of rfl) rfl (pi_range1 (by rfl) T.b_range (pa_cons pe_int pa_nil)) (pg_name (i := 3) sc__law_seal.nd rfl (Or.inl rfl)) (pss_cons (ps_expr (pe_bm PySem.F.plainAttrs_list PySem.F.slot_list_append PySem.F.type_list_append mt_append (pv 2) (pa_cons (pe_op op_mod (pe_callTy call_int1 (by rfl) T.b_int (by decide +kernel) (pa_cons (pv 1) pa_nil)) pe_int) pa_nil)))
 (pss_one (ps_set (i := 1) sc__law_seal.nd rfl (Or.inl rfl) (pe_op op_fdiv (pv 1) pe_int)))))
 (pss_one (ps_ret (pe_callTy call_tuple_of (by rfl) T.b_tuple (by decide +kernel) (pa_cons (pv 2) pa_nil))))))), ?_⟩
    refine ⟨_, rfl, _, rfl, r, ⟨a, rfl, ha⟩, _, _, rfl, rfl, (by show (0 : Int) < 4294967296; decide), szl (by decide), fun p hp => ?_⟩
    refine ⟨4, rfl, by decide, by decide, for_it walk_range (fun i σ H2 => ∃ v3, σ = [some (.ref a), some (.int (nb (mk r % 4294967296) i : Nat)), some (.ref p), v3] ∧ Same H H2 ∧ H2 p = some (.lst ((List.range i).map fun j => V.int ((nb (mk r % 4294967296) j % 256 : Nat) : Int))) ∧ i ≤ 4)
      ⟨none, by show [some (V.ref a), some (V.int ((mk r : Nat) % 4294967296)), some (V.ref p), none] = _; rw [cast_w]; rfl, Same.new hp, upd_same, by decide⟩ (fun _ _ _ _ _ => trivial) (fun i x σ H2 H3 hi p1 yv => ?_) (fun σ H2 p1 => ?_)⟩
    · obtain ⟨v3, rfl, s1, hl, _⟩ := p1
      obtain ⟨rfl, rfl⟩ := yv
      have hi' : i < 4 := hi
      refine ⟨_, rfl, .inl ⟨rfl, _, SqL.of hl⟩, _, rfl, .inl ⟨_, rfl, _, _, rfl, rfl, (by show (0 : Int) < 256; decide), p, _, _, rfl, rfl, hl, szlt (by simp; omega), ?_⟩⟩
      refine ⟨_, rfl, _, _, rfl, rfl, ⟨by decide, by decide⟩, _, rfl, Same.own s1 hp, ?_, by omega⟩
      rw [upd_same, List.range_succ, List.map_append]
      rfl
    · obtain ⟨v3, rfl, s1, hl, _⟩ := p1
      refine ⟨_, rfl, p, _, rfl, .inl ⟨SqL.of hl, fun z hz => q z _ (s1.trans (Same.new hz)) ?_⟩⟩
      rw [upd_same]
      show some (HO.tup (rv [mk r % 4294967296 % 256, mk r % 4294967296 / 256 % 256, mk r % 4294967296 / 256 / 256 % 256, mk r % 4294967296 / 256 / 256 / 256 % 256])) = _
      rw [low4]
      rfl
theorem ok_sealed (T : Txt K mg) (c_row_of : Kn P w K mg base "row_of" 26 p_row_of (sp_row_of (cc K "NoParcel"))) (c_seal_of : Kn P w K mg base "seal_of" 2 p_seal_of sp_seal) (F : Fun K "sealed" "sealed" s_sealed f fd) :
    FnOk P w K mg base (L2.CX P w) 27 f fd p_sealed (sp_sealed (cc K "NoParcel")) := by
  refine F.okX sc_sealed (fun vs H Q E h => ?_) (fun cdv A outer s H vs Q E hr h => ?_)
  · obtain ⟨_, rfl, _⟩ := h
    rfl
  · obtain ⟨x, rfl, d, hd, hv, hs, hw, hn, q⟩ := h
    refine ⟨_, (pss_cons (ps_set (i := 1) sc_sealed.nd rfl (Or.inl rfl) (pc c_row_of hr (by first | decide | omega) (passes_call (takes_of rfl rfl rfl rfl) (fun _ _ _ _ h => h)) (pa_cons (pv 0) pa_nil)))
 (pss_one (ps_ret (pe_op op_catA (pv 1) (pc c_seal_of hr (by first | decide | omega) passL (pa_cons (pv 1) pa_nil)))))), ?_⟩
    refine ⟨x, rfl, x, rfl, d, hd, hv, hs, hw, hn, fun p H2 s1 hp => ?_⟩
    refine ⟨_, rfl, _, rfl, _, rfl, wr d, ⟨p, rfl, hp⟩, fun z H3 s2 hz => ?_⟩
    exact catV (s2 _ _ hp) hz (by rw [rv_len, rv_len]; show _ + 4 ≤ _; omega) fun m H4 s3 hm => q m H4 ((s1.trans s2).trans s3) (by rw [hm, rv_app])
end
end Cl
set_option maxRecDepth 100000
set_option maxHeartbeats 4000000
/-! the law's own writing -/
namespace Cl
open PySem PySem.Spec PyProof.Rows L2 RZ
section
variable {P : Program} {w : World} {K : PySem.W.Frag} {mg : Str → Option Value} {base : Heap} {f : Addr} {fd : FuncData}
theorem sz_one {v : V} : [v].length ≤ sizeLine := szl (by show 1 ≤ 1000000; decide)
theorem pos_n {n : Int} (h : 0 < n) : 0 < n := h
theorem ok_figures (T : Txt K mg) (F : Fun K "_law_figures" "_law_figures" s__law_figures f fd) : FnOk P w K mg base (L2.CX P w) 1 f fd p__law_figures sp_figures := by
  refine F.okX sc__law_figures (fun vs H Q E h => ?_) (fun cdv A outer s H vs Q E hr h => ?_)
  · obtain ⟨_, rfl, _⟩ := h
    rfl
  · obtain ⟨x, rfl, n, rfl, hn, q⟩ := h
    refine ⟨_, (pss_cons (ps_set (i := 1) sc__law_figures.nd rfl (Or.inl rfl) (pe_lst pa_nil))
 (pss_cons (ps_set (i := 2) sc__law_figures.nd rfl (Or.inl rfl) (pv 0))
 (C8.pss_cut (ps_for (passes_of rfl) rfl (pi_range1 (by rfl) T.b_range (pa_cons pe_int pa_nil)) (pg_name (i := 3) sc__law_figures.nd rfl (Or.inl rfl)) (pss_cons (ps_if (pt_cmpR op_lt (pv 2) pe_int (nomark _)) (pss_one ps_break) pss_nil)
 (pss_cons (ps_expr (pe_bm PySem.F.plainAttrs_list PySem.F.slot_list_append PySem.F.type_list_append mt_append (pv 1) (pa_cons (pe_op op_add pe_int (pe_op op_mod (pe_callTy call_int1 (by rfl) T.b_int (by decide +kernel) (pa_cons (pv 2) pa_nil)) pe_int)) pa_nil)))
 (pss_one (ps_set (i := 2) sc__law_figures.nd rfl (Or.inl rfl) (pe_op op_fdiv (pv 2) pe_int))))))
 (pss_one (ps_ret (pe_callTy call_tuple_of (by rfl) T.b_tuple (by decide +kernel) (pa_cons (pe_op op_cat (pv 1) (pe_lst (pa_cons (pv 2) pa_nil))) pa_nil))))))), ?_⟩
    have hf : (figs n).length ≤ 11 := figs_len 10 n hn
    refine ⟨szl (by decide), fun p hp => ?_⟩
    refine ⟨_, rfl, fun σ H2 => ∃ (pre : List Nat) (m : Nat) (v3 : Option V), σ = [some (.int (n : Int)), some (.ref p), some (.int (m : Int)), v3] ∧ Same H H2 ∧ H2 p = some (.lst (rv pre)) ∧ figs n = pre ++ [m], ?_, fun σ H2 h2 => ?_⟩
    · refine ⟨400, rfl, by decide, by decide, for_it walk_range (fun i σ H2 => ∃ (pre : List Nat) (m : Nat) (v3 : Option V), σ = [some (.int (n : Int)), some (.ref p), some (.int (m : Int)), v3] ∧ Same H H2 ∧ H2 p = some (.lst (rv pre)) ∧ figs n = pre ++ figs m ∧ pre.length = i)
        ⟨[], n, none, rfl, Same.new hp, upd_same, rfl, rfl⟩ (fun _ _ _ _ _ => trivial) (fun i x σ H2 H3 hi p1 yv => ?_) (fun σ H2 p1 => ?_)⟩
      · obtain ⟨pre, m, v3, rfl, s1, hl, e, ep⟩ := p1
        obtain ⟨rfl, rfl⟩ := yv
        have hpre : pre.length + (figs m).length ≤ 11 := by
          rw [e, List.length_append] at hf
          exact hf
        refine ⟨_, rfl, _, _, rfl, rfl, _, rfl, ?_⟩
        show if decide ((m : Int) < 128) = true then _ else _
        by_cases hm : m < 128
        · rw [decide_eq_true (by omega)]
          exact iteT ⟨pre, m, _, rfl, s1, hl, by rw [e, figs_small hm]⟩
        · rw [decide_eq_false (by omega)]
          refine iteF ⟨_, rfl, .inl ⟨rfl, _, SqL.of hl⟩, _, rfl, .inl ⟨_, rfl, _, _, rfl, rfl, (by show (0 : Int) < 128; decide), _, _, rfl, rfl, p, _, _, rfl, rfl, hl, szlt (by rw [rv_len]; omega), ?_⟩⟩
          refine ⟨_, rfl, _, _, rfl, rfl, ⟨by decide, by decide⟩, pre ++ [128 + m % 128], m / 128, _, rfl, Same.own s1 hp, ?_, ?_, by rw [List.length_append, ep]; rfl⟩
          · rw [upd_same, rv_app]
            rfl
          · rw [e, figs_big hm, List.append_assoc]
            rfl
      · obtain ⟨pre, m, v3, rfl, s1, hl, e, ep⟩ := p1
        rw [e, List.length_append, ep] at hf
        have h400 : (400 : Int).toNat = 400 := rfl
        rw [h400] at hf
        omega
    · obtain ⟨pre, m, v3, rfl, s1, hl, e⟩ := h2
      refine ⟨_, rfl, _, rfl, sz_one, fun z hz => ?_⟩
      have npz : p ≠ z := ne_of_none hl hz
      have hpre : pre.length ≤ 11 := by
        rw [e, List.length_append] at hf
        omega
      refine ⟨p, z, rv pre, [.int (m : Int)], rfl, rfl, by rw [upd_ne npz]; exact hl, upd_same, szl (by rw [rv_len]; show pre.length + 1 ≤ _; omega), fun r hr => ?_⟩
      refine ⟨r, _, rfl, .inl ⟨SqL.of upd_same, fun y hy => q y _ (((s1.trans (Same.new hz)).trans (Same.new hr)).trans (Same.new hy)) ?_⟩⟩
      rw [upd_same, e, rv_app]
      rfl
theorem ok_row1 (T : Txt K mg) (n : Nat) {k : Nat} {spR : Sp} (c__law_figures : Kn P w K mg base "_law_figures" 1 p__law_figures sp_figures) (c__law_row : Kn P w K mg base "_law_row" k p__law_row spR) (hk__law_row : k ≤ n + 1) (hR : ∀ m, n = m + 1 → spR = sp_row m)
    (F : Fun K "_law_row" "_law_row" s__law_row f fd) : FnOk P w K mg base (L2.CX P w) (n + 2) f fd p__law_row (sp_row n) := by
  refine F.okX sc__law_row (fun vs H Q E h => ?_) (fun cdv A outer s H vs Q E hr h => ?_)
  · obtain ⟨_, rfl, _⟩ := h
    rfl
  · obtain ⟨x, rfl, d, hd, hv, hs, hw, hn, q⟩ := h
    refine ⟨_, (pss_cons (ps_if (pt_cmpR op_isN (pv 0) pe_non (nomark _)) (pss_one (ps_ret (pe_tup (pa_cons pe_int pa_nil)))) pss_nil)
 (pss_cons (ps_if (pt_val (pe_callB call_isi (by rfl) T.b_isinstance (by decide +kernel) (pa_cons (pv 0) (pa_cons (pe_bltn (by rfl) T.b_bool (by decide +kernel) (v := .ty "bool") rfl) pa_nil)))) (pss_one (ps_ret (pe_tup (pa_cons (pe_op op_add pe_int (pe_callTy call_int1 (by rfl) T.b_int (by decide +kernel) (pa_cons (pv 0) pa_nil))) pa_nil)))) pss_nil)
 (pss_cons (ps_if (pt_val (pe_callB call_isi (by rfl) T.b_isinstance (by decide +kernel) (pa_cons (pv 0) (pa_cons (pe_bltn (by rfl) T.b_int (by decide +kernel) (v := .ty "int") rfl) pa_nil)))) (pss_cons (ps_if (pt_cmpR op_lt (pv 0) pe_int (nomark _)) (pss_one (ps_ret (pe_op op_catA (pe_tup (pa_cons pe_int pa_nil)) (pc c__law_figures hr (by first | decide | omega) passL (pa_cons (pe_op op_sub (pe_un un_neg pe_int) (pv 0)) pa_nil))))) pss_nil)
 (pss_one (ps_ret (pe_op op_catA (pe_tup (pa_cons pe_int pa_nil)) (pc c__law_figures hr (by first | decide | omega) passL (pa_cons (pv 0) pa_nil)))))) pss_nil)
 (pss_cons (ps_if (pt_val (pe_callB call_isi (by rfl) T.b_isinstance (by decide +kernel) (pa_cons (pv 0) (pa_cons (pe_bltn (by rfl) T.b_str (by decide +kernel) (v := .ty "str") rfl) pa_nil)))) (pss_one (ps_ret (pe_op op_catA (pe_op op_catA (pe_tup (pa_cons pe_int pa_nil)) (pc c__law_figures hr (by first | decide | omega) passL (pa_cons (pe_callB call_len (by rfl) T.b_len (by decide +kernel) (pa_cons (pv 0) pa_nil)) pa_nil))) (pe_callTy call_tuple_of (by rfl) T.b_tuple (by decide +kernel) (pa_cons (pe_lc (own := [("_law_sign_here", 1)]) (g := gName 1) rfl sc__law_row.nd (pi_str (pv 0)) (blkOk_by (N := N__law_row) (sc := defScope s__law_row) (by decide +kernel)) (fun _ _ _ _ _ => (pg_name (i := 1) sc__law_row.nd rfl (Or.inl rfl))) (fun _ _ _ _ _ => pts_nil) (fun _ _ _ _ _ => (pe_callB (id := "ord") call_ord (by rfl) T.b_ord (by decide +kernel) (pa_cons (pv 1) pa_nil)))) pa_nil))))) pss_nil)
 (pss_cons (ps_set (i := 2) sc__law_row.nd rfl (Or.inl rfl) (pe_op op_catA (pe_tup (pa_cons pe_int pa_nil)) (pc c__law_figures hr (by first | decide | omega) passL (pa_cons (pe_callB call_len (by rfl) T.b_len (by decide +kernel) (pa_cons (pv 0) pa_nil)) pa_nil))))
 (pss_cons (ps_for (passes_of rfl) rfl (pi_tup (pv 0)) (pg_name (i := 3) sc__law_row.nd rfl (Or.inl rfl)) (pss_one (ps_set (i := 2) sc__law_row.nd rfl (Or.inl rfl) (pe_op op_catA (pv 2) (pc c__law_row hr (hk__law_row) passL (pa_cons (pv 3) pa_nil))))))
 (pss_one (ps_ret (pv 2))))))))), ?_⟩
    refine ⟨x, rfl, rfl, _, rfl, ?_⟩
    cases d with
    | non =>
      obtain rfl : x = .non := hd
      exact iteT ⟨sz_one, fun p hp => q p _ (Same.new hp) upd_same⟩
    | bl b =>
      obtain rfl : x = .bl b := hd
      have kd : Kd H (.bl b) "bool" := .bl b
      refine iteF ⟨_, rfl, _, .ty "bool", _, .type "bool", _, rfl, .ty _, kd.ty, kd.isBool, _, rfl, iteT ⟨_, rfl, .inr ⟨b, rfl, _, _, rfl, rfl, sz_one, fun p hp => q p _ (Same.new hp) ?_⟩⟩⟩
      cases b <;> exact upd_same
    | int i =>
      obtain rfl : x = .int i := hd
      have kd : Kd H (.int i) "int" := .int i
      obtain ⟨i1, i2⟩ := small_int (of_decide_eq_true hs)
      refine iteF ⟨_, rfl, _, .ty "bool", _, .type "bool", _, rfl, .ty _, kd.ty, kd.isBool, _, rfl, iteF ⟨_, rfl, _, .ty "int", _, .type "int", _, rfl, .ty _, kd.ty, kd.isInt, _, rfl, iteT ⟨_, rfl, _, _, rfl, rfl, _, rfl, ?_⟩⟩⟩
      show if decide (i < (0 : Int)) = true then _ else _
      by_cases hi : i < 0
      · rw [decide_eq_true hi]
        have e : wr (.int i) = 4 :: figs (-1 - i).toNat := by
          unfold wr
          rw [if_pos hi]
        rw [e] at q hw
        refine iteT ⟨sz_one, fun p hp => ⟨_, rfl, _, rfl, _, _, rfl, rfl, _, rfl, (-1 - i).toNat, ?_, i2, fun z H' s2 hz => ?_⟩⟩
        · show V.int (-1 - i) = _
          congr 1
          omega
        · exact catV (s2 _ _ upd_same) hz (by rw [rv_len]; show 1 + _ ≤ _; rw [List.length_cons] at hw; omega) fun r H3 s3 hr => q r H3 (((Same.new hp).trans s2).trans s3) hr
      · rw [decide_eq_false hi]
        have e : wr (.int i) = 3 :: figs i.toNat := by
          unfold wr
          rw [if_neg hi]
        rw [e] at q hw
        refine iteF ⟨sz_one, fun p hp => ⟨_, rfl, _, rfl, i.toNat, ?_, i1, fun z H' s2 hz => ?_⟩⟩
        · congr 1
          omega
        · exact catV (s2 _ _ upd_same) hz (by rw [rv_len]; show 1 + _ ≤ _; rw [List.length_cons] at hw; omega) fun r H3 s3 hr => q r H3 (((Same.new hp).trans s2).trans s3) hr
    | str t =>
      obtain rfl : x = .str ⟨t.toArray⟩ := hd
      have kd : Kd H (.str ⟨t.toArray⟩) "str" := .str _
      obtain ⟨v1, v2, v3⟩ := vstr_mem hv
      have hl : (⟨t.toArray⟩ : Str).length = t.length := SX.S_len t
      have hw' : 1 + ((figs t.length).length + t.length) ≤ 100000 := by
        have e : (wr (.str t)).length = 1 + ((figs t.length).length + t.length) := by
          show (5 :: (figs t.length ++ t)).length = _
          rw [List.length_cons, List.length_append]
          omega
        omega
      refine iteF ⟨_, rfl, _, .ty "bool", _, .type "bool", _, rfl, .ty _, kd.ty, kd.isBool, _, rfl, iteF ⟨_, rfl, _, .ty "int", _, .type "int", _, rfl, .ty _, kd.ty, kd.isInt, _, rfl,
        iteF ⟨_, rfl, _, .ty "str", _, .type "str", _, rfl, .ty _, kd.ty, kd.isStr, _, rfl, iteT ⟨sz_one, fun p hp => ?_⟩⟩⟩⟩
      refine ⟨_, rfl, _, _, rfl, ⟨by rw [hl]; exact Nat.le_trans v2 (by decide), rfl⟩, _, rfl, t.length, by rw [hl], Nat.lt_of_le_of_lt v2 (by decide), fun z H' s2 hz => ?_⟩
      refine catV (s2 _ _ upd_same) hz (by rw [rv_len]; show 1 + _ ≤ _; omega) fun r H3 s3 hr => ?_
      have s4 := ((Same.new hp).trans s2).trans s3
      refine ⟨_, rfl, _, rfl, lc1 walk_str (rv t) (by simp) (by simp; omega) (fun _ _ => trivial) (fun i x H2 H3 y Q' hi s5 yv hy => ?_) fun D H2 hD s5 hdd => ?_⟩
      · obtain ⟨rfl, c, hc, rfl⟩ := yv
        have hc' := str_at hc
        obtain ⟨b, e1, rfl⟩ := rv_got hy
        rw [hc'] at e1
        have e1 := Option.some.inj e1
        subst e1
        exact ⟨Same.refl _, fun q' => ⟨_, rfl, _, rfl, rfl, q' H3 (Same.refl _)⟩⟩
      · refine ⟨D, _, rfl, .inl ⟨SqL.of hdd, fun m hm => ?_⟩⟩
        have s6 := Same.new (o := .tup (rv t)) hm
        refine catV (s6 _ _ (s5 _ _ hr)) upd_same (by rw [List.length_append, rv_len, rv_len]; show 1 + _ + _ ≤ _; omega) fun m2 H5 s7 hm2 => ?_
        refine q m2 H5 (((s4.trans s5).trans s6).trans s7) ?_
        rw [hm2]
        show some (HO.tup ([V.int 5] ++ rv (figs t.length) ++ rv t)) = some (HO.tup (rv (5 :: (figs t.length ++ t))))
        rw [show (5 :: (figs t.length ++ t)) = [5] ++ figs t.length ++ t by simp, rv_app, rv_app]
        rfl
    | lst xs => cases hv
    | tup xs =>
      obtain ⟨a, us, rfl, ha, hu⟩ := hd
      have kd : Kd H (.ref a) "tuple" := .tup ha
      have hs' := Bool.and_eq_true_iff.mp (show (decide (xs.length ≤ 100000) && sms xs) = true from hs)
      have hlen := of_decide_eq_true hs'.1
      have ul := hu.len
      have ew : wr (.tup xs) = 6 :: (figs xs.length ++ wrs xs) := rfl
      have hw' : 1 + ((figs xs.length).length + (wrs xs).length) ≤ 100000 := by
        rw [ew, List.length_cons, List.length_append] at hw
        omega
      cases n with
      | zero => exact absurd hn (by show ¬ deps xs + 1 ≤ 0; omega)
      | succ n =>
        have hR' := hR n rfl
        subst hR'
        refine iteF ⟨_, rfl, _, .ty "bool", _, .type "bool", _, rfl, .ty _, kd.ty, kd.isBool, _, rfl, iteF ⟨_, rfl, _, .ty "int", _, .type "int", _, rfl, .ty _, kd.ty, kd.isInt, _, rfl,
          iteF ⟨_, rfl, _, .ty "str", _, .type "str", _, rfl, .ty _, kd.ty, kd.isStr, _, rfl, iteF ⟨sz_one, fun p hp => ?_⟩⟩⟩⟩
        refine ⟨_, rfl, _, _, rfl, .inr ⟨us, SqT.of (Same.new hp _ _ ha), rfl⟩, _, rfl, xs.length, by rw [ul], Nat.lt_of_le_of_lt hlen (by decide), fun z H' s2 hz => ?_⟩
        refine catV (s2 _ _ upd_same) hz (by rw [rv_len]; show 1 + _ ≤ _; omega) fun r H3 s3 hr => ?_
        have s4 := ((Same.new hp).trans s2).trans s3
        refine ⟨_, rfl, a, rfl, ⟨us, SqT.of (s4 _ _ ha)⟩, for_it walk_tup (fun i σ H2 => ∃ r v3, σ = [some (.ref a), none, some (.ref r), v3] ∧ Same H H2 ∧ H2 r = some (.tup (rv (6 :: (figs xs.length ++ wrs (xs.take i))))))
          ⟨r, none, rfl, s4, ?_⟩ (fun i σ H2 _ ⟨_, _, _, s5, _⟩ => SqT.of (s5 _ _ ha)) (fun i x σ H2 H3 hi p1 yv => ?_) (fun σ H2 p1 => ?_)⟩
        · rw [hr]
          show some (HO.tup ([V.int 6] ++ rv (figs xs.length))) = some (HO.tup (rv (6 :: (figs xs.length ++ []))))
          rw [List.append_nil]
          rfl
        · obtain ⟨r, v3, rfl, s5, hl5⟩ := p1
          obtain ⟨rfl, hx⟩ := yv
          obtain ⟨d, e1, e2⟩ := hu.get hx
          have mem := List.mem_of_getElem? e1
          have le1 := wrs_le mem
          refine ⟨_, rfl, _, rfl, _, rfl, d, e2.mono s5 d x, vds_mem hv d mem, sms_mem hs'.2 d mem, by omega, deps_mem (show deps xs ≤ n by have : deps xs + 1 ≤ n + 1 := hn; omega) d mem, fun z2 H4 s6 hz2 => ?_⟩
          have et : wrs (xs.take (i + 1)) = wrs (xs.take i) ++ wr d := by
            rw [take_snoc e1, wrs_app]
            show _ ++ (wr d ++ []) = _
            rw [List.append_nil]
          have le2 := wrs_take_le xs (i + 1)
          have le3 : (6 :: (figs xs.length ++ wrs (xs.take i))).length + (wr d).length ≤ 100000 := by
            rw [et, List.length_append] at le2
            rw [List.length_cons, List.length_append]
            omega
          refine catV (s6 _ _ hl5) hz2 (by rw [rv_len, rv_len]; omega) fun r2 H5 s7 hr2 => ?_
          refine ⟨r2, _, rfl, (s5.trans s6).trans s7, ?_⟩
          rw [hr2, ← rv_app, et]
          show some (HO.tup (rv (6 :: (figs xs.length ++ wrs (xs.take i)) ++ wr d))) = _
          rw [List.cons_append, List.append_assoc]
        · obtain ⟨r, v3, rfl, s5, hl5⟩ := p1
          rw [ul, List.take_length] at hl5
          exact ⟨_, rfl, q r H2 s5 hl5⟩
theorem ok_row (T : Txt K mg) (c__law_figures : Kn P w K mg base "_law_figures" 1 p__law_figures sp_figures) (F : Fun K "_law_row" "_law_row" s__law_row f fd) (a : At K mg "_law_row" f fd p__law_row) : ∀ n, FnOk P w K mg base (L2.CX P w) (n + 2) f fd p__law_row (sp_row n)
  | 0 => ok_row1 T 0 c__law_figures (Kn.of a fn_no) (by omega) (fun m h => by omega) F
  | n + 1 => ok_row1 T (n + 1) c__law_figures (Kn.of a (ok_row T c__law_figures F a n)) (by omega) (fun m h => by rw [show m = n by omega]) F
def sp_law_sealed : Sp := fun vs H Q _ => ∃ x, vs = [x] ∧ ∃ d : D, Is H x d ∧ vd d = true ∧ sm d = true ∧ (wr d).length ≤ 100000 ∧ dep d ≤ 21 ∧ NewT H Q (wr d ++ sl (wr d))
theorem ok_law_sealed (T : Txt K mg) (c__law_row : Kn P w K mg base "_law_row" 23 p__law_row (sp_row 21)) (c__law_seal : Kn P w K mg base "_law_seal" 2 p__law_seal sp_seal) (F : Fun K "_law_sealed" "_law_sealed" s__law_sealed f fd) :
    FnOk P w K mg base (L2.CX P w) 24 f fd p__law_sealed sp_law_sealed := by
  refine F.okX sc__law_sealed (fun vs H Q E h => ?_) (fun cdv A outer s H vs Q E hr h => ?_)
  · obtain ⟨_, rfl, _⟩ := h
    rfl
  · obtain ⟨x, rfl, d, hd, hv, hs, hw, hn, q⟩ := h
    refine ⟨_, (pss_cons (ps_set (i := 1) sc__law_sealed.nd rfl (Or.inl rfl) (pc c__law_row hr (by first | decide | omega) passL (pa_cons (pv 0) pa_nil)))
 (pss_one (ps_ret (pe_op op_catA (pv 1) (pc c__law_seal hr (by first | decide | omega) passL (pa_cons (pv 1) pa_nil)))))), ?_⟩
    refine ⟨x, rfl, x, rfl, d, hd, hv, hs, hw, hn, fun p H2 s1 hp => ?_⟩
    refine ⟨_, rfl, _, rfl, _, rfl, wr d, ⟨p, rfl, hp⟩, fun z H3 s2 hz => ?_⟩
    exact catV (s2 _ _ hp) hz (by rw [rv_len, rv_len]; show _ + 4 ≤ _; omega) fun m H4 s3 hm => q m H4 ((s1.trans s2).trans s3) (by rw [hm, rv_app])
end
end Cl
set_option maxRecDepth 100000
set_option maxHeartbeats 4000000
/-! the law's own reading: wholes, signs, texts -/
namespace Cl
open PySem PySem.Spec PyProof.Rows L2 RZ
/-- on from a found part: f the sum so far, p the next power, i bytes read -/
def cmb (f p i : Nat) : Option (Nat × Nat × Nat) → Option (Nat × Nat × Nat)
  | none => none
  | some (v, k, l) => some (f + p * v, i + k, l)
theorem cmb_one (z : Option (Nat × Nat × Nat)) : cmb 0 1 0 z = z := by
  cases z with
  | none => rfl
  | some z =>
    obtain ⟨v, k, l⟩ := z
    show some (0 + 1 * v, 0 + k, l) = _
    rw [Nat.zero_add, Nat.one_mul, Nat.zero_add]
theorem cmb_step {f p i b : Nat} {t : List Nat} : cmb f p i (wl (b :: t)) = if b < 128 then some (f + p * (b % 128), i + 1, b) else cmb (f + p * (b % 128)) (p * 128) (i + 1) (wl t) := by
  show cmb f p i (if b < 128 then some (b, 1, b) else match wl t with
    | none => none
    | some (v, k, l) => some (b % 128 + 128 * v, k + 1, l)) = _
  by_cases hb : b < 128
  · rw [if_pos hb, if_pos hb]
    show some (f + p * b, i + 1, b) = _
    rw [Nat.mod_eq_of_lt hb]
  · rw [if_neg hb, if_neg hb]
    cases wl t with
    | none => rfl
    | some z =>
      obtain ⟨v, k, l⟩ := z
      show some (f + p * (b % 128 + 128 * v), i + (k + 1), l) = some (f + p * (b % 128) + p * 128 * v, i + 1 + k, l)
      rw [Nat.mul_add, Nat.add_assoc, Nat.mul_assoc]
      congr 3
      omega
/-- what a reader of a whole hands back -/
def resW (p : Nat) : Option (Nat × Nat) → List V
  | none => [.non, .non, .int (p : Int)]
  | some (m, q) => [.int (m : Int), .int (q : Int), .non]
def fin (p : Nat) : Option (Nat × Nat × Nat) → Option (Nat × Nat)
  | none => none
  | some (v, k, l) => if l = 0 ∧ 1 < k then none else some (v, p + k)
theorem rdW_fin (r : List Nat) (p : Nat) : rdW r p = fin p (wl (r.drop p)) := by
  unfold rdW fin
  cases wl (r.drop p) with
  | none => rfl
  | some z => rfl
def sp_read_whole : Sp := fun vs H Q _ => ∃ x y, vs = [x, y] ∧ ∃ (r : List Nat) (p : Nat), RowAt H x r ∧ y = .int (p : Int) ∧ p ≤ r.length ∧ r.length ≤ 200000 ∧ NewV H Q (resW p (rdW r p))
def sp_sign : Sp := fun vs H Q _ => ∃ x, vs = [x] ∧ ∃ c : Nat, x = .int (c : Int) ∧ sgn c = true ∧ Q (.str ⟨#[c]⟩) H
/-- what a reader of a text or a parcel hands back -/
def ResAt (H : Hp) (p : Addr) : Except Nat (D × Nat) → Prop
  | .error e => H p = some (.tup [.non, .non, .int (e : Int)])
  | .ok (d, q) => ∃ v, H p = some (.tup [v, .int (q : Int), .non]) ∧ Is H v d
abbrev NewR (H : Hp) (Q : VK) (x : Except Nat (D × Nat)) : Prop := ∀ p H', Same H H' → ResAt H' p x → Q (.ref p) H'
def sp_read_text : Sp := fun vs H Q _ => ∃ x y, vs = [x, y] ∧ ∃ (r : List Nat) (p : Nat), RowAt H x r ∧ y = .int (p : Int) ∧ p ≤ r.length ∧ r.length ≤ 200000 ∧ NewR H Q (rdS r p)
abbrev LSG : Str := " !\"#$&'()*+,-./0123456789:;<=>?@ABCDEFGHIJKLMNOPQRSTUVWXYZ[\\]^_`abcdefghijklmnopqrstuvwxyz{|}~"
theorem lsg_all : ((List.range 127).all fun c => !sgn c || decide (atI LSG.cps.toList ((c : Int) - 32 - (if decide (37 < (c : Int)) = true then 1 else 0)) = some c)) = true := by decide +kernel
theorem lsg_at {c : Nat} (h : sgn c = true) : atI LSG.cps.toList ((c : Int) - 32 - (if decide (37 < (c : Int)) = true then 1 else 0)) = some c := by
  have hc := sgn_lt h
  have := List.all_eq_true.mp lsg_all c (List.mem_range.mpr (by omega))
  rw [h, Bool.not_true, Bool.false_or] at this
  exact of_decide_eq_true this
theorem lsg_len : LSG.length ≤ sizeLine := szl (by decide +kernel)
theorem at_row {r : List Nat} {i b : Nat} (h : r[i]? = some b) : atI (rv r) (i : Int) = some (.int (b : Int)) := atI_nat (rv_get h)
/-- on from signs read -/
def cat (s : List Nat) : Except Nat (List Nat) → Except Nat (List Nat)
  | .error e => .error e
  | .ok t => .ok (s ++ t)
section
variable {P : Program} {w : World} {K : PySem.W.Frag} {mg : Str → Option Value} {base : Heap} {f : Addr} {fd : FuncData}
theorem ok_read_whole (T : Txt K mg) (F : Fun K "_law_read_whole" "_law_read_whole" s__law_read_whole f fd) : FnOk P w K mg base (L2.CX P w) 1 f fd p__law_read_whole sp_read_whole := by
  refine F.okX sc__law_read_whole (fun vs H Q E h => ?_) (fun cdv A outer s H vs Q E hr h => ?_)
  · obtain ⟨_, _, rfl, _⟩ := h
    rfl
  · obtain ⟨x, y, rfl, r, p, ⟨a, rfl, ha⟩, rfl, hp, hz, q⟩ := h
    refine ⟨_, (pss_cons (ps_set (i := 2) sc__law_read_whole.nd rfl (Or.inl rfl) pe_int)
 (pss_cons (ps_set (i := 3) sc__law_read_whole.nd rfl (Or.inl rfl) pe_int)
 (pss_cons (ps_for (passes_of rfl) rfl (pi_range2 (by rfl) T.b_range (pa_cons (pv 1) (pa_cons (pe_callB call_len_seq (by rfl) T.b_len (by decide +kernel) (pa_cons (pv 0) pa_nil)) pa_nil))) (pg_name (i := 4) sc__law_read_whole.nd rfl (Or.inl rfl)) (pss_cons (ps_set (i := 5) sc__law_read_whole.nd rfl (Or.inl rfl) (pe_ix ix_tup (pv 0) (pv 4) (fun _ _ => rfl)))
 (pss_cons (ps_set (i := 2) sc__law_read_whole.nd rfl (Or.inl rfl) (pe_op op_add (pv 2) (pe_op op_mul (pv 3) (pe_op op_mod (pe_callTy call_int1 (by rfl) T.b_int (by decide +kernel) (pa_cons (pv 5) pa_nil)) pe_int))))
 (pss_cons (ps_set (i := 3) sc__law_read_whole.nd rfl (Or.inl rfl) (pe_op op_mul (pv 3) pe_int))
 (pss_one (ps_if (pt_cmpR op_lt (pv 5) pe_int (nomark _)) (pss_cons (ps_if (PW.pt (pw_and (pt_cmpR op_eq (pv 5) pe_int (nomark _)) (pw_and1 (pt_cmpR op_gt (pv 4) (pv 1) (nomark _))))) (pss_one (ps_ret (pe_tup (pa_cons pe_non (pa_cons pe_non (pa_cons (pv 1) pa_nil)))))) pss_nil)
 (pss_one (ps_ret (pe_tup (pa_cons (pv 2) (pa_cons (pe_op op_add (pv 4) pe_int) (pa_cons pe_non pa_nil))))))) pss_nil))))))
 (pss_one (ps_ret (pe_tup (pa_cons pe_non (pa_cons pe_non (pa_cons (pv 1) pa_nil))))))))), ?_⟩
    rw [rdW_fin] at q
    refine ⟨_, rfl, _, rfl, a, _, rfl, .inr (SqT.of ha), (p : Int), ((rv r).length : Int), rfl, by rw [rv_len]; omega, ?_⟩
    have en : (((rv r).length : Int) - (p : Int)).toNat = r.length - p := by
      rw [rv_len]
      omega
    rw [en]
    refine for_it walk_range (fun i σ H2 => ∃ (fo po : Nat) (v4 v5 : Option V), σ = [some (.ref a), some (.int (p : Int)), some (.int (fo : Int)), some (.int (po : Int)), v4, v5] ∧ H2 = H ∧ i ≤ r.length - p ∧ cmb fo po i (wl (r.drop (p + i))) = wl (r.drop p))
      ⟨0, 1, none, none, rfl, rfl, Nat.zero_le _, by rw [Nat.add_zero, cmb_one]⟩ (fun _ _ _ _ _ => trivial) (fun i x σ H2 H3 hi p1 yv => ?_) (fun σ H2 p1 => ?_)
    · obtain ⟨fo, po, v4, v5, rfl, rfl, _, e⟩ := p1
      obtain ⟨rfl, rfl⟩ := yv
      have hi' : p + i < r.length := by omega
      have hb : r[p + i]? = some r[p + i] := List.getElem?_eq_getElem hi'
      generalize r[p + i] = b at hb
      have hd : r.drop (p + i) = b :: r.drop (p + i + 1) := by
        obtain ⟨h1, h2⟩ := List.getElem?_eq_some_iff.mp hb
        rw [List.drop_eq_getElem_cons h1, h2]
      rw [hd, cmb_step] at e
      refine ⟨_, rfl, _, rfl, a, _, _, _, rfl, rfl, SqT.of ha, (by show atI (rv r) ((p : Int) + (i : Int)) = some _; rw [show (p : Int) + (i : Int) = ((p + i : Nat) : Int) by omega]; exact at_row hb), ?_⟩
      refine ⟨_, rfl, _, rfl, _, rfl, .inl ⟨_, rfl, _, _, rfl, rfl, (by show (0 : Int) < 128; decide), _, _, rfl, rfl, .inr (by show -(2 ^ 64) < (b : Int) % 128 ∧ (b : Int) % 128 < 2 ^ 64; omega), _, _, rfl, rfl, ?_⟩⟩
      refine ⟨_, rfl, _, _, rfl, rfl, .inr (by decide), _, rfl, _, _, rfl, rfl, _, rfl, ?_⟩
      show if decide ((b : Int) < 128) = true then _ else _
      have ef : (fo : Int) + (po : Int) * ((b : Int) % 128) = ((fo + po * (b % 128) : Nat) : Int) := by
        rw [Int.natCast_add, Int.natCast_mul, Int.natCast_emod]
        rfl
      have ep : (po : Int) * 128 = ((po * 128 : Nat) : Int) := by omega
      by_cases hb' : b < 128
      · rw [decide_eq_true (by omega)]
        rw [if_pos hb'] at e
        refine iteT ⟨_, rfl, rfl, _, rfl, ?_⟩
        have q2 : NewV H3 Q (resW p (if b = 0 ∧ 1 < i + 1 then none else some (fo + po * (b % 128), p + (i + 1)))) := by
          rw [← e] at q
          exact q
        have bad : b = 0 ∧ 0 < i → ∀ z, H3 z = none → Q (.ref z) (upd H3 z (.tup [.non, .non, .int (p : Int)])) := fun g z hz => by
          rw [if_pos ⟨g.1, by omega⟩] at q2
          exact q2 z _ (Same.new hz) upd_same
        have good : ¬ (b = 0 ∧ 0 < i) → ∀ z, H3 z = none → Q (.ref z) (upd H3 z (.tup [.int ((fo : Int) + (po : Int) * ((b : Int) % 128)), .int ((p : Int) + (i : Int) + 1), .non])) := fun g z hz => by
          rw [if_neg (fun g' => g ⟨g'.1, by omega⟩)] at q2
          refine q2 z _ (Same.new hz) ?_
          rw [upd_same, ef, show (p : Int) + (i : Int) + 1 = ((p + (i + 1) : Nat) : Int) by omega]
          rfl
        show if decide (V.int (b : Int) = V.int 0) = true then _ else _
        by_cases hb0 : b = 0
        · rw [decide_eq_true (by rw [hb0]; rfl)]
          refine iteT ⟨_, rfl, _, rfl, _, _, rfl, rfl, _, rfl, ?_⟩
          show if decide ((p : Int) < (p : Int) + (i : Int)) = true then _ else _
          by_cases hi0 : 0 < i
          · rw [decide_eq_true (by omega)]
            exact iteT ⟨_, rfl, szl (by show 3 ≤ 1000000; decide), bad ⟨hb0, hi0⟩⟩
          · rw [decide_eq_false (by omega)]
            exact iteF ⟨_, rfl, _, rfl, _, _, rfl, rfl, szl (by show 3 ≤ 1000000; decide), good fun g => hi0 g.2⟩
        · rw [decide_eq_false (by intro z; injection z with z; omega)]
          refine iteF ?_
          exact iteF ⟨_, rfl, _, rfl, _, _, rfl, rfl, szl (by show 3 ≤ 1000000; decide), good fun g => hb0 g.1⟩
      · rw [decide_eq_false (by omega)]
        rw [if_neg hb'] at e
        refine iteF ⟨fo + po * (b % 128), po * 128, some (.int ((p : Int) + (i : Int))), some (.int (b : Int)), ?_, rfl, by omega, e⟩
        rw [← ef, ← ep]
        rfl
    · obtain ⟨fo, po, v4, v5, rfl, rfl, _, e⟩ := p1
      rw [show p + (r.length - p) = r.length by omega, List.drop_length] at e
      have e' : wl (r.drop p) = none := e.symm
      rw [e'] at q
      exact ⟨_, rfl, szl (by show 3 ≤ 1000000; decide), fun z hz => q z _ (Same.new hz) upd_same⟩
theorem ok_sign (T : Txt K mg) (F : Fun K "_law_sign" "_law_sign" s__law_sign f fd) : FnOk P w K mg base (L2.CX P w) 1 f fd p__law_sign sp_sign := by
  refine F.okX sc__law_sign (fun vs H Q E h => ?_) (fun cdv A outer s H vs Q E hr h => ?_)
  · obtain ⟨_, rfl, _⟩ := h
    rfl
  · obtain ⟨x, rfl, c, rfl, hc, q⟩ := h
    refine ⟨_, (pss_cons (ps_set (i := 1) sc__law_sign.nd rfl (Or.inl rfl) pe_str)
 (pss_one (ps_ret (pe_ix ix_str (pv 1) (pe_op op_sub (pe_op op_sub (pv 0) pe_int) (pe_callTy call_int1 (by rfl) T.b_int (by decide +kernel) (pa_cons (pe_cmpR op_gt (pv 0) pe_int (nomark _)) pa_nil))) (fun _ _ => rfl))))), ?_⟩
    refine ⟨_, rfl, _, rfl, _, _, rfl, rfl, _, rfl, _, _, rfl, rfl, .inr ⟨_, rfl, _, _, rfl, rfl, LSG, _, c, rfl, rfl, lsg_len, lsg_at hc, q⟩⟩
theorem ok_read_text (T : Txt K mg) (c__law_read_whole : Kn P w K mg base "_law_read_whole" 1 p__law_read_whole sp_read_whole) (c__law_sign : Kn P w K mg base "_law_sign" 1 p__law_sign sp_sign)
    (F : Fun K "_law_read_text" "_law_read_text" s__law_read_text f fd) : FnOk P w K mg base (L2.CX P w) 2 f fd p__law_read_text sp_read_text := by
  refine F.okX sc__law_read_text (fun vs H Q E h => ?_) (fun cdv A outer s H vs Q E hr h => ?_)
  · obtain ⟨_, _, rfl, _⟩ := h
    rfl
  · obtain ⟨x, y, rfl, r, p, ⟨a, rfl, ha⟩, rfl, hp, hz, q⟩ := h
    refine ⟨_, (pss_cons (ps_asg (pc c__law_read_whole hr (by first | decide | omega) passL (pa_cons (pv 0) (pa_cons (pv 1) pa_nil))) (pg_tup rfl (pgs_cons (pg_name (i := 2) sc__law_read_text.nd rfl (Or.inl rfl)) (pgs_cons (pg_name (i := 3) sc__law_read_text.nd rfl (Or.inl rfl)) (pgs_cons (pg_name (i := 4) sc__law_read_text.nd rfl (Or.inl rfl)) pgs_nil)))))
 (pss_cons (ps_if (pt_cmpR op_notN (pv 4) pe_non (nomark _)) (pss_one (ps_ret (pe_tup (pa_cons pe_non (pa_cons pe_non (pa_cons (pv 4) pa_nil)))))) pss_nil)
 (pss_cons (ps_if (pt_not (pt_chain op_le op_le pe_int (pv 2) pe_int)) (pss_one (ps_ret (pe_tup (pa_cons pe_non (pa_cons pe_non (pa_cons (pv 1) pa_nil)))))) pss_nil)
 (pss_cons (ps_set (i := 5) sc__law_read_text.nd rfl (Or.inl rfl) pe_str)
 (pss_cons (ps_for (passes_of rfl) rfl (pi_range2 (by rfl) T.b_range (pa_cons (pv 3) (pa_cons (pe_op op_add (pv 3) (pv 2)) pa_nil))) (pg_name (i := 6) sc__law_read_text.nd rfl (Or.inl rfl)) (pss_cons (ps_if (pt_cmpR op_ge (pv 6) (pe_callB call_len_seq (by rfl) T.b_len (by decide +kernel) (pa_cons (pv 0) pa_nil)) (nomark _)) (pss_one (ps_ret (pe_tup (pa_cons pe_non (pa_cons pe_non (pa_cons (pe_callB call_len_seq (by rfl) T.b_len (by decide +kernel) (pa_cons (pv 0) pa_nil)) pa_nil)))))) pss_nil)
 (pss_cons (ps_if (PW.pt (pw_or (pt_not (pt_chain op_le op_le pe_int (pe_ix ix_tup (pv 0) (pv 6) (fun _ _ => rfl)) pe_int)) (pw_or1 (pt_cmpR op_eq (pe_ix ix_tup (pv 0) (pv 6) (fun _ _ => rfl)) pe_int (nomark _))))) (pss_one (ps_ret (pe_tup (pa_cons pe_non (pa_cons pe_non (pa_cons (pv 6) pa_nil)))))) pss_nil)
 (pss_one (ps_set (i := 5) sc__law_read_text.nd rfl (Or.inl rfl) (pe_op op_add_str (pv 5) (pc c__law_sign hr (by first | decide | omega) passL (pa_cons (pe_ix ix_tup (pv 0) (pv 6) (fun _ _ => rfl)) pa_nil))))))))
 (pss_one (ps_ret (pe_tup (pa_cons (pv 5) (pa_cons (pe_op op_add (pv 3) (pv 2)) (pa_cons pe_non pa_nil))))))))))), ?_⟩
    refine ⟨_, rfl, _, rfl, _, _, rfl, r, p, ⟨a, rfl, ha⟩, rfl, hp, hz, fun z H2 s1 hz1 => ?_⟩
    cases e : rdW r p with
    | none =>
      rw [e] at hz1
      have e2 : rdS r p = .error p := by
        unfold rdS
        rw [e]
      rw [e2] at q
      refine ⟨z, _, rfl, SqT.of hz1, rfl, _, _, rfl, _, _, rfl, _, _, rfl, rfl, ?_⟩
      refine ⟨_, rfl, rfl, _, rfl, iteT ⟨_, rfl, szl (by show 3 ≤ 1000000; decide), fun m hm => q m _ (s1.trans (Same.new hm)) upd_same⟩⟩
    | some mq =>
      obtain ⟨m, h⟩ := mq
      rw [e] at hz1
      have lw := rdW_len e
      refine ⟨z, _, rfl, SqT.of hz1, rfl, _, _, rfl, _, _, rfl, _, _, rfl, rfl, ?_⟩
      refine ⟨_, rfl, rfl, _, rfl, iteF ?_⟩
      have eS : rdS r p = if 1 ≤ m ∧ m ≤ 20 then (match rdC r m h with
          | .error e => .error e
          | .ok s => .ok (.str s, h + m)) else .error p := by
        unfold rdS
        rw [e]
        try rfl
      refine ⟨_, rfl, _, _, rfl, rfl, _, rfl, ?_⟩
      have bad : ¬ (1 ≤ m ∧ m ≤ 20) → ∀ z, H2 z = none → Q (.ref z) (upd H2 z (.tup [.non, .non, .int (p : Int)])) := fun g z hz => by
        rw [eS, if_neg g] at q
        exact q z _ (s1.trans (Same.new hz)) upd_same
      show if decide ((1 : Int) ≤ (m : Int)) = true then _ else _
      by_cases h1 : 1 ≤ m
      rotate_left
      · rw [decide_eq_false (by omega)]
        exact iteF ⟨_, rfl, iteT ⟨_, rfl, szl (by show 3 ≤ 1000000; decide), bad fun g => h1 g.1⟩⟩
      rw [decide_eq_true (by omega)]
      refine iteT ⟨_, _, rfl, rfl, _, rfl, ?_⟩
      show if (!decide ((m : Int) ≤ 20)) = true then _ else _
      by_cases h2 : m ≤ 20
      rotate_left
      · rw [decide_eq_false (by omega)]
        exact iteT ⟨_, rfl, szl (by show 3 ≤ 1000000; decide), bad fun g => h2 g.2⟩
      rw [decide_eq_true (by omega)]
      rw [eS, if_pos ⟨h1, h2⟩] at q
      refine iteF ?_
      refine ⟨_, rfl, _, rfl, _, rfl, _, _, rfl, rfl, (h : Int), (h : Int) + (m : Int), rfl, by omega, ?_⟩
      have en : ((h : Int) + (m : Int) - (h : Int)).toNat = m := by omega
      rw [en]
      refine for_it walk_range (fun i σ H3 => ∃ (t : List Nat) (v6 : Option V), σ = [some (.ref a), some (.int (p : Int)), some (.int (m : Int)), some (.int (h : Int)), some .non, some (.str ⟨t.toArray⟩), v6] ∧ H3 = H2 ∧ i ≤ m ∧ t.length = i ∧ cat t (rdC r (m - i) (h + i)) = rdC r m h)
        ⟨[], none, rfl, rfl, Nat.zero_le _, rfl, by show cat [] (rdC r m h) = _; cases rdC r m h <;> rfl⟩ (fun _ _ _ _ _ => trivial) (fun i x σ H3 H4 hi p1 yv => ?_) (fun σ H3 p1 => ?_)
      · obtain ⟨t, v6, rfl, rfl, _, et, ec⟩ := p1
        obtain ⟨rfl, rfl⟩ := yv
        have ha2 := s1 _ _ ha
        obtain ⟨j, hj⟩ : ∃ j, m - i = j + 1 := ⟨m - i - 1, by omega⟩
        rw [hj] at ec
        have ec' : cat t (match r[h + i]? with
          | none => .error r.length
          | some c => if sgn c = true then (match rdC r j (h + i + 1) with
            | .error e => .error e
            | .ok s => .ok (c :: s)) else .error (h + i)) = rdC r m h := ec
        refine ⟨_, rfl, _, rfl, a, _, rfl, .inr (SqT.of ha2), _, _, rfl, rfl, _, rfl, ?_⟩
        rw [rv_len]
        show if decide ((r.length : Int) ≤ (h : Int) + (i : Int)) = true then _ else _
        by_cases hlt : h + i < r.length
        rotate_left
        · have e0 : r[h + i]? = none := List.getElem?_eq_none (by omega)
          rw [e0] at ec'
          have ec2 : rdC r m h = .error r.length := ec'.symm
          rw [ec2] at q
          rw [decide_eq_true (by omega)]
          refine iteT ⟨_, rfl, a, _, rfl, .inr (SqT.of ha2), szl (by show 3 ≤ 1000000; decide), fun z hz => q z _ (s1.trans (Same.new hz)) ?_⟩
          show upd _ z _ z = _
          rw [upd_same, rv_len]
        have hb : r[h + i]? = some r[h + i] := List.getElem?_eq_getElem hlt
        generalize r[h + i] = b at hb
        rw [hb] at ec'
        dsimp only at ec'
        have hat : atI (rv r) ((h : Int) + (i : Int)) = some (.int (b : Int)) := by
          rw [show (h : Int) + (i : Int) = ((h + i : Nat) : Int) by omega]
          exact at_row hb
        rw [decide_eq_false (by omega)]
        refine iteF ⟨_, rfl, _, rfl, a, _, _, _, rfl, rfl, SqT.of ha2, hat, _, _, rfl, rfl, _, rfl, ?_⟩
        have bad : ¬ sgn b = true → ∀ z, H4 z = none → Q (.ref z) (upd H4 z (.tup [.non, .non, .int ((h : Int) + (i : Int))])) := fun g z hz => by
          rw [if_neg g] at ec'
          have ec2 : rdC r m h = .error (h + i) := ec'.symm
          rw [ec2] at q
          refine q z _ (s1.trans (Same.new hz)) ?_
          show upd _ z _ z = _
          rw [upd_same, Int.natCast_add]
        have sg : sgn b = (decide (32 ≤ b) && (decide (b ≤ 126) && decide (b ≠ 37))) := rfl
        show if decide ((32 : Int) ≤ (b : Int)) = true then _ else _
        by_cases b1 : 32 ≤ b
        rotate_left
        · rw [decide_eq_false (by omega)]
          exact iteF ⟨_, rfl, iteT ⟨_, rfl, szl (by show 3 ≤ 1000000; decide), bad fun g => b1 (sgn_lt g).1⟩⟩
        rw [decide_eq_true (by omega)]
        refine iteT ⟨_, _, rfl, rfl, _, rfl, ?_⟩
        show if (!decide ((b : Int) ≤ 126)) = true then _ else _
        by_cases b2 : b ≤ 126
        rotate_left
        · rw [decide_eq_false (by omega)]
          exact iteT ⟨_, rfl, szl (by show 3 ≤ 1000000; decide), bad fun g => b2 (sgn_lt g).2.1⟩
        rw [decide_eq_true (by omega)]
        refine iteF ⟨_, rfl, _, rfl, a, _, _, _, rfl, rfl, SqT.of ha2, hat, rfl, _, rfl, ?_⟩
        show if decide (V.int (b : Int) = V.int 37) = true then _ else _
        by_cases b3 : b = 37
        · rw [decide_eq_true (by rw [b3]; rfl)]
          exact iteT ⟨_, rfl, szl (by show 3 ≤ 1000000; decide), bad fun g => (sgn_lt g).2.2 b3⟩
        rw [decide_eq_false (by intro z; injection z with z; omega)]
        have hs : sgn b = true := by
          rw [sg, decide_eq_true b1, decide_eq_true b2, decide_eq_true b3]
          rfl
        rw [if_pos hs] at ec'
        refine iteF ⟨_, rfl, _, rfl, _, rfl, a, _, _, _, rfl, rfl, SqT.of ha2, hat, _, rfl, b, rfl, hs, _, _, rfl, rfl, ?_, t ++ [b], some (.int ((h : Int) + (i : Int))), ?_, rfl, by omega, by rw [List.length_append, et]; rfl, ?_⟩
        · rw [SX.S_len t]
          exact szl (by show t.length + 1 ≤ 1000000; omega)
        · have e3 : (⟨t.toArray⟩ : Str) ++ (⟨#[b]⟩ : Str) = ⟨(t ++ [b]).toArray⟩ := SX.S_cat t [b]
          show [some (V.ref a), some (V.int (p : Int)), some (V.int (m : Int)), some (V.int (h : Int)), some V.non, some (V.str ((⟨t.toArray⟩ : Str) ++ (⟨#[b]⟩ : Str))), some (V.int ((h : Int) + (i : Int)))] = _
          rw [e3]
        · rw [show m - (i + 1) = j by omega, show h + (i + 1) = h + i + 1 by omega, ← ec']
          cases rdC r j (h + i + 1) with
          | error e => rfl
          | ok s =>
            show Except.ok (t ++ [b] ++ s) = Except.ok (t ++ b :: s)
            rw [List.append_assoc]
            rfl
      · obtain ⟨t, v6, rfl, rfl, _, et, ec⟩ := p1
        rw [Nat.sub_self] at ec
        have ec2 : rdC r m h = .ok (t ++ []) := ec.symm
        rw [List.append_nil] at ec2
        rw [ec2] at q
        refine ⟨_, rfl, _, rfl, _, rfl, _, _, rfl, rfl, szl (by show 3 ≤ 1000000; decide), fun z hz => q z _ (s1.trans (Same.new hz)) ⟨_, ?_, rfl⟩⟩
        show upd _ z _ z = _
        rw [upd_same, Int.natCast_add]
end
end Cl
set_option maxRecDepth 100000
set_option maxHeartbeats 4000000
/-! the law's own reading: parcels -/
namespace Cl
open PySem PySem.Spec PyProof.Rows L2 RZ
def onI (ds : List D) : Except Nat (List D × Nat) → Except Nat (List D × Nat)
  | .error e => .error e
  | .ok (es, z) => .ok (ds ++ es, z)
theorem onI_nil (x : Except Nat (List D × Nat)) : onI [] x = x := by
  cases x with
  | error e => rfl
  | ok z => rfl
theorem onI_step {f : Nat → Except Nat (D × Nat)} {ds : List D} {n q q' : Nat} {d : D} (h : f q = .ok (d, q')) : onI ds (rdI f (n + 1) q) = onI (ds ++ [d]) (rdI f n q') := by
  have e : rdI f (n + 1) q = (match f q with
    | .error e => .error e
    | .ok (d, q) => match rdI f n q with
      | .error e => .error e
      | .ok (ds, z) => .ok (d :: ds, z)) := rfl
  rw [e, h]
  dsimp only
  cases rdI f n q' with
  | error e => rfl
  | ok z =>
    obtain ⟨es, z⟩ := z
    show Except.ok (ds ++ d :: es, z) = Except.ok (ds ++ [d] ++ es, z)
    rw [List.append_assoc]
    rfl
theorem onI_bad {f : Nat → Except Nat (D × Nat)} {ds : List D} {n q e : Nat} (h : f q = .error e) : onI ds (rdI f (n + 1) q) = .error e := by
  have e' : rdI f (n + 1) q = (match f q with
    | .error e => .error e
    | .ok (d, q) => match rdI f n q with
      | .error e => .error e
      | .ok (ds, z) => .ok (d :: ds, z)) := rfl
  rw [e', h]
  rfl
def deepR (r : List Nat) (p : Nat) : Nat → Except Nat (D × Nat)
  | 0 => .error p
  | l + 1 => rdT r (rdP r l) (p + 1)
theorem pred_int (n : Nat) : V.int (((n + 1 : Nat) : Int) - 1) = V.int (n : Int) := by
  rw [Int.natCast_add]
  show V.int ((n : Int) + 1 - 1) = _
  rw [Int.add_sub_cancel]
theorem rdP_eq (r : List Nat) (n p : Nat) : rdP r n p = rdN r p (deepR r p n) := by
  cases n <;> rfl
def sp_rp (n : Nat) : Sp := fun vs H Q _ => ∃ x y z, vs = [x, y, z] ∧ ∃ (r : List Nat) (p : Nat), RowAt H x r ∧ y = .int (p : Int) ∧ z = .int (n : Int) ∧ p ≤ r.length ∧ r.length ≤ 200000 ∧ NewR H Q (rdP r n p)
/-- what _law_read hands back -/
def ReadAt (H : Hp) (p : Addr) : Except Nat D → Prop
  | .error e => H p = some (.tup [.str "bad", .int (e : Int)])
  | .ok d => ∃ v, H p = some (.tup [.str "told", v]) ∧ Is H v d
def sp_read : Sp := fun vs H Q _ => ∃ x, vs = [x] ∧ ∃ r : List Nat, RowAt H x r ∧ r.length ≤ 200000 ∧ ∀ p H', Same H H' → ReadAt H' p (rd r) → Q (.ref p) H'
theorem sz3 {a b c : V} : [a, b, c].length ≤ sizeLine := szl (by show 3 ≤ 1000000; decide)
theorem sz2 {a b : V} : [a, b].length ≤ sizeLine := szl (by show 2 ≤ 1000000; decide)
section
variable {P : Program} {w : World} {K : PySem.W.Frag} {mg : Str → Option Value} {base : Heap} {f : Addr} {fd : FuncData}
theorem ok_rp1 (T : Txt K mg) (n : Nat) {k : Nat} {spR : Sp} (c__law_read_whole : Kn P w K mg base "_law_read_whole" 1 p__law_read_whole sp_read_whole) (c__law_read_text : Kn P w K mg base "_law_read_text" 2 p__law_read_text sp_read_text)
    (c__law_read_parcel : Kn P w K mg base "_law_read_parcel" k p__law_read_parcel spR) (hk__law_read_parcel : k ≤ n + 2) (hR : ∀ m, n = m + 1 → spR = sp_rp m)
    (F : Fun K "_law_read_parcel" "_law_read_parcel" s__law_read_parcel f fd) : FnOk P w K mg base (L2.CX P w) (n + 3) f fd p__law_read_parcel (sp_rp n) := by
  refine F.okX sc__law_read_parcel (fun vs H Q E h => ?_) (fun cdv A outer s H vs Q E hr h => ?_)
  · obtain ⟨_, _, _, rfl, _⟩ := h
    rfl
  · obtain ⟨x, y, z, rfl, r, p, ⟨a, rfl, ha⟩, rfl, rfl, hp, hz, q⟩ := h
    refine ⟨_, (pss_cons (ps_if (PW.pt (pw_or (pt_cmpR op_ge (pv 1) (pe_callB call_len_seq (by rfl) T.b_len (by decide +kernel) (pa_cons (pv 0) pa_nil)) (nomark _)) (pw_or (pt_cmpR op_gt (pe_ix ix_tup (pv 0) (pv 1) (fun _ _ => rfl)) pe_int (nomark _)) (pw_or1 (PW.pt (pw_and (pt_cmpR op_eq (pe_ix ix_tup (pv 0) (pv 1) (fun _ _ => rfl)) pe_int (nomark _)) (pw_and1 (pt_cmpR op_eq (pv 2) pe_int (nomark _))))))))) (pss_one (ps_ret (pe_tup (pa_cons pe_non (pa_cons pe_non (pa_cons (pe_callB (call_min2 rfl) (by rfl) T.b_min (by decide +kernel) (pa_cons (pv 1) (pa_cons (pe_callB call_len_seq (by rfl) T.b_len (by decide +kernel) (pa_cons (pv 0) pa_nil)) pa_nil))) pa_nil)))))) pss_nil)
 (pss_cons (ps_set (i := 3) sc__law_read_parcel.nd rfl (Or.inl rfl) (pe_ix ix_tup (pv 0) (pv 1) (fun _ _ => rfl)))
 (pss_cons (ps_if (pt_cmpR op_lt (pv 3) pe_int (nomark _)) (pss_one (ps_ret (pe_tup (pa_cons (pe_ix ix_list (pe_lst (pa_cons pe_non (pa_cons pe_bl (pa_cons pe_bl pa_nil)))) (pv 3) (fun _ _ => rfl)) (pa_cons (pe_op op_add (pv 1) pe_int) (pa_cons pe_non pa_nil)))))) pss_nil)
 (pss_cons (ps_if (pt_cmpR op_eq (pv 3) pe_int (nomark _)) (pss_one (ps_ret (pc c__law_read_text hr (by first | decide | omega) passL (pa_cons (pv 0) (pa_cons (pe_op op_add (pv 1) pe_int) pa_nil))))) pss_nil)
 (pss_cons (ps_asg (pc c__law_read_whole hr (by first | decide | omega) passL (pa_cons (pv 0) (pa_cons (pe_op op_add (pv 1) pe_int) pa_nil))) (pg_tup rfl (pgs_cons (pg_name (i := 4) sc__law_read_parcel.nd rfl (Or.inl rfl)) (pgs_cons (pg_name (i := 5) sc__law_read_parcel.nd rfl (Or.inl rfl)) (pgs_cons (pg_name (i := 6) sc__law_read_parcel.nd rfl (Or.inl rfl)) pgs_nil)))))
 (pss_cons (ps_if (pt_cmpR op_notN (pv 6) pe_non (nomark _)) (pss_one (ps_ret (pe_tup (pa_cons pe_non (pa_cons pe_non (pa_cons (pv 6) pa_nil)))))) pss_nil)
 (pss_cons (ps_if (pt_cmpR op_lt (pv 3) pe_int (nomark _)) (pss_one (ps_ret (pe_tup (pa_cons (pe_ix ix_list (pe_lst (pa_cons (pv 4) (pa_cons (pe_op op_sub (pe_un un_neg pe_int) (pv 4)) pa_nil))) (pe_op op_sub (pv 3) pe_int) (fun _ _ => rfl)) (pa_cons (pv 5) (pa_cons pe_non pa_nil)))))) pss_nil)
 (pss_cons (ps_set (i := 7) sc__law_read_parcel.nd rfl (Or.inl rfl) (pe_tup pa_nil))
 (pss_cons (ps_for (passes_of rfl) rfl (pi_rangeB (by rfl) T.b_range (pa_cons (pv 4) pa_nil)) (pg_name (i := 8) sc__law_read_parcel.nd rfl (Or.inl rfl)) (pss_cons (ps_asg (pc c__law_read_parcel hr (hk__law_read_parcel) passL (pa_cons (pv 0) (pa_cons (pv 5) (pa_cons (pe_op op_sub (pv 2) pe_int) pa_nil)))) (pg_tup rfl (pgs_cons (pg_name (i := 9) sc__law_read_parcel.nd rfl (Or.inl rfl)) (pgs_cons (pg_name (i := 5) sc__law_read_parcel.nd rfl (Or.inl rfl)) (pgs_cons (pg_name (i := 6) sc__law_read_parcel.nd rfl (Or.inl rfl)) pgs_nil)))))
 (pss_cons (ps_if (pt_cmpR op_notN (pv 6) pe_non (nomark _)) (pss_one (ps_ret (pe_tup (pa_cons pe_non (pa_cons pe_non (pa_cons (pv 6) pa_nil)))))) pss_nil)
 (pss_one (ps_set (i := 7) sc__law_read_parcel.nd rfl (Or.inl rfl) (pe_op op_catA (pv 7) (pe_tup (pa_cons (pv 9) pa_nil))))))))
 (pss_one (ps_ret (pe_tup (pa_cons (pv 7) (pa_cons (pv 5) (pa_cons pe_non pa_nil))))))))))))))), ?_⟩
    rw [rdP_eq] at q
    refine ⟨_, rfl, _, rfl, a, _, rfl, .inr (SqT.of ha), _, _, rfl, rfl, _, rfl, ?_⟩
    rw [rv_len]
    show if decide ((r.length : Int) ≤ (p : Int)) = true then _ else _
    have bad0 : rdN r p (deepR r p n) = .error p → ∀ z, H z = none → Q (.ref z) (upd H z (.tup [.non, .non, .int (if ((rv r).length : Int) < (p : Int) then ((rv r).length : Int) else (p : Int))])) := fun e z hz => by
      rw [e] at q
      refine q z _ (Same.new hz) ?_
      show upd _ z _ z = _
      rw [upd_same, if_neg (by rw [rv_len]; omega)]
    by_cases hlt : p < r.length
    rotate_left
    · rw [decide_eq_true (by omega)]
      have e0 : r[p]? = none := List.getElem?_eq_none (by omega)
      have e1 : rdN r p (deepR r p n) = .error p := by
        unfold rdN
        rw [e0]
        show Except.error r.length = _
        rw [show r.length = p by omega]
      exact iteT ⟨_, rfl, _, rfl, a, _, rfl, .inr (SqT.of ha), _, _, rfl, sz3, bad0 e1⟩
    rw [decide_eq_false (by omega)]
    have hb : r[p]? = some r[p] := List.getElem?_eq_getElem hlt
    generalize r[p] = b at hb
    have hat := at_row hb
    have eN : ∀ x, rdN r p x = (if b = 0 then .ok (.non, p + 1) else if b = 1 then .ok (.bl false, p + 1) else if b = 2 then .ok (.bl true, p + 1)
        else if b = 3 then (match rdW r (p + 1) with
          | none => .error (p + 1)
          | some (m, q) => .ok (.int m, q))
        else if b = 4 then (match rdW r (p + 1) with
          | none => .error (p + 1)
          | some (m, q) => .ok (.int (-1 - (m : Int)), q))
        else if b = 5 then rdS r (p + 1) else if b = 6 then x else .error p) := fun x => by
      unfold rdN
      rw [hb]
      try rfl
    refine iteF ⟨_, rfl, _, rfl, a, _, _, _, rfl, rfl, SqT.of ha, hat, _, _, rfl, rfl, _, rfl, ?_⟩
    show if decide ((6 : Int) < (b : Int)) = true then _ else _
    by_cases h6 : 6 < b
    · rw [decide_eq_true (by omega)]
      refine iteT (iteT ⟨_, rfl, _, rfl, a, _, rfl, .inr (SqT.of ha), _, _, rfl, sz3, bad0 ?_⟩)
      rw [eN, if_neg (by omega), if_neg (by omega), if_neg (by omega), if_neg (by omega), if_neg (by omega), if_neg (by omega), if_neg (by omega)]
    rw [decide_eq_false (by omega)]
    refine iteF ⟨_, rfl, _, rfl, a, _, _, _, rfl, rfl, SqT.of ha, hat, rfl, _, rfl, ?_⟩
    show if decide (V.int (b : Int) = V.int 6) = true then _ else _
    -- the rest, once the first test is past
    have rest : (b = 6 → n ≠ 0) → ∀ (D0 : TS), True := fun _ _ => trivial
    by_cases hs6 : b = 6
    rotate_left
    · rw [decide_eq_false (by intro z; injection z with z; omega)]
      refine iteF (iteF ?_)
      refine ⟨_, rfl, _, rfl, a, _, _, _, rfl, rfl, SqT.of ha, hat, ?_⟩
      refine ⟨_, rfl, _, _, rfl, rfl, _, rfl, ?_⟩
      show if decide ((b : Int) < 3) = true then _ else _
      by_cases h3 : b < 3
      · rw [decide_eq_true (by omega)]
        refine iteT ⟨sz3, fun l hl => ?_⟩
        have s1 := Same.new (o := .lst [.non, .bl false, .bl true]) hl
        have : b = 0 ∨ b = 1 ∨ b = 2 := by omega
        rcases this with rfl | rfl | rfl
        · have e : rdN r p (deepR r p n) = .ok (.non, p + 1) := by rw [eN, if_pos rfl]
          rw [e] at q
          refine ⟨_, rfl, l, _, _, .non, rfl, rfl, SqL.of upd_same, rfl, _, rfl, _, _, rfl, rfl, sz3, fun z hz => q z _ (s1.trans (Same.new hz)) ⟨.non, upd_same, rfl⟩⟩
        · have e : rdN r p (deepR r p n) = .ok (.bl false, p + 1) := by rw [eN, if_neg (by decide), if_pos rfl]
          rw [e] at q
          refine ⟨_, rfl, l, _, _, .bl false, rfl, rfl, SqL.of upd_same, rfl, _, rfl, _, _, rfl, rfl, sz3, fun z hz => q z _ (s1.trans (Same.new hz)) ⟨.bl false, upd_same, rfl⟩⟩
        · have e : rdN r p (deepR r p n) = .ok (.bl true, p + 1) := by rw [eN, if_neg (by decide), if_neg (by decide), if_pos rfl]
          rw [e] at q
          refine ⟨_, rfl, l, _, _, .bl true, rfl, rfl, SqL.of upd_same, rfl, _, rfl, _, _, rfl, rfl, sz3, fun z hz => q z _ (s1.trans (Same.new hz)) ⟨.bl true, upd_same, rfl⟩⟩
      rw [decide_eq_false (by omega)]
      refine iteF ⟨_, rfl, rfl, _, rfl, ?_⟩
      show if decide (V.int (b : Int) = V.int 5) = true then _ else _
      have pe : V.int ((p : Int) + 1) = V.int ((p + 1 : Nat) : Int) := by rw [Int.natCast_add]; rfl
      by_cases h5 : b = 5
      · rw [decide_eq_true (by rw [h5]; rfl)]
        have e : rdN r p (deepR r p n) = rdS r (p + 1) := by
          rw [eN, if_neg (by omega), if_neg (by omega), if_neg (by omega), if_neg (by omega), if_neg (by omega), if_pos h5]
        rw [e] at q
        exact iteT ⟨_, rfl, _, rfl, _, _, rfl, rfl, _, _, rfl, r, p + 1, ⟨a, rfl, ha⟩, pe, by omega, hz, q⟩
      rw [decide_eq_false (by intro z; injection z with z; omega)]
      refine iteF ⟨_, rfl, _, rfl, _, _, rfl, rfl, _, _, rfl, r, p + 1, ⟨a, rfl, ha⟩, pe, by omega, hz, fun z H2 s1 hz1 => ?_⟩
      cases e : rdW r (p + 1) with
      | none =>
        rw [e] at hz1
        have e2 : rdN r p (deepR r p n) = .error (p + 1) := by
          rw [eN, if_neg (by omega), if_neg (by omega), if_neg (by omega), if_neg h5, if_neg hs6, e]
          by_cases h33 : b = 3
          · rw [if_pos h33]
          · rw [if_neg h33, if_pos (by omega)]
        rw [e2] at q
        refine ⟨z, _, rfl, SqT.of hz1, rfl, _, _, rfl, _, _, rfl, _, _, rfl, rfl, ?_⟩
        exact ⟨_, rfl, rfl, _, rfl, iteT ⟨_, rfl, sz3, fun m hm => q m _ (s1.trans (Same.new hm)) upd_same⟩⟩
      | some mq =>
        obtain ⟨m, h⟩ := mq
        rw [e] at hz1
        refine ⟨z, _, rfl, SqT.of hz1, rfl, _, _, rfl, _, _, rfl, _, _, rfl, rfl, ?_⟩
        refine ⟨_, rfl, rfl, _, rfl, iteF ?_⟩
        refine ⟨_, rfl, _, _, rfl, rfl, _, rfl, ?_⟩
        show if decide ((b : Int) < 5) = true then _ else _
        rw [decide_eq_true (by omega)]
        refine iteT ⟨_, rfl, _, rfl, _, rfl, _, _, rfl, rfl, sz2, fun l hl => ?_⟩
        have s2 := s1.trans (Same.new (o := .lst [.int (m : Int), .int (-1 - (m : Int))]) hl)
        have : b = 3 ∨ b = 4 := by omega
        rcases this with rfl | rfl
        · have e2 : rdN r p (deepR r p n) = .ok (.int m, h) := by
            rw [eN, if_neg (by decide), if_neg (by decide), if_neg (by decide), if_pos rfl, e]
          rw [e2] at q
          exact ⟨_, rfl, _, _, rfl, rfl, l, _, _, .int (m : Int), rfl, rfl, SqL.of upd_same, rfl, _, rfl, sz3, fun z hz => q z _ (s2.trans (Same.new hz)) ⟨.int (m : Int), upd_same, rfl⟩⟩
        · have e2 : rdN r p (deepR r p n) = .ok (.int (-1 - (m : Int)), h) := by
            rw [eN, if_neg (by decide), if_neg (by decide), if_neg (by decide), if_neg (by decide), if_pos rfl, e]
          rw [e2] at q
          exact ⟨_, rfl, _, _, rfl, rfl, l, _, _, .int (-1 - (m : Int)), rfl, rfl, SqL.of upd_same, rfl, _, rfl, sz3, fun z hz => q z _ (s2.trans (Same.new hz)) ⟨.int (-1 - (m : Int)), upd_same, rfl⟩⟩
    -- a tuple
    subst hs6
    rw [decide_eq_true (show V.int ((6 : Nat) : Int) = V.int 6 from rfl)]
    refine iteT ⟨_, rfl, rfl, _, rfl, ?_⟩
    have e6 : rdN r p (deepR r p n) = deepR r p n := by
      rw [eN, if_neg (by decide), if_neg (by decide), if_neg (by decide), if_neg (by decide), if_neg (by decide), if_neg (by decide), if_pos rfl]
    cases n with
    | zero => exact iteT ⟨_, rfl, _, rfl, a, _, rfl, .inr (SqT.of ha), _, _, rfl, sz3, bad0 e6⟩
    | succ n =>
      have hR' := hR n rfl
      subst hR'
      show if decide (V.int (((n + 1 : Nat)) : Int) = V.int 0) = true then _ else _
      rw [decide_eq_false (by intro z; injection z with z; omega)]
      refine iteF ?_
      rw [e6] at q
      have q2 : NewR H Q (rdT r (rdP r n) (p + 1)) := q
      have pe : V.int ((p : Int) + 1) = V.int ((p + 1 : Nat) : Int) := by rw [Int.natCast_add]; rfl
      refine ⟨_, rfl, _, rfl, a, _, _, _, rfl, rfl, SqT.of ha, hat, ?_⟩
      refine ⟨_, rfl, _, _, rfl, rfl, _, rfl, iteF ⟨_, rfl, rfl, _, rfl, iteF ?_⟩⟩
      refine ⟨_, rfl, _, rfl, _, _, rfl, rfl, _, _, rfl, r, p + 1, ⟨a, rfl, ha⟩, pe, by omega, hz, fun z H2 s1 hz1 => ?_⟩
      cases e : rdW r (p + 1) with
      | none =>
        rw [e] at hz1
        have e2 : rdT r (rdP r n) (p + 1) = .error (p + 1) := by
          unfold rdT
          rw [e]
        rw [e2] at q2
        refine ⟨z, _, rfl, SqT.of hz1, rfl, _, _, rfl, _, _, rfl, _, _, rfl, rfl, ?_⟩
        exact ⟨_, rfl, rfl, _, rfl, iteT ⟨_, rfl, sz3, fun m hm => q2 m _ (s1.trans (Same.new hm)) upd_same⟩⟩
      | some mq =>
        obtain ⟨m, h⟩ := mq
        rw [e] at hz1
        have lw := rdW_len e
        have eT : rdT r (rdP r n) (p + 1) = (match rdI (rdP r n) m h with
          | .error e => .error e
          | .ok (ds, z) => .ok (.tup ds, z)) := by
          unfold rdT
          rw [e]
          try rfl
        rw [eT] at q2
        refine ⟨z, _, rfl, SqT.of hz1, rfl, _, _, rfl, _, _, rfl, _, _, rfl, rfl, ?_⟩
        refine ⟨_, rfl, rfl, _, rfl, iteF ⟨_, rfl, _, _, rfl, rfl, _, rfl, iteF ⟨szl (by decide), fun t0 ht0 => ?_⟩⟩⟩
        have s2 := s1.trans (Same.new (o := .tup []) ht0)
        refine ⟨_, rfl, (m : Int), rfl, by omega, ?_⟩
        rw [Int.toNat_natCast]
        refine for_it walk_range (fun i σ H3 => ∃ (g : Nat) (ds : List D) (us : List V) (t : Addr) (v8 v9 : Option V), σ = [some (.ref a), some (.int (p : Int)), some (.int ((n + 1 : Nat) : Int)), some (.int ((6 : Nat) : Int)), some (.int (m : Int)), some (.int (g : Int)), some .non, some (.ref t), v8, v9] ∧
            Same H H3 ∧ H3 t = some (.tup us) ∧ IsL H3 us ds ∧ ds.length = i ∧ h + i ≤ g ∧ g ≤ r.length ∧ i ≤ m ∧ onI ds (rdI (rdP r n) (m - i) g) = rdI (rdP r n) m h)
          ⟨h, [], [], t0, none, none, rfl, s2, upd_same, rfl, rfl, Nat.le_refl _, lw.2, Nat.zero_le _, onI_nil _⟩ (fun _ _ _ _ _ => trivial) (fun i x σ H3 H4 hi p1 yv => ?_) (fun σ H3 p1 => ?_)
        · obtain ⟨g, ds, us, t, v8, v9, rfl, s3, ht, hu, hd, hg, hg2, _, eo⟩ := p1
          obtain ⟨rfl, rfl⟩ := yv
          obtain ⟨j, hj⟩ : ∃ j, m - i = j + 1 := ⟨m - i - 1, by omega⟩
          rw [hj] at eo
          refine ⟨_, rfl, _, rfl, _, rfl, _, _, rfl, rfl, _, _, _, rfl, r, g, ⟨a, rfl, s3 _ _ ha⟩, rfl, pred_int n, hg2, hz, fun z2 H5 s4 hz2 => ?_⟩
          cases e3 : rdP r n g with
          | error er =>
            rw [e3] at hz2
            rw [onI_bad e3] at eo
            rw [← eo] at q2
            refine ⟨z2, _, rfl, SqT.of hz2, rfl, _, _, rfl, _, _, rfl, _, _, rfl, rfl, ?_⟩
            exact ⟨_, rfl, rfl, _, rfl, iteT ⟨_, rfl, sz3, fun m hm => q2 m _ ((s3.trans s4).trans (Same.new hm)) upd_same⟩⟩
          | ok dq =>
            obtain ⟨d, g'⟩ := dq
            rw [e3] at hz2
            obtain ⟨v, hz2, hv⟩ := hz2
            have gd := rdP_good r n g d g' e3
            rw [onI_step e3] at eo
            refine ⟨z2, _, rfl, SqT.of hz2, rfl, _, _, rfl, _, _, rfl, _, _, rfl, rfl, ?_⟩
            refine ⟨_, rfl, rfl, _, rfl, iteF ⟨_, rfl, _, rfl, sz_one, fun o ho => ?_⟩⟩
            have s5 := Same.new (o := .tup [v]) ho
            have ul := hu.len
            refine catV (s5 _ _ (s4 _ _ ht)) upd_same (by show us.length + 1 ≤ _; omega) fun t2 H6 s6 ht2 => ?_
            refine ⟨g', ds ++ [d], us ++ [v], t2, _, _, rfl, ((s3.trans s4).trans s5).trans s6, ht2, (hu.mono ((s4.trans s5).trans s6) ds us).snoc (hv.mono (s5.trans s6) d v), by rw [List.length_append, hd]; rfl, by omega, gd.2.1, by omega, ?_⟩
            rw [show m - (i + 1) = j by omega]
            exact eo
        · obtain ⟨g, ds, us, t, v8, v9, rfl, s3, ht, hu, hd, hg, hg2, _, eo⟩ := p1
          rw [Nat.sub_self] at eo
          have eo2 : rdI (rdP r n) m h = .ok (ds ++ [], g) := eo.symm
          rw [List.append_nil] at eo2
          rw [eo2] at q2
          refine ⟨_, rfl, _, rfl, sz3, fun z hz => q2 z _ (s3.trans (Same.new hz)) ⟨.ref t, upd_same, t, us, rfl, Same.new hz _ _ ht, hu.mono (Same.new hz) ds us⟩⟩
theorem ok_rp (T : Txt K mg) (c__law_read_whole : Kn P w K mg base "_law_read_whole" 1 p__law_read_whole sp_read_whole) (c__law_read_text : Kn P w K mg base "_law_read_text" 2 p__law_read_text sp_read_text)
    (F : Fun K "_law_read_parcel" "_law_read_parcel" s__law_read_parcel f fd) (a : At K mg "_law_read_parcel" f fd p__law_read_parcel) : ∀ n, FnOk P w K mg base (L2.CX P w) (n + 3) f fd p__law_read_parcel (sp_rp n)
  | 0 => ok_rp1 T 0 c__law_read_whole c__law_read_text (Kn.of a fn_no) (by omega) (fun m h => by omega) F
  | n + 1 => ok_rp1 T (n + 1) c__law_read_whole c__law_read_text (Kn.of a (ok_rp T c__law_read_whole c__law_read_text F a n)) (by omega) (fun m h => by rw [show m = n by omega]) F
theorem ok_read (T : Txt K mg) (c__law_read_parcel : Kn P w K mg base "_law_read_parcel" 23 p__law_read_parcel (sp_rp 20)) (F : Fun K "_law_read" "_law_read" s__law_read f fd) : FnOk P w K mg base (L2.CX P w) 24 f fd p__law_read sp_read := by
  refine F.okX sc__law_read (fun vs H Q E h => ?_) (fun cdv A outer s H vs Q E hr h => ?_)
  · obtain ⟨_, rfl, _⟩ := h
    rfl
  · obtain ⟨x, rfl, r, ⟨a, rfl, ha⟩, hz, q⟩ := h
    refine ⟨_, (pss_cons (ps_asg (pc c__law_read_parcel hr (by first | decide | omega) passL (pa_cons (pv 0) (pa_cons pe_int (pa_cons pe_int pa_nil)))) (pg_tup rfl (pgs_cons (pg_name (i := 1) sc__law_read.nd rfl (Or.inl rfl)) (pgs_cons (pg_name (i := 2) sc__law_read.nd rfl (Or.inl rfl)) (pgs_cons (pg_name (i := 3) sc__law_read.nd rfl (Or.inl rfl)) pgs_nil)))))
 (pss_cons (ps_if (pt_cmpR op_notN (pv 3) pe_non (nomark _)) (pss_one (ps_ret (pe_tup (pa_cons pe_str (pa_cons (pv 3) pa_nil))))) pss_nil)
 (pss_one (ps_ret (pe_ifExp (pt_cmpR op_eq (pv 2) (pe_callB call_len_seq (by rfl) T.b_len (by decide +kernel) (pa_cons (pv 0) pa_nil)) (nomark _)) (pe_tup (pa_cons pe_str (pa_cons (pv 1) pa_nil))) (pe_tup (pa_cons pe_str (pa_cons (pv 2) pa_nil)))))))), ?_⟩
    refine ⟨_, rfl, _, _, _, rfl, r, 0, ⟨a, rfl, ha⟩, rfl, rfl, Nat.zero_le _, hz, fun z H2 s1 hz1 => ?_⟩
    unfold rd at q
    cases e : rdP r 20 0 with
    | error er =>
      rw [e] at hz1 q
      refine ⟨z, _, rfl, SqT.of hz1, rfl, _, _, rfl, _, _, rfl, _, _, rfl, rfl, ?_⟩
      exact ⟨_, rfl, rfl, _, rfl, iteT ⟨_, rfl, sz2, fun m hm => q m _ (s1.trans (Same.new hm)) upd_same⟩⟩
    | ok dq =>
      obtain ⟨d, g⟩ := dq
      rw [e] at hz1 q
      obtain ⟨v, hz1, hv⟩ := hz1
      refine ⟨z, _, rfl, SqT.of hz1, rfl, _, _, rfl, _, _, rfl, _, _, rfl, rfl, ?_⟩
      refine ⟨_, rfl, rfl, _, rfl, iteF ⟨_, rfl, _, rfl, a, _, rfl, .inr (SqT.of (s1 _ _ ha)), rfl, _, rfl, ?_⟩⟩
      rw [rv_len]
      dsimp only at q
      show if decide (V.int (g : Int) = V.int (r.length : Int)) = true then _ else _
      by_cases hg : g = r.length
      · rw [if_pos hg] at q
        rw [decide_eq_true (by rw [hg])]
        exact iteT ⟨_, rfl, sz2, fun m hm => q m _ (s1.trans (Same.new hm)) ⟨v, upd_same, hv.mono (Same.new hm) d v⟩⟩
      · rw [if_neg hg] at q
        rw [decide_eq_false (by intro z; injection z with z; omega)]
        exact iteF ⟨_, rfl, sz2, fun m hm => q m _ (s1.trans (Same.new hm)) upd_same⟩
end
end Cl
set_option maxRecDepth 100000
set_option maxHeartbeats 4000000
/-! the program's reader -/
namespace Cl
open PySem PySem.Spec PyProof.Rows L2 RZ
/-- a reader's fields -/
abbrev rdF (a b : V) : List (Str × V) := [("row", a), ("at", b)]
theorem put_at {a b : V} {z : Int} : putF "at" (.int z) (rdF a b) = rdF a (.int z) := by
  have h1 : ¬ (Str.ofString "row" = Str.ofString "at") := by decide
  unfold rdF
  rw [putF, if_neg h1, putF, if_pos rfl]
theorem put_at0 {a b : V} : putF "at" b (putF "row" a []) = rdF a b := by
  have h1 : ¬ (Str.ofString "row" = Str.ofString "at") := by decide
  rw [putF, putF, if_neg h1, putF]
theorem look_row {a b : V} : List.lookup (Str.ofString "row") (rdF a b) = some a := rfl
theorem look_at {a b : V} : List.lookup (Str.ofString "at") (rdF a b) = some b := rfl
def sp_bad (K : PySem.W.Frag) : Sp := fun vs H Q _ => ∃ x y, vs = [x, y] ∧ ∃ a : Addr, x = .ref a ∧ H a = some (exo a (cc K "BadRow") none) ∧
  ∀ dx, H dx = none → dx ≠ a → Q .non (upd (upd H dx (exd dx [("place", y)])) a (exo a (cc K "BadRow") (some dx)))
/-- BadRow(e) is raised -/
abbrev Bad (K : PySem.W.Frag) (H : Hp) (E : XK) (y : V) : Prop := ∀ d H', Same H H' → H' d = some (.xd [("place", y)]) → E (.ref (cc K "BadRow")) (some d) H'
theorem bad_ok {K : PySem.W.Frag} {H : Hp} {E E2 : XK} {y : V} (h : Bad K H E y) : [y].length ≤ 1000 ∧ ∀ a, H a = none → sp_bad K (.ref a :: ([y] ++ [])) (upd H a (exo a (cc K "BadRow") none))
    (fun v H2 => v = .non ∧ ∃ (d : Addr) (fs : List (Str × V)), H2 a = some (exo a (cc K "BadRow") (some d)) ∧ H2 d = some (exd d fs) ∧ H d = none ∧ E (.ref (cc K "BadRow")) (some d) (upd (del H2 a) d (.xd fs))) E2 := by
  refine ⟨by show 1 ≤ 1000; decide, fun a ha => ⟨_, _, rfl, a, rfl, upd_same, fun dx hdx ne => ⟨rfl, dx, _, upd_same, by rw [upd_ne ne, upd_same], by rw [upd_ne ne] at hdx; exact hdx, h dx _ (fun b o hb => ?_) upd_same⟩⟩⟩
  have hd : H dx = none := by rw [upd_ne ne] at hdx; exact hdx
  have b1 : b ≠ a := fun z => by rw [z, ha] at hb; cases hb
  have b2 : b ≠ dx := fun z => by rw [z, hd] at hb; cases hb
  rw [upd_ne b2, del_ne b1, upd_ne b1, upd_ne b2, upd_ne b1]
  exact hb
/-- the reader at c: its row at a, read up to p -/
structure RdAt (K : PySem.W.Frag) (H : Hp) (c dx a : Addr) (r : List Nat) (p : Nat) : Prop where
  o : H c = some (.ins (cc K "RowReader") dx (rdF (.ref a) (.int (p : Int))))
  r : H a = some (.tup (rv r))
theorem RdAt.ne {K : PySem.W.Frag} {H : Hp} {c dx a : Addr} {r : List Nat} {p : Nat} (h : RdAt K H c dx a r p) : a ≠ c := fun z => by
  have := h.r
  rw [z, h.o] at this
  injection this with this
  cases this
theorem RdAt.notup {K : PySem.W.Frag} {H : Hp} {c dx a : Addr} {r : List Nat} {p : Nat} (h : RdAt K H c dx a r p) : ∀ xs, H c ≠ some (.tup xs) := fun xs z => by
  rw [h.o] at z
  injection z with z
  cases z
theorem RdAt.same {K : PySem.W.Frag} {H H' : Hp} {c dx a : Addr} {r : List Nat} {p : Nat} (s : Same H H') (h : RdAt K H c dx a r p) : RdAt K H' c dx a r p := ⟨s _ _ h.o, s _ _ h.r⟩
theorem RdAt.go {K : PySem.W.Frag} {H : Hp} {c dx a : Addr} {r : List Nat} {p q : Nat} (h : RdAt K H c dx a r p) : RdAt K (upd H c (.ins (cc K "RowReader") dx (rdF (.ref a) (.int (q : Int))))) c dx a r q := ⟨upd_same, by rw [upd_ne h.ne]; exact h.r⟩
/-- what is asked of a reading method's ends -/
def RdE (K : PySem.W.Frag) (H : Hp) (c : Addr) (E : XK) (e : Nat) : Prop := ∀ d H', But c H H' → H' d = some (.xd [("place", .int (e : Int))]) → E (.ref (cc K "BadRow")) (some d) H'
theorem RdE.bad {K : PySem.W.Frag} {H H1 : Hp} {c : Addr} {E : XK} {e : Nat} (h : RdE K H c E e) (b : But c H H1) : Bad K H1 E (.int (e : Int)) := fun d H' s hd => h d H' (b.trans (.of s)) hd
theorem RdE.on {K : PySem.W.Frag} {H H1 : Hp} {c : Addr} {E : XK} {e : Nat} (h : RdE K H c E e) (b : But c H H1) : RdE K H1 c E e := fun d H' s hd => h d H' (b.trans s) hd
def RdV (K : PySem.W.Frag) (H : Hp) (c dx a : Addr) (r : List Nat) (Q : VK) (E : XK) : Except Nat (V × Nat) → Prop
  | .error e => RdE K H c E e
  | .ok (v, q) => ∀ H', But c H H' → RdAt K H' c dx a r q → Q v H'
def RdD (K : PySem.W.Frag) (H : Hp) (c dx a : Addr) (r : List Nat) (Q : VK) (E : XK) : Except Nat (D × Nat) → Prop
  | .error e => RdE K H c E e
  | .ok (d, q) => ∀ v H', But c H H' → RdAt K H' c dx a r q → Is H' v d → Q v H'
/-- the next byte, as a reading -/
def nxt (r : List Nat) (p : Nat) : Except Nat (V × Nat) := match r[p]? with
  | none => .error r.length
  | some b => .ok (.int (b : Int), p + 1)
def whl (r : List Nat) (p : Nat) : Except Nat (V × Nat) := match rdW r p with
  | none => .error p
  | some (m, q) => .ok (.int (m : Int), q)
def sp_init (K : PySem.W.Frag) : Sp := fun vs H Q _ => ∃ x y, vs = [x, y] ∧ ∃ (c dx a : Addr), x = .ref c ∧ y = .ref a ∧ H c = some (.ins (cc K "RowReader") dx []) ∧ Q .non (upd H c (.ins (cc K "RowReader") dx (rdF (.ref a) (.int 0))))
def sp_nxt (K : PySem.W.Frag) : Sp := fun vs H Q E => ∃ x, vs = [x] ∧ ∃ (c dx a : Addr) (r : List Nat) (p : Nat), x = .ref c ∧ RdAt K H c dx a r p ∧ p ≤ r.length ∧ RdV K H c dx a r Q E (nxt r p)
def sp_whl (K : PySem.W.Frag) : Sp := fun vs H Q E => ∃ x, vs = [x] ∧ ∃ (c dx a : Addr) (r : List Nat) (p : Nat), x = .ref c ∧ RdAt K H c dx a r p ∧ p ≤ r.length ∧ RdV K H c dx a r Q E (whl r p)
def sp_txt (K : PySem.W.Frag) : Sp := fun vs H Q E => ∃ x, vs = [x] ∧ ∃ (c dx a : Addr) (r : List Nat) (p : Nat), x = .ref c ∧ RdAt K H c dx a r p ∧ p ≤ r.length ∧ r.length ≤ 200000 ∧ RdD K H c dx a r Q E (rdS r p)
section
variable {P : Program} {w : World} {K : PySem.W.Frag} {mg : Str → Option Value} {base : Heap} {f : Addr} {fd : FuncData}
theorem ok_bad (T : Txt K mg) (F : Fun K "__init__" "BadRow.__init__" s_BadRow_init f fd) : FnOk P w K mg base (L2.CX P w) 1 f fd p_BadRow_init (sp_bad K) := by
  refine F.okX sc_BadRow_init (fun vs H Q E h => ?_) (fun cdv A outer s H vs Q E hr h => ?_)
  · obtain ⟨_, _, rfl, _⟩ := h
    rfl
  · obtain ⟨x, y, rfl, a, rfl, ha, q⟩ := h
    refine ⟨_, (pss_one (ps_ost (pv 0) (pv 1))), ?_⟩
    exact ⟨_, rfl, _, rfl, a, cc K "BadRow", rfl, T.oex, T.oexno, .inl ⟨ha, q⟩⟩
theorem ok_rinit (T : Txt K mg) (F : Fun K "__init__" "RowReader.__init__" s_RowReader_init f fd) : FnOk P w K mg base (L2.CX P w) 1 f fd p_RowReader_init (sp_init K) := by
  refine F.okX sc_RowReader_init (fun vs H Q E h => ?_) (fun cdv A outer s H vs Q E hr h => ?_)
  · obtain ⟨_, _, rfl, _⟩ := h
    rfl
  · obtain ⟨x, y, rfl, c, dx, a, rfl, rfl, hc, q⟩ := h
    refine ⟨_, (pss_cons (ps_fld (pv 0) (pv 1) rfl)
 (pss_one (ps_fld (pv 0) pe_int rfl))), ?_⟩
    refine ⟨_, rfl, _, rfl, c, _, dx, [], rfl, hc, T.clR, T.noRow, (by show 0 < 1000; decide), ?_⟩
    refine ⟨_, rfl, c, _, dx, _, rfl, upd_same, T.clR, T.noAt, (by show 1 < 1000; decide), ?_⟩
    rw [put_at0, upd_upd]
    exact q
theorem ok_nxt (T : Txt K mg) (c_BadRow_init : Kx P w K mg base (cc K "BadRow") 1 p_BadRow_init (sp_bad K)) (F : Fun K "next_byte" "RowReader.next_byte" s_RowReader_next_byte f fd) : FnOk P w K mg base (L2.CX P w) 3 f fd p_RowReader_next_byte (sp_nxt K) := by
  refine F.okX sc_RowReader_next_byte (fun vs H Q E h => ?_) (fun cdv A outer s H vs Q E hr h => ?_)
  · obtain ⟨_, rfl, _⟩ := h
    rfl
  · obtain ⟨x, rfl, c, dx, a, r, p, rfl, ha, hp, q⟩ := h
    refine ⟨_, (pss_cons (ps_if (pt_cmpR op_eq (pe_fld (pv 0) rfl) (pe_callB call_len_seq (by rfl) T.b_len (by decide +kernel) (pa_cons (pe_fld (pv 0) rfl) pa_nil)) (nomark _)) (pss_one (rz1 c_BadRow_init T.oex T.oexi hr (by first | decide | omega) T.g_BadRow (takes_of rfl rfl rfl rfl) (pa_cons (pe_fld (pv 0) rfl) pa_nil))) pss_nil)
 (pss_cons (ps_fldaug (pv 0) pe_int in_add)
 (pss_one (ps_ret (pe_ix ix_tup (pe_fld (pv 0) rfl) (pe_op op_sub (pe_fld (pv 0) rfl) pe_int) (fun _ _ => rfl)))))), ?_⟩
    refine ⟨_, rfl, c, _, dx, _, _, rfl, ha.o, T.clR, T.noAt, look_at, _, rfl, c, _, dx, _, _, rfl, ha.o, T.clR, T.noRow, look_row, a, _, rfl, .inr (SqT.of ha.r), rfl, _, rfl, ?_⟩
    rw [rv_len]
    show if decide (V.int (p : Int) = V.int (r.length : Int)) = true then _ else _
    unfold nxt at q
    by_cases h : p = r.length
    · rw [decide_eq_true (by rw [h])]
      rw [h, List.getElem?_eq_none (Nat.le_refl _)] at q
      refine iteT ⟨_, rfl, c, _, dx, _, _, rfl, ha.o, T.clR, T.noAt, look_at, ?_⟩
      rw [h]
      exact bad_ok (RdE.bad q (But.refl _ _))
    · rw [decide_eq_false (by intro z; injection z with z; omega)]
      have hb : r[p]? = some r[p] := List.getElem?_eq_getElem (by omega)
      generalize r[p] = b at hb
      rw [hb] at q
      refine iteF ⟨_, rfl, c, _, dx, _, _, rfl, ha.o, T.clR, T.noAt, look_at, _, _, rfl, rfl, dx, _, ha.o, (by show 2 < 1000; decide), ?_⟩
      rw [put_at, show (p : Int) + 1 = ((p + 1 : Nat) : Int) by omega]
      have h1 := ha.go (q := p + 1)
      refine ⟨_, rfl, c, _, dx, _, _, rfl, h1.o, T.clR, T.noRow, look_row, _, rfl, c, _, dx, _, _, rfl, h1.o, T.clR, T.noAt, look_at, _, _, rfl, rfl, a, _, _, _, rfl, rfl, SqT.of h1.r, ?_, q _ ((But.refl _ _).put ha.notup) h1⟩
      rw [show ((p + 1 : Nat) : Int) - 1 = (p : Int) by omega]
      exact at_row hb
theorem ok_whl (T : Txt K mg) (c_BadRow_init : Kx P w K mg base (cc K "BadRow") 1 p_BadRow_init (sp_bad K)) (F : Fun K "read_whole" "RowReader.read_whole" s_RowReader_read_whole f fd) : FnOk P w K mg base (L2.CX P w) 3 f fd p_RowReader_read_whole (sp_whl K) := by
  refine F.okX sc_RowReader_read_whole (fun vs H Q E h => ?_) (fun cdv A outer s H vs Q E hr h => ?_)
  · obtain ⟨_, rfl, _⟩ := h
    rfl
  · obtain ⟨x, rfl, c, dx, a, r, p, rfl, ha, hp, q⟩ := h
    refine ⟨_, (pss_cons (ps_set (i := 1) sc_RowReader_read_whole.nd rfl (Or.inl rfl) (pe_fld (pv 0) rfl))
 (pss_cons (ps_asg (pe_tup (pa_cons pe_int (pa_cons pe_int pa_nil))) (pg_tup rfl (pgs_cons (pg_name (i := 2) sc_RowReader_read_whole.nd rfl (Or.inl rfl)) (pgs_cons (pg_name (i := 3) sc_RowReader_read_whole.nd rfl (Or.inl rfl)) pgs_nil))))
 (pss_cons (ps_while (passes_of rfl) (pt_cmpR op_lt (pe_fld (pv 0) rfl) (pe_callB call_len_seq (by rfl) T.b_len (by decide +kernel) (pa_cons (pe_fld (pv 0) rfl) pa_nil)) (nomark _)) (pss_cons (ps_set (i := 4) sc_RowReader_read_whole.nd rfl (Or.inl rfl) (pe_ix ix_tup (pe_fld (pv 0) rfl) (pe_fld (pv 0) rfl) (fun _ _ => rfl)))
 (pss_cons (ps_fldaug (pv 0) pe_int in_add)
 (pss_cons (ps_aug (i := 2) sc_RowReader_read_whole.nd rfl (Or.inl rfl) (pe_op op_mul (pe_op op_mod (pv 4) (pgc (T.k_BASE))) (pv 3)) (ip_of iop_add))
 (pss_cons (ps_aug (i := 3) sc_RowReader_read_whole.nd rfl (Or.inl rfl) (pgc (T.k_BASE)) (ip_of iop_mul))
 (pss_one (ps_if (pt_cmpR op_lt (pv 4) (pgc (T.k_BASE)) (nomark _)) (pss_cons (ps_if (PW.pt (pw_and (pt_cmpR op_eq (pv 4) pe_int (nomark _)) (pw_and1 (pt_cmpR op_gt (pe_op op_sub (pe_fld (pv 0) rfl) (pv 1)) pe_int (nomark _))))) (pss_one (rz1 c_BadRow_init T.oex T.oexi hr (by first | decide | omega) T.g_BadRow (takes_of rfl rfl rfl rfl) (pa_cons (pv 1) pa_nil))) pss_nil)
 (pss_one (ps_ret (pv 2)))) pss_nil)))))))
 (pss_one (rz1 c_BadRow_init T.oex T.oexi hr (by first | decide | omega) T.g_BadRow (takes_of rfl rfl rfl rfl) (pa_cons (pv 1) pa_nil)))))), ?_⟩
    unfold whl at q
    rw [rdW_fin] at q
    refine ⟨_, rfl, c, _, dx, _, _, rfl, ha.o, T.clR, T.noAt, look_at, sz2, fun z hz => ⟨z, _, rfl, SqT.of upd_same, rfl, _, _, rfl, _, _, rfl, rfl, ?_⟩⟩
    have s0 := Same.new (o := .tup [.int 0, .int 1]) hz
    refine ⟨fun m σ H2 => ∃ (i fo po : Nat) (v4 : Option V), σ = [some (.ref c), some (.int (p : Int)), some (.int (fo : Int)), some (.int (po : Int)), v4] ∧ m = r.length - (p + i) ∧ But c H H2 ∧ RdAt K H2 c dx a r (p + i) ∧ p + i ≤ r.length ∧ cmb fo po i (wl (r.drop (p + i))) = wl (r.drop p),
      ⟨_, 0, 0, 1, none, rfl, rfl, But.of s0, ha.same s0, hp, by rw [Nat.add_zero, cmb_one]⟩, fun m σ H2 p1 => ?_⟩
    obtain ⟨i, fo, po, v4, rfl, rfl, hb, h1, hi, e⟩ := p1
    refine ⟨_, rfl, c, _, dx, _, _, rfl, h1.o, T.clR, T.noAt, look_at, _, rfl, c, _, dx, _, _, rfl, h1.o, T.clR, T.noRow, look_row, a, _, rfl, .inr (SqT.of h1.r), _, _, rfl, rfl, _, rfl, ?_⟩
    rw [rv_len]
    show if decide (((p + i : Nat) : Int) < (r.length : Int)) = true then _ else _
    by_cases hlt : p + i < r.length
    rotate_left
    · rw [decide_eq_false (by omega)]
      have hz : p + i = r.length := by omega
      rw [hz, List.drop_length] at e
      have e' : wl (r.drop p) = none := e.symm
      rw [e'] at q
      exact iteF ⟨_, rfl, bad_ok (RdE.bad q hb)⟩
    rw [decide_eq_true (by omega)]
    refine iteT ⟨fun σ' H' => ∃ m', m' < r.length - (p + i) ∧ ∃ (i fo po : Nat) (v4 : Option V), σ' = [some (.ref c), some (.int (p : Int)), some (.int (fo : Int)), some (.int (po : Int)), v4] ∧ m' = r.length - (p + i) ∧ But c H H' ∧ RdAt K H' c dx a r (p + i) ∧ p + i ≤ r.length ∧ cmb fo po i (wl (r.drop (p + i))) = wl (r.drop p), fun _ _ h => h, ?_⟩
    have hb' : r[p + i]? = some r[p + i] := List.getElem?_eq_getElem hlt
    generalize r[p + i] = b at hb'
    have hd : r.drop (p + i) = b :: r.drop (p + i + 1) := by
      obtain ⟨z1, z2⟩ := List.getElem?_eq_some_iff.mp hb'
      rw [List.drop_eq_getElem_cons z1, z2]
    rw [hd, cmb_step] at e
    refine ⟨_, rfl, c, _, dx, _, _, rfl, h1.o, T.clR, T.noRow, look_row, _, rfl, c, _, dx, _, _, rfl, h1.o, T.clR, T.noAt, look_at, a, _, _, _, rfl, rfl, SqT.of h1.r, at_row hb', ?_⟩
    refine ⟨_, rfl, c, _, dx, _, _, rfl, h1.o, T.clR, T.noAt, look_at, _, _, rfl, rfl, dx, _, h1.o, (by show 2 < 1000; decide), ?_⟩
    rw [put_at, show ((p + i : Nat) : Int) + 1 = ((p + (i + 1) : Nat) : Int) by omega]
    have h2 := h1.go (q := p + (i + 1))
    have hb2 := hb.put ha.notup (o := .ins (cc K "RowReader") dx (rdF (.ref a) (.int ((p + (i + 1) : Nat) : Int))))
    have ef : (fo : Int) + ((b : Int) % 128) * (po : Int) = ((fo + po * (b % 128) : Nat) : Int) := by
      rw [Int.mul_comm, Int.natCast_add, Int.natCast_mul, Int.natCast_emod]
      rfl
    have ep : (po : Int) * 128 = ((po * 128 : Nat) : Int) := by omega
    refine ⟨_, rfl, _, rfl, _, _, rfl, rfl, (by show (0 : Int) < 128; decide), _, rfl, _, _, rfl, rfl, .inl (by show -(2 ^ 64) < (b : Int) % 128 ∧ (b : Int) % 128 < 2 ^ 64; omega), _, _, rfl, rfl, ?_⟩
    refine ⟨_, rfl, _, _, rfl, rfl, .inr (by decide), ?_⟩
    refine ⟨_, rfl, _, _, rfl, rfl, _, rfl, ?_⟩
    show if decide ((b : Int) < 128) = true then _ else _
    by_cases hb' : b < 128
    rotate_left
    · rw [decide_eq_false (by omega)]
      rw [if_neg hb'] at e
      exact iteF ⟨_, (by omega : r.length - (p + (i + 1)) < r.length - (p + i)), i + 1, fo + po * (b % 128), po * 128, some (.int (b : Int)), by rw [← ef, ← ep]; rfl, rfl, hb2, h2, by omega, e⟩
    rw [decide_eq_true (by omega)]
    rw [if_pos hb'] at e
    rw [← e] at q
    refine iteT ⟨_, rfl, rfl, _, rfl, ?_⟩
    show if decide (V.int (b : Int) = V.int 0) = true then _ else _
    have good : ¬ (b = 0 ∧ 0 < i) → Q (.int ((fo : Int) + ((b : Int) % 128) * (po : Int))) _ := fun g => by
      rw [ef]
      unfold fin at q
      dsimp only at q
      rw [if_neg (fun g' => g ⟨g'.1, by omega⟩)] at q
      exact q _ hb2 h2
    by_cases hb0 : b = 0
    · rw [decide_eq_true (by rw [hb0]; rfl)]
      refine iteT ⟨_, rfl, c, _, dx, _, _, rfl, h2.o, T.clR, T.noAt, look_at, _, rfl, _, _, rfl, rfl, _, _, rfl, rfl, _, rfl, ?_⟩
      show if decide ((1 : Int) < ((p + (i + 1) : Nat) : Int) - (p : Int)) = true then _ else _
      by_cases hi0 : 0 < i
      · rw [decide_eq_true (by omega)]
        unfold fin at q
        dsimp only at q
        rw [if_pos ⟨hb0, by omega⟩] at q
        exact iteT ⟨_, rfl, bad_ok (RdE.bad q hb2)⟩
      · rw [decide_eq_false (by omega)]
        exact iteF ⟨_, rfl, good fun g => hi0 g.2⟩
    · rw [decide_eq_false (by intro z; injection z with z; omega)]
      exact iteF (iteF ⟨_, rfl, good fun g => hb0 g.1⟩)
theorem sg_all : ((List.range 127).all fun c => !sgn c || decide (atI S_SIGNS.cps.toList ((c : Int) - 32) = some c)) = true := by decide +kernel
theorem sg_at {c : Nat} (h : sgn c = true) : atI S_SIGNS.cps.toList ((c : Int) - 32) = some c := by
  have hc := sgn_lt h
  have := List.all_eq_true.mp sg_all c (List.mem_range.mpr (by omega))
  rw [h, Bool.not_true, Bool.false_or] at this
  exact of_decide_eq_true this
theorem sg_len : S_SIGNS.length ≤ sizeLine := szl (by decide +kernel)
theorem ok_txt (T : Txt K mg) (c_BadRow_init : Kx P w K mg base (cc K "BadRow") 1 p_BadRow_init (sp_bad K)) (c_is_sign : Kn P w K mg base "is_sign" 1 p_is_sign sp_is_sign)
    (c_RowReader_read_whole : Km P w K mg base (cc K "RowReader") "read_whole" 3 p_RowReader_read_whole (sp_whl K)) (c_RowReader_next_byte : Km P w K mg base (cc K "RowReader") "next_byte" 3 p_RowReader_next_byte (sp_nxt K))
    (F : Fun K "read_string" "RowReader.read_string" s_RowReader_read_string f fd) : FnOk P w K mg base (L2.CX P w) 4 f fd p_RowReader_read_string (sp_txt K) := by
  refine F.okX sc_RowReader_read_string (fun vs H Q E h => ?_) (fun cdv A outer s H vs Q E hr h => ?_)
  · obtain ⟨_, rfl, _⟩ := h
    rfl
  · obtain ⟨x, rfl, c, dx, a, r, p, rfl, ha, hp, hz, q⟩ := h
    refine ⟨_, (pss_cons (ps_set (i := 1) sc_RowReader_read_string.nd rfl (Or.inl rfl) (pe_fld (pv 0) rfl))
 (pss_cons (ps_set (i := 2) sc_RowReader_read_string.nd rfl (Or.inl rfl) (pm0 c_RowReader_read_whole T.clR hr (by first | decide | omega) (passes_call (takes_of rfl rfl rfl rfl) (fun _ _ _ _ h => h)) (pv 0)))
 (pss_cons (ps_if (pt_not (pt_chain op_le op_le pe_int (pv 2) (pgc (T.k_MOST_SIGNS)))) (pss_one (rz1 c_BadRow_init T.oex T.oexi hr (by first | decide | omega) T.g_BadRow (takes_of rfl rfl rfl rfl) (pa_cons (pv 1) pa_nil))) pss_nil)
 (pss_cons (ps_set (i := 3) sc_RowReader_read_string.nd rfl (Or.inl rfl) pe_str)
 (pss_cons (ps_for (passes_of rfl) rfl (pi_range1 (by rfl) T.b_range (pa_cons (pv 2) pa_nil)) (pg_name (i := 4) sc_RowReader_read_string.nd rfl (Or.inl rfl)) (pss_cons (ps_set (i := 5) sc_RowReader_read_string.nd rfl (Or.inl rfl) (pm0 c_RowReader_next_byte T.clR hr (by first | decide | omega) (passes_call (takes_of rfl rfl rfl rfl) (fun _ _ _ _ h => h)) (pv 0)))
 (pss_cons (ps_if (pt_not (pt_val (pc c_is_sign hr (by first | decide | omega) passL (pa_cons (pv 5) pa_nil)))) (pss_one (rz1 c_BadRow_init T.oex T.oexi hr (by first | decide | omega) T.g_BadRow (takes_of rfl rfl rfl rfl) (pa_cons (pe_op op_sub (pe_fld (pv 0) rfl) pe_int) pa_nil))) pss_nil)
 (pss_one (ps_aug (i := 3) sc_RowReader_read_string.nd rfl (Or.inl rfl) (pe_ix ix_str (pgc (T.k_SIGNS)) (pe_op op_sub (pv 5) (pgc (T.k_FIRST_SIGN))) (fun _ _ => rfl)) (ip_of iop_add_str))))))
 (pss_one (ps_ret (pv 3)))))))), ?_⟩
    refine ⟨_, rfl, c, _, dx, _, _, rfl, ha.o, T.clR, T.noAt, look_at, ?_⟩
    refine ⟨_, rfl, c, dx, _, rfl, ha.o, rfl, _, rfl, c, dx, a, r, p, rfl, ha, hp, ?_⟩
    unfold rdS at q
    unfold whl
    cases e : rdW r p with
    | none =>
      rw [e] at q
      exact q
    | some mq =>
      obtain ⟨m, h⟩ := mq
      rw [e] at q
      dsimp only at q
      have lw := rdW_len e
      intro H2 hb h1
      refine ⟨_, rfl, _, _, rfl, rfl, _, rfl, ?_⟩
      have bad : ¬ (1 ≤ m ∧ m ≤ 20) → Bad K H2 E (.int (p : Int)) := fun g => by
        rw [if_neg g] at q
        exact RdE.bad q hb
      show if decide ((1 : Int) ≤ (m : Int)) = true then _ else _
      by_cases m1 : 1 ≤ m
      rotate_left
      · rw [decide_eq_false (by omega)]
        exact iteF ⟨_, rfl, iteT ⟨_, rfl, bad_ok (bad fun g => m1 g.1)⟩⟩
      rw [decide_eq_true (by omega)]
      refine iteT ⟨_, _, rfl, rfl, _, rfl, ?_⟩
      show if (!decide ((m : Int) ≤ 20)) = true then _ else _
      by_cases m2 : m ≤ 20
      rotate_left
      · rw [decide_eq_false (by omega)]
        exact iteT ⟨_, rfl, bad_ok (bad fun g => m2 g.2)⟩
      rw [decide_eq_true (by omega)]
      rw [if_pos ⟨m1, m2⟩] at q
      refine iteF ⟨_, rfl, (m : Int), rfl, by omega, by omega, ?_⟩
      rw [Int.toNat_natCast]
      refine for_it walk_range (fun i σ H3 => ∃ (t : List Nat) (v4 v5 : Option V), σ = [some (.ref c), some (.int (p : Int)), some (.int (m : Int)), some (.str ⟨t.toArray⟩), v4, v5] ∧ But c H H3 ∧ RdAt K H3 c dx a r (h + i) ∧ i ≤ m ∧ t.length = i ∧ h + i ≤ r.length ∧ cat t (rdC r (m - i) (h + i)) = rdC r m h)
        ⟨[], none, none, rfl, hb, h1, Nat.zero_le _, rfl, lw.2, by show cat [] (rdC r m h) = _; cases rdC r m h <;> rfl⟩ (fun _ _ _ _ _ => trivial) (fun i x σ H3 H4 hi p1 yv => ?_) (fun σ H3 p1 => ?_)
      · obtain ⟨t, v4, v5, rfl, hb3, h3, _, et, hle, ec⟩ := p1
        obtain ⟨rfl, rfl⟩ := yv
        obtain ⟨j, hj⟩ : ∃ j, m - i = j + 1 := ⟨m - i - 1, by omega⟩
        rw [hj] at ec
        have ec' : cat t (match r[h + i]? with
          | none => .error r.length
          | some c => if sgn c = true then (match rdC r j (h + i + 1) with
            | .error e => .error e
            | .ok s => .ok (c :: s)) else .error (h + i)) = rdC r m h := ec
        refine ⟨_, rfl, c, dx, _, rfl, h3.o, rfl, _, rfl, c, dx, a, r, h + i, rfl, h3, hle, ?_⟩
        unfold nxt
        cases hx : r[h + i]? with
        | none =>
          rw [hx] at ec'
          have ec2 : rdC r m h = .error r.length := ec'.symm
          rw [ec2] at q
          exact RdE.on q hb3
        | some b =>
          rw [hx] at ec'
          dsimp only at ec'
          intro H5 hb5 h5
          have hlt : h + i < r.length := (List.getElem?_eq_some_iff.mp hx).1
          refine ⟨_, rfl, _, rfl, b, rfl, _, rfl, ?_⟩
          show if (!sgn b) = true then _ else _
          cases hs : sgn b with
          | false =>
            rw [hs] at ec'
            have ec2 : rdC r m h = .error (h + i) := ec'.symm
            rw [ec2] at q
            have q2 : Bad K H5 E (.int (((h + i + 1 : Nat) : Int) - 1)) := by
              rw [show ((h + i + 1 : Nat) : Int) - 1 = ((h + i : Nat) : Int) by omega]
              exact RdE.bad q (hb3.trans hb5)
            exact iteT ⟨_, rfl, c, _, dx, _, _, rfl, h5.o, T.clR, T.noAt, look_at, _, _, rfl, rfl, bad_ok q2⟩
          | true =>
            rw [hs, if_pos rfl] at ec'
            refine iteF ⟨_, rfl, _, rfl, _, _, rfl, rfl, _, _, _, rfl, rfl, sg_len, sg_at hs, _, _, rfl, rfl, ?_, t ++ [b], some (.int (0 + (i : Int))), some (.int (b : Int)), ?_, hb3.trans hb5, h5, by omega, by rw [List.length_append, et]; rfl, by omega, ?_⟩
            · rw [SX.S_len t]
              exact szl (by show t.length + 1 ≤ 1000000; omega)
            · have e3 : (⟨t.toArray⟩ : Str) ++ (⟨#[b]⟩ : Str) = ⟨(t ++ [b]).toArray⟩ := SX.S_cat t [b]
              rw [← e3]
              rfl
            · rw [show m - (i + 1) = j by omega, show h + (i + 1) = h + i + 1 by omega, ← ec']
              cases rdC r j (h + i + 1) with
              | error e => rfl
              | ok s =>
                show Except.ok (t ++ [b] ++ s) = Except.ok (t ++ b :: s)
                rw [List.append_assoc]
                rfl
      · obtain ⟨t, v4, v5, rfl, hb3, h3, _, et, hle, ec⟩ := p1
        rw [Nat.sub_self] at ec
        have ec2 : rdC r m h = .ok (t ++ []) := ec.symm
        rw [List.append_nil] at ec2
        rw [ec2] at q
        exact ⟨_, rfl, q _ _ hb3 h3 rfl⟩
end
end Cl
set_option maxRecDepth 100000
set_option maxHeartbeats 4000000
/-! the program's reader: parcels -/
namespace Cl
open PySem PySem.Spec PyProof.Rows L2 RZ
/-- where a method stands -/
structure AtM (K : PySem.W.Frag) (C : Addr) (m : Str) (f : Addr) (fd : FuncData) (ps : List Str) : Prop where
  m : Meth K C m f
  b : Binds K fd ps []
theorem Km.of {P : Program} {w : World} {K : PySem.W.Frag} {mg : Str → Option Value} {base : Heap} {C f : Addr} {fd : FuncData} {m : Str} {k : Nat} {ps : List Str} {sp : Sp} (a : AtM K C m f fd ps) (F : FnOk P w K mg base (L2.CX P w) k f fd ps sp) :
    Km P w K mg base C m k ps sp := ⟨f, fd, F, a.m, a.b⟩
theorem But.ofs {c : Addr} {H H1 H2 : Hp} (s : Same H H1) (hc : H c = none) (b : But c H1 H2) : Same H H2 := fun x o h => b.k x o (s x o h) fun z => by
  rw [z, hc] at h
  cases h
def sp_sev (K : PySem.W.Frag) (n : Nat) : Sp := fun vs H Q E => ∃ x y, vs = [x, y] ∧ ∃ (c dx a : Addr) (r : List Nat) (p : Nat), x = .ref c ∧ y = .int (n : Int) ∧ RdAt K H c dx a r p ∧ p ≤ r.length ∧ r.length ≤ 200000 ∧ RdD K H c dx a r Q E (rdT r (rdP r n) p)
def sp_rpc (K : PySem.W.Frag) (n : Nat) : Sp := fun vs H Q E => ∃ x y, vs = [x, y] ∧ ∃ (c dx a : Addr) (r : List Nat) (p : Nat), x = .ref c ∧ y = .int (n : Int) ∧ RdAt K H c dx a r p ∧ p ≤ r.length ∧ r.length ≤ 200000 ∧ RdD K H c dx a r Q E (rdP r n p)
theorem flats_snoc {ds : List D} {d : D} (h : flats ds = true) (hd : flat d = true) : flats (ds ++ [d]) = true := by
  induction ds with
  | nil =>
    show (flat d && true) = true
    rw [hd]
    rfl
  | cons x xs ih =>
    obtain ⟨h1, h2⟩ := Bool.and_eq_true_iff.mp (show (flat x && flats xs) = true from h)
    show (flat x && flats (xs ++ [d])) = true
    rw [h1, ih h2]
    rfl
section
variable {P : Program} {w : World} {K : PySem.W.Frag} {mg : Str → Option Value} {base : Heap} {f : Addr} {fd : FuncData}
theorem ok_sev (T : Txt K mg) (n k : Nat) (hk : 3 ≤ k) (c_RowReader_read_whole : Km P w K mg base (cc K "RowReader") "read_whole" 3 p_RowReader_read_whole (sp_whl K))
    (c_RowReader_read_parcel : Km P w K mg base (cc K "RowReader") "read_parcel" k p_RowReader_read_parcel (sp_rpc K n)) (F : Fun K "read_several" "RowReader.read_several" s_RowReader_read_several f fd) :
    FnOk P w K mg base (L2.CX P w) (k + 1) f fd p_RowReader_read_several (sp_sev K n) := by
  refine F.okX sc_RowReader_read_several (fun vs H Q E h => ?_) (fun cdv A outer s H vs Q E hr h => ?_)
  · obtain ⟨_, _, rfl, _⟩ := h
    rfl
  · obtain ⟨x, y, rfl, c, dx, a, r, p, rfl, rfl, ha, hp, hz, q⟩ := h
    have hk_read_parcel : k ≤ k := Nat.le_refl _
    refine ⟨_, (pss_cons (ps_set (i := 2) sc_RowReader_read_several.nd rfl (Or.inl rfl) (pm0 c_RowReader_read_whole T.clR hr (by first | decide | omega) (passes_call (takes_of rfl rfl rfl rfl) (fun _ _ _ _ h => h)) (pv 0)))
 (pss_cons (ps_set (i := 3) sc_RowReader_read_several.nd rfl (Or.inl rfl) (pe_lst pa_nil))
 (pss_cons (ps_while (passes_of rfl) (pt_cmpR op_lt (pe_callB call_len_seq (by rfl) T.b_len (by decide +kernel) (pa_cons (pv 3) pa_nil)) (pv 2) (nomark _)) (pss_one (ps_expr (pe_bm PySem.F.plainAttrs_list PySem.F.slot_list_append PySem.F.type_list_append mt_append (pv 3) (pa_cons (pm c_RowReader_read_parcel T.clR hr (hk_read_parcel) (passes_call (takes_of rfl rfl rfl rfl) (fun _ _ _ _ h => h)) (pv 0) (pa_cons (pv 1) pa_nil)) pa_nil)))))
 (pss_one (ps_ret (pe_callTy call_tuple_of (by rfl) T.b_tuple (by decide +kernel) (pa_cons (pv 3) pa_nil))))))), ?_⟩
    refine ⟨_, rfl, c, dx, _, rfl, ha.o, rfl, _, rfl, c, dx, a, r, p, rfl, ha, hp, ?_⟩
    unfold whl
    unfold rdT at q
    cases e : rdW r p with
    | none =>
      rw [e] at q
      exact q
    | some mq =>
      obtain ⟨m, h⟩ := mq
      rw [e] at q
      dsimp only at q
      have lw := rdW_len e
      intro H2 hb h1
      refine ⟨szl (by decide), fun t ht => ?_⟩
      have s1 : Same H2 (upd H2 t (.lst [])) := Same.new ht
      have tc : t ≠ c := fun z => by
        rw [z, h1.o] at ht
        cases ht
      have htH : H t = none := by
        cases hh : H t with
        | none => rfl
        | some o => rw [hb.k t o hh tc] at ht; cases ht
      refine ⟨fun mm σ H3 => ∃ (i g : Nat) (ds : List D) (us : List V), σ = [some (.ref c), some (.int (n : Int)), some (.int (m : Int)), some (.ref t)] ∧ mm = m - i ∧ But c H H3 ∧ RdAt K H3 c dx a r g ∧ H3 t = some (.lst us) ∧ IsL H3 us ds ∧ flats ds = true ∧ ds.length = i ∧
        h + i ≤ g ∧ g ≤ r.length ∧ i ≤ m ∧ onI ds (rdI (rdP r n) (m - i) g) = rdI (rdP r n) m h,
        ⟨_, 0, h, [], [], rfl, rfl, hb.trans (.of s1), h1.same s1, upd_same, rfl, rfl, rfl, Nat.le_refl _, lw.2, Nat.zero_le _, onI_nil _⟩, fun mm σ H3 p1 => ?_⟩
      obtain ⟨i, g, ds, us, rfl, rfl, hb3, h3, h3t, hu, hfl, hd, hg, hg2, him, eo⟩ := p1
      have ul := hu.len
      refine ⟨_, rfl, t, _, rfl, .inl (SqL.of h3t), _, rfl, _, _, rfl, rfl, _, rfl, ?_⟩
      show if decide ((us.length : Int) < (m : Int)) = true then _ else _
      by_cases hlt : i < m
      rotate_left
      · rw [decide_eq_false (by omega)]
        obtain rfl : i = m := by omega
        rw [Nat.sub_self] at eo
        have eo2 : rdI (rdP r n) i h = .ok (ds ++ [], g) := eo.symm
        rw [List.append_nil] at eo2
        rw [eo2] at q
        refine iteF ⟨_, rfl, t, _, rfl, .inl ⟨SqL.of h3t, fun z hz => q (.ref z) _ (hb3.trans (.of (Same.new hz))) (h3.same (Same.new hz)) ⟨z, us, rfl, upd_same, hu.mono (Same.new hz) ds us⟩⟩⟩
      rw [decide_eq_true (by omega)]
      refine iteT ⟨fun σ' H' => ∃ mm', mm' < m - i ∧ ∃ (i g : Nat) (ds : List D) (us : List V), σ' = [some (.ref c), some (.int (n : Int)), some (.int (m : Int)), some (.ref t)] ∧ mm' = m - i ∧ But c H H' ∧ RdAt K H' c dx a r g ∧ H' t = some (.lst us) ∧ IsL H' us ds ∧ flats ds = true ∧ ds.length = i ∧
        h + i ≤ g ∧ g ≤ r.length ∧ i ≤ m ∧ onI ds (rdI (rdP r n) (m - i) g) = rdI (rdP r n) m h, fun _ _ h => h, ?_⟩
      obtain ⟨j, hj⟩ : ∃ j, m - i = j + 1 := ⟨m - i - 1, by omega⟩
      rw [hj] at eo
      refine ⟨_, rfl, .inl ⟨rfl, _, SqL.of h3t⟩, _, rfl, c, dx, _, rfl, h3.o, rfl, _, rfl, _, _, rfl, c, dx, a, r, g, rfl, rfl, h3, hg2, hz, ?_⟩
      cases e3 : rdP r n g with
      | error er =>
        rw [onI_bad e3] at eo
        rw [← eo] at q
        exact RdE.on q hb3
      | ok dq =>
        obtain ⟨d, g'⟩ := dq
        have gd := rdP_good r n g d g' e3
        rw [onI_step e3] at eo
        intro v H4 hb4 h4 hv
        have h4t := hb4.k t _ h3t tc
        have hu4 := hu.tmono hb4.t ds us hfl
        have t5 : TSame H4 (upd H4 t (.lst (us ++ [v]))) := fun b xs hx => by
          have : b ≠ t := fun z => by
            rw [z, h4t] at hx
            cases hx
          rw [upd_ne this]
          exact hx
        refine ⟨t, _, _, rfl, rfl, h4t, szlt (by omega), ?_⟩
        have h5 : RdAt K (upd H4 t (.lst (us ++ [v]))) c dx a r g' := ⟨by rw [upd_ne (Ne.symm tc)]; exact h4.o, t5 _ _ h4.r⟩
        refine ⟨_, (by omega : m - (i + 1) < m - i), i + 1, g', ds ++ [d], us ++ [v], rfl, rfl, (hb3.trans hb4).own htH, h5, upd_same, (hu4.tmono t5 ds us hfl).snoc (hv.tmono t5 d v gd.2.2.2.2), flats_snoc hfl gd.2.2.2.2, by rw [List.length_append, hd]; rfl, by omega, gd.2.1, by omega, ?_⟩
        rw [show m - (i + 1) = j by omega]
        exact eo
theorem rdN_at {r : List Nat} {p b : Nat} {x : Except Nat (D × Nat)} (hb : r[p]? = some b) : rdN r p x = (if b = 0 then .ok (.non, p + 1) else if b = 1 then .ok (.bl false, p + 1) else if b = 2 then .ok (.bl true, p + 1)
        else if b = 3 then (match rdW r (p + 1) with
          | none => .error (p + 1)
          | some (m, q) => .ok (.int m, q))
        else if b = 4 then (match rdW r (p + 1) with
          | none => .error (p + 1)
          | some (m, q) => .ok (.int (-1 - (m : Int)), q))
        else if b = 5 then rdS r (p + 1) else if b = 6 then x else .error p) := by
  unfold rdN
  rw [hb]
  try rfl
theorem ok_rpc1 (T : Txt K mg) (n k : Nat) (hk : 5 ≤ k + 1) {spR : Sp} (c_BadRow_init : Kx P w K mg base (cc K "BadRow") 1 p_BadRow_init (sp_bad K)) (c_RowReader_next_byte : Km P w K mg base (cc K "RowReader") "next_byte" 3 p_RowReader_next_byte (sp_nxt K))
    (c_RowReader_read_whole : Km P w K mg base (cc K "RowReader") "read_whole" 3 p_RowReader_read_whole (sp_whl K)) (c_RowReader_read_string : Km P w K mg base (cc K "RowReader") "read_string" 4 p_RowReader_read_string (sp_txt K))
    {k2 : Nat} (c_RowReader_read_several : Km P w K mg base (cc K "RowReader") "read_several" k2 p_RowReader_read_several spR) (hk_read_several : k2 ≤ k) (hR : ∀ m, n = m + 1 → spR = sp_sev K m)
    (F : Fun K "read_parcel" "RowReader.read_parcel" s_RowReader_read_parcel f fd) :
    FnOk P w K mg base (L2.CX P w) (k + 1) f fd p_RowReader_read_parcel (sp_rpc K n) := by
  refine F.okX sc_RowReader_read_parcel (fun vs H Q E h => ?_) (fun cdv A outer s H vs Q E hr h => ?_)
  · obtain ⟨_, _, rfl, _⟩ := h
    rfl
  · obtain ⟨x, y, rfl, c, dx, a, r, p, rfl, rfl, ha, hp, hz0, q⟩ := h
    refine ⟨_, (pss_cons (ps_set (i := 2) sc_RowReader_read_parcel.nd rfl (Or.inl rfl) (pe_fld (pv 0) rfl))
 (pss_cons (ps_set (i := 3) sc_RowReader_read_parcel.nd rfl (Or.inl rfl) (pm0 c_RowReader_next_byte T.clR hr (by first | decide | omega) (passes_call (takes_of rfl rfl rfl rfl) (fun _ _ _ _ h => h)) (pv 0)))
 (pss_cons (ps_if (PW.pt (pw_or (pt_cmpR op_gt (pv 3) (pgc (T.k_SEVERAL)) (nomark _)) (pw_or1 (PW.pt (pw_and (pt_cmpR op_eq (pv 3) (pgc (T.k_SEVERAL)) (nomark _)) (pw_and1 (pt_cmpR op_eq (pv 1) pe_int (nomark _)))))))) (pss_one (rz1 c_BadRow_init T.oex T.oexi hr (by first | decide | omega) T.g_BadRow (takes_of rfl rfl rfl rfl) (pa_cons (pv 2) pa_nil))) pss_nil)
 (pss_cons (ps_if (pt_cmpR op_eq (pv 3) (pgc (T.k_NOTHING)) (nomark _)) (pss_one (ps_ret pe_non)) pss_nil)
 (pss_cons (ps_if (pt_cmpR op_in_seq (pv 3) (pe_tup (pa_cons (pgc (T.k_NO)) (pa_cons (pgc (T.k_YES)) pa_nil))) (by rfl)) (pss_one (ps_ret (pe_cmpR op_eq (pv 3) (pgc (T.k_YES)) (nomark _)))) pss_nil)
 (pss_cons (ps_if (pt_cmpR op_eq (pv 3) (pgc (T.k_STRING)) (nomark _)) (pss_one (ps_ret (pm0 c_RowReader_read_string T.clR hr (by first | decide | omega) (passes_call (takes_of rfl rfl rfl rfl) (fun _ _ _ _ h => h)) (pv 0)))) pss_nil)
 (pss_cons (ps_if (pt_cmpR op_eq (pv 3) (pgc (T.k_SEVERAL)) (nomark _)) (pss_one (ps_ret (pm c_RowReader_read_several T.clR hr (hk_read_several) (passes_call (takes_of rfl rfl rfl rfl) (fun _ _ _ _ h => h)) (pv 0) (pa_cons (pe_op op_sub (pv 1) pe_int) pa_nil)))) pss_nil)
 (pss_one (ps_ret (pe_ifExp (pt_cmpR op_eq (pv 3) (pgc (T.k_NUMBER)) (nomark _)) (pm0 c_RowReader_read_whole T.clR hr (by first | decide | omega) (passes_call (takes_of rfl rfl rfl rfl) (fun _ _ _ _ h => h)) (pv 0)) (pe_op op_sub (pe_un un_neg pe_int) (pm0 c_RowReader_read_whole T.clR hr (by first | decide | omega) (passes_call (takes_of rfl rfl rfl rfl) (fun _ _ _ _ h => h)) (pv 0))))))))))))), ?_⟩
    rw [rdP_eq] at q
    refine ⟨_, rfl, c, _, dx, _, _, rfl, ha.o, T.clR, T.noAt, look_at, ?_⟩
    refine ⟨_, rfl, c, dx, _, rfl, ha.o, rfl, _, rfl, c, dx, a, r, p, rfl, ha, hp, ?_⟩
    unfold nxt
    cases hx : r[p]? with
    | none =>
      have e1 : rdN r p (deepR r p n) = .error r.length := by
        unfold rdN
        rw [hx]
      rw [e1] at q
      exact q
    | some b =>
      rw [rdN_at hx] at q
      have hlt : p < r.length := (List.getElem?_eq_some_iff.mp hx).1
      intro H2 hb h1
      refine ⟨_, rfl, _, _, rfl, rfl, _, rfl, ?_⟩
      show if decide ((6 : Int) < (b : Int)) = true then _ else _
      by_cases h6 : 6 < b
      · rw [decide_eq_true (by omega)]
        rw [if_neg (by omega), if_neg (by omega), if_neg (by omega), if_neg (by omega), if_neg (by omega), if_neg (by omega), if_neg (by omega)] at q
        exact iteT (iteT ⟨_, rfl, bad_ok (RdE.bad q hb)⟩)
      rw [decide_eq_false (by omega)]
      refine iteF ⟨_, rfl, rfl, _, rfl, ?_⟩
      have : b = 0 ∨ b = 1 ∨ b = 2 ∨ b = 3 ∨ b = 4 ∨ b = 5 ∨ b = 6 := by omega
      rcases this with rfl | rfl | rfl | rfl | rfl | rfl | rfl
      · rw [if_pos rfl] at q
        refine iteF (iteF ⟨_, rfl, rfl, _, rfl, iteT ?_⟩)
        exact q .non _ hb h1 rfl
      · rw [if_neg (by decide), if_pos rfl] at q
        refine iteF (iteF ⟨_, rfl, rfl, _, rfl, iteF ?_⟩)
        refine ⟨_, rfl, sz2, fun z hz => ⟨z, _, rfl, .inr (SqT.of upd_same), rfl, rfl, _, rfl, iteT ⟨_, rfl, rfl, ?_⟩⟩⟩
        exact q (.bl false) _ (hb.trans (.of (Same.new hz))) (h1.same (Same.new hz)) rfl
      · rw [if_neg (by decide), if_neg (by decide), if_pos rfl] at q
        refine iteF (iteF ⟨_, rfl, rfl, _, rfl, iteF ?_⟩)
        refine ⟨_, rfl, sz2, fun z hz => ⟨z, _, rfl, .inr (SqT.of upd_same), rfl, rfl, _, rfl, iteT ⟨_, rfl, rfl, ?_⟩⟩⟩
        exact q (.bl true) _ (hb.trans (.of (Same.new hz))) (h1.same (Same.new hz)) rfl
      · rw [if_neg (by decide), if_neg (by decide), if_neg (by decide), if_pos rfl] at q
        refine iteF (iteF ⟨_, rfl, rfl, _, rfl, iteF ?_⟩)
        refine ⟨_, rfl, sz2, fun z hz => ⟨z, _, rfl, .inr (SqT.of upd_same), rfl, rfl, _, rfl, iteF ?_⟩⟩
        have h2 := h1.same (Same.new (o := .tup [.int 1, .int 2]) hz)
        have hb2 := hb.trans (.of (Same.new (o := .tup [.int 1, .int 2]) hz))
        refine ⟨_, rfl, rfl, _, rfl, iteF ⟨_, rfl, rfl, _, rfl, iteF ⟨_, rfl, rfl, _, rfl, iteT ?_⟩⟩⟩
        refine ⟨_, rfl, c, dx, _, rfl, h2.o, rfl, _, rfl, c, dx, a, r, p + 1, rfl, h2, by omega, ?_⟩
        unfold whl
        cases e : rdW r (p + 1) with
        | none =>
          rw [e] at q
          exact RdE.on q hb2
        | some mq =>
          obtain ⟨m, h⟩ := mq
          rw [e] at q
          intro H5 hb5 h5
          exact q _ _ (hb2.trans hb5) h5 rfl
      · rw [if_neg (by decide), if_neg (by decide), if_neg (by decide), if_neg (by decide), if_pos rfl] at q
        refine iteF (iteF ⟨_, rfl, rfl, _, rfl, iteF ?_⟩)
        refine ⟨_, rfl, sz2, fun z hz => ⟨z, _, rfl, .inr (SqT.of upd_same), rfl, rfl, _, rfl, iteF ?_⟩⟩
        have h2 := h1.same (Same.new (o := .tup [.int 1, .int 2]) hz)
        have hb2 := hb.trans (.of (Same.new (o := .tup [.int 1, .int 2]) hz))
        refine ⟨_, rfl, rfl, _, rfl, iteF ⟨_, rfl, rfl, _, rfl, iteF ⟨_, rfl, rfl, _, rfl, iteF ?_⟩⟩⟩
        refine ⟨_, rfl, _, rfl, c, dx, _, rfl, h2.o, rfl, _, rfl, c, dx, a, r, p + 1, rfl, h2, by omega, ?_⟩
        unfold whl
        cases e : rdW r (p + 1) with
        | none =>
          rw [e] at q
          exact RdE.on q hb2
        | some mq =>
          obtain ⟨m, h⟩ := mq
          rw [e] at q
          intro H5 hb5 h5
          refine ⟨_, _, rfl, rfl, ?_⟩
          exact q _ _ (hb2.trans hb5) h5 rfl
      · rw [if_neg (by decide), if_neg (by decide), if_neg (by decide), if_neg (by decide), if_neg (by decide), if_pos rfl] at q
        refine iteF (iteF ⟨_, rfl, rfl, _, rfl, iteF ?_⟩)
        refine ⟨_, rfl, sz2, fun z hz => ⟨z, _, rfl, .inr (SqT.of upd_same), rfl, rfl, _, rfl, iteF ?_⟩⟩
        have h2 := h1.same (Same.new (o := .tup [.int 1, .int 2]) hz)
        have hb2 := hb.trans (.of (Same.new (o := .tup [.int 1, .int 2]) hz))
        refine ⟨_, rfl, rfl, _, rfl, iteT ?_⟩
        refine ⟨_, rfl, c, dx, _, rfl, h2.o, rfl, _, rfl, c, dx, a, r, p + 1, rfl, h2, by omega, hz0, ?_⟩
        cases e : rdS r (p + 1) with
        | error er =>
          rw [e] at q
          exact RdE.on q hb2
        | ok dq =>
          obtain ⟨d, h⟩ := dq
          rw [e] at q
          exact fun v H5 hb5 h5 hv => q v _ (hb2.trans hb5) h5 hv
      · rw [if_neg (by decide), if_neg (by decide), if_neg (by decide), if_neg (by decide), if_neg (by decide), if_neg (by decide), if_pos rfl] at q
        refine iteT ⟨_, rfl, rfl, _, rfl, ?_⟩
        cases n with
        | zero => exact iteT ⟨_, rfl, bad_ok (RdE.bad q hb)⟩
        | succ n =>
          have hR' := hR n rfl
          subst hR'
          show if decide (V.int (((n + 1 : Nat)) : Int) = V.int 0) = true then _ else _
          rw [decide_eq_false (by intro z; injection z with z; omega)]
          have q2 : RdD K H c dx a r Q E (rdT r (rdP r n) (p + 1)) := q
          refine iteF ⟨_, rfl, rfl, _, rfl, iteF ?_⟩
          refine ⟨_, rfl, sz2, fun z hz => ⟨z, _, rfl, .inr (SqT.of upd_same), rfl, rfl, _, rfl, iteF ?_⟩⟩
          have h2 := h1.same (Same.new (o := .tup [.int 1, .int 2]) hz)
          have hb2 := hb.trans (.of (Same.new (o := .tup [.int 1, .int 2]) hz))
          refine ⟨_, rfl, rfl, _, rfl, iteF ⟨_, rfl, rfl, _, rfl, iteT ?_⟩⟩
          refine ⟨_, rfl, c, dx, _, rfl, h2.o, rfl, _, rfl, _, _, rfl, rfl, _, _, rfl, c, dx, a, r, p + 1, rfl, pred_int n, h2, by omega, hz0, ?_⟩
          cases e : rdT r (rdP r n) (p + 1) with
          | error er =>
            rw [e] at q2
            exact RdE.on q2 hb2
          | ok dq =>
            obtain ⟨d, h⟩ := dq
            rw [e] at q2
            exact fun v H5 hb5 h5 hv => q2 v _ (hb2.trans hb5) h5 hv
theorem ok_both (T : Txt K mg) {f2 : Addr} {fd2 : FuncData} (c_BadRow_init : Kx P w K mg base (cc K "BadRow") 1 p_BadRow_init (sp_bad K)) (c_RowReader_next_byte : Km P w K mg base (cc K "RowReader") "next_byte" 3 p_RowReader_next_byte (sp_nxt K))
    (c_RowReader_read_whole : Km P w K mg base (cc K "RowReader") "read_whole" 3 p_RowReader_read_whole (sp_whl K)) (c_RowReader_read_string : Km P w K mg base (cc K "RowReader") "read_string" 4 p_RowReader_read_string (sp_txt K))
    (F : Fun K "read_parcel" "RowReader.read_parcel" s_RowReader_read_parcel f fd) (F2 : Fun K "read_several" "RowReader.read_several" s_RowReader_read_several f2 fd2)
    (a : AtM K (cc K "RowReader") "read_parcel" f fd p_RowReader_read_parcel) (a2 : AtM K (cc K "RowReader") "read_several" f2 fd2 p_RowReader_read_several) : ∀ n, FnOk P w K mg base (L2.CX P w) (5 + 2 * n) f fd p_RowReader_read_parcel (sp_rpc K n)
  | 0 => ok_rpc1 T 0 4 (by omega) c_BadRow_init c_RowReader_next_byte c_RowReader_read_whole c_RowReader_read_string (Km.of a2 fn_no) (by omega) (fun m h => by omega) F
  | n + 1 => by
    have h := ok_both T c_BadRow_init c_RowReader_next_byte c_RowReader_read_whole c_RowReader_read_string F F2 a a2 n
    have h2 := ok_sev T n (5 + 2 * n) (by omega) c_RowReader_read_whole (Km.of a h) F2
    have h3 := ok_rpc1 T (n + 1) (5 + 2 * n + 1) (by omega) c_BadRow_init c_RowReader_next_byte c_RowReader_read_whole c_RowReader_read_string (Km.of a2 h2) (Nat.le_refl _) (fun m h => by rw [show m = n by omega]) F
    rw [show 5 + 2 * (n + 1) = 5 + 2 * n + 1 + 1 by omega]
    exact h3
/-- the parcel of a row: told, or BadRow raised -/
def RowD (K : PySem.W.Frag) (H : Hp) (Q : VK) (E : XK) : Except Nat D → Prop
  | .error e => Bad K H E (.int (e : Int))
  | .ok d => ∀ v H', Same H H' → Is H' v d → Q v H'
def sp_parcel_of (K : PySem.W.Frag) : Sp := fun vs H Q E => ∃ x, vs = [x] ∧ ∃ r : List Nat, RowAt H x r ∧ byt r ∧ r.length ≤ 100000 ∧ RowD K H Q E (rd r)
theorem ok_parcel_of (T : Txt K mg) (c_check_row : Kn P w K mg base "check_row" 2 p_check_row (sp_check_row (cc K "NoRow"))) (c_BadRow_init : Kx P w K mg base (cc K "BadRow") 1 p_BadRow_init (sp_bad K)) (c_RowReader : Ki P w K mg base "RowReader" (cc K "RowReader") 1 p_RowReader_init (sp_init K))
    (c_RowReader_read_parcel : Km P w K mg base (cc K "RowReader") "read_parcel" 45 p_RowReader_read_parcel (sp_rpc K 20)) (F : Fun K "parcel_of" "parcel_of" s_parcel_of f fd) : FnOk P w K mg base (L2.CX P w) 46 f fd p_parcel_of (sp_parcel_of K) := by
  refine F.okX sc_parcel_of (fun vs H Q E h => ?_) (fun cdv A outer s H vs Q E hr h => ?_)
  · obtain ⟨_, rfl, _⟩ := h
    rfl
  · obtain ⟨x, rfl, r, ⟨a, rfl, ha⟩, hby, hz, q⟩ := h
    refine ⟨_, (pss_cons (ps_expr (pc c_check_row hr (by first | decide | omega) (passes_call (takes_of rfl rfl rfl rfl) (fun _ _ _ _ h => h)) (pa_cons (pv 0) pa_nil)))
 (pss_cons (ps_set (i := 1) sc_parcel_of.nd rfl (Or.inl rfl) (pmk1 c_RowReader hr (by first | decide | omega) passL (pa_cons (pv 0) pa_nil)))
 (pss_cons (ps_set (i := 2) sc_parcel_of.nd rfl (Or.inl rfl) (pm c_RowReader_read_parcel T.clR hr (by first | decide | omega) (passes_call (takes_of rfl rfl rfl rfl) (fun _ _ _ _ h => h)) (pv 1) (pa_cons (pgc (T.k_MOST_DEEP)) pa_nil)))
 (pss_cons (ps_if (pt_cmpR op_lt (pe_fld (pv 1) rfl) (pe_callB call_len_seq (by rfl) T.b_len (by decide +kernel) (pa_cons (pv 0) pa_nil)) (nomark _)) (pss_one (rz1 c_BadRow_init T.oex T.oexi hr (by first | decide | omega) T.g_BadRow (takes_of rfl rfl rfl rfl) (pa_cons (pe_fld (pv 1) rfl) pa_nil))) pss_nil)
 (pss_one (ps_ret (pv 2))))))), ?_⟩
    obtain ⟨t1, t2⟩ := row_judg ha hz
    have e := rowB_rv hby
    refine ⟨_, rfl, _, rfl, _, t1, t2, fun _ H1 s1 => ?_, fun z => by rw [e] at z; cases z⟩
    refine ⟨_, rfl, fun c dx hc hdx ne => ⟨_, _, rfl, c, dx, a, rfl, rfl, upd_same, rfl, ?_⟩⟩
    rw [upd_upd]
    have hcH : H c = none := s1.free hc
    have s3 : Same H1 (upd (upd H1 dx (.own c)) c (.ins (cc K "RowReader") dx (rdF (.ref a) (.int 0)))) := Same.own (Same.new hdx) hc
    have r3 : RdAt K (upd (upd H1 dx (.own c)) c (.ins (cc K "RowReader") dx (rdF (.ref a) (.int 0)))) c dx a r 0 := ⟨upd_same, s3 _ _ (s1 _ _ ha)⟩
    have s4 := s1.trans s3
    generalize upd (upd H1 dx (.own c)) c (.ins (cc K "RowReader") dx (rdF (.ref a) (.int 0))) = H3 at s4 r3
    refine ⟨_, rfl, c, dx, _, rfl, r3.o, rfl, _, _, rfl, c, dx, a, r, 0, rfl, rfl, r3, Nat.zero_le _, by omega, ?_⟩
    unfold rd at q
    cases e3 : rdP r 20 0 with
    | error er =>
      rw [e3] at q
      exact fun d H' b hd => q d H' (But.ofs s4 hcH b) hd
    | ok dq =>
      obtain ⟨d, g⟩ := dq
      rw [e3] at q
      dsimp only at q
      have gd := rdP_good r 20 0 d g e3
      intro v H4 b4 r4 hv
      have s5 := But.ofs s4 hcH b4
      refine ⟨_, rfl, c, _, dx, _, _, rfl, r4.o, T.clR, T.noAt, look_at, _, rfl, a, _, rfl, .inr (SqT.of r4.r), _, _, rfl, rfl, _, rfl, ?_⟩
      rw [rv_len]
      show if decide ((g : Int) < (r.length : Int)) = true then _ else _
      by_cases hg : g = r.length
      · rw [if_pos hg] at q
        rw [decide_eq_false (by omega)]
        exact iteF ⟨_, rfl, q v H4 s5 hv⟩
      · rw [if_neg hg] at q
        have := gd.2.1
        rw [decide_eq_true (by omega)]
        exact iteT ⟨_, rfl, c, _, dx, _, _, rfl, r4.o, T.clR, T.noAt, look_at, bad_ok fun d2 H' s6 hd => q d2 H' (s5.trans s6) hd⟩
end
end Cl
set_option maxRecDepth 100000
set_option maxHeartbeats 4000000
/-! data compared; unsealed -/
namespace Cl
open PySem PySem.Spec PyProof.Rows L2 RZ
theorem nmG {X : Cx} {x : Str} {C : Addr} (h : X.mg x = some (.ref C)) (hg : Gl X x := by rfl) (hd : (x == ("__debug__" : Str)) = false := by decide) : Names X x (.ref C) := ⟨hg, hd, .inl h⟩
mutual
def pd : D → PyData
  | .non => .none
  | .bl b => .bool b
  | .int i => .int i
  | .str s => .str ⟨s.toArray⟩
  | .tup xs => .tuple (pds xs)
  | .lst xs => .list (pds xs)
def pds : List D → List PyData
  | [] => []
  | x :: xs => pd x :: pds xs
end
mutual
theorem Is.dp {K : PySem.W.Frag} {H : Hp} : ∀ (d : D) (v : V), Is H v d → Dp K H v (pd d)
  | .non, _, h => by
    obtain rfl := (show _ = V.non from h)
    exact .non
  | .bl b, _, h => by
    obtain rfl := (show _ = V.bl b from h)
    exact .bl b
  | .int i, _, h => by
    obtain rfl := (show _ = V.int i from h)
    exact .int i
  | .str s, _, h => by
    obtain rfl := (show _ = V.str ⟨s.toArray⟩ from h)
    exact .str _
  | .tup xs, v, h => by
    obtain ⟨a, vs, rfl, ha, hl⟩ := h
    exact .tup (SqT.of ha) (IsL.dp xs vs hl)
  | .lst xs, v, h => by
    obtain ⟨a, vs, rfl, ha, hl⟩ := h
    exact .lst (SqL.of ha) (IsL.dp xs vs hl)
theorem IsL.dp {K : PySem.W.Frag} {H : Hp} : ∀ (ds : List D) (vs : List V), IsL H vs ds → DpAll K H vs (pds ds)
  | [], _, h => by
    obtain rfl := (show _ = [] from h)
    exact .nil
  | d :: ds, vs, h => by
    obtain ⟨v, r, rfl, h1, h2⟩ := h
    exact .cons (Is.dp d v h1) (IsL.dp ds r h2)
end
mutual
theorem pd_can : ∀ d : D, vd d = true → (pd d).canLay0 = true
  | .non, _ => rfl
  | .bl _, _ => rfl
  | .int _, _ => rfl
  | .str s, h => by
    obtain ⟨_, _, v3⟩ := vstr_mem (show vstr s = true from h)
    show (⟨s.toArray⟩ : Str).cps.all (· < 0x110000) = true
    rw [Array.all_eq_true_iff_forall_mem]
    intro c hc
    have := sgn_lt (v3 c (by simpa using hc))
    exact decide_eq_true (by omega)
  | .tup xs, h => pds_can xs h
  | .lst xs, h => by cases h
theorem pds_can : ∀ ds : List D, vds ds = true → PyData.canLayAll0 (pds ds) = true
  | [], _ => rfl
  | d :: ds, h => by
    obtain ⟨h1, h2⟩ := Bool.and_eq_true_iff.mp (show (vd d && vds ds) = true from h)
    show ((pd d).canLay0 && PyData.canLayAll0 (pds ds)) = true
    rw [pd_can d h1, pds_can ds h2]
    rfl
end
mutual
theorem pd_dep : ∀ d : D, (pd d).depth = dep d
  | .non => rfl
  | .bl _ => rfl
  | .int _ => rfl
  | .str _ => rfl
  | .tup xs => by
    show PyData.depthAll (pds xs) + 1 = deps xs + 1
    rw [pds_dep xs]
  | .lst xs => by
    show PyData.depthAll (pds xs) + 1 = deps xs + 1
    rw [pds_dep xs]
theorem pds_dep : ∀ ds : List D, PyData.depthAll (pds ds) = deps ds
  | [] => rfl
  | d :: ds => by
    show max (pd d).depth (PyData.depthAll (pds ds)) = max (dep d) (deps ds)
    rw [pd_dep d, pds_dep ds]
end
theorem pd_shaped {d : D} (h : vd d = true) (hd : dep d ≤ 64) : SeqAt.shaped (pd d) = true := by
  unfold SeqAt.shaped
  rw [pd_can d h, pd_dep, decide_eq_true hd]
  rfl
theorem eqv_rows : ∀ a b : List Nat, PyData.eqvAll (pds (rD a)) (pds (rD b)) = decide (a = b)
  | [], [] => rfl
  | [], _ :: _ => rfl
  | _ :: _, [] => rfl
  | x :: a, y :: b => by
    show ((x : Int) == (y : Int) && PyData.eqvAll (pds (rD a)) (pds (rD b))) = _
    rw [eqv_rows a b]
    by_cases h : x = y
    · subst h
      by_cases h2 : a = b
      · subst h2
        simp
      · rw [decide_eq_false h2, decide_eq_false (show ¬ (x :: a = x :: b) from fun z => h2 (List.cons.inj z).2)]
        simp
    · have : ((x : Int) == (y : Int)) = false := beq_eq_false_iff_ne.mpr (by omega)
      rw [this, decide_eq_false (show ¬ (x :: a = y :: b) from fun z => h (List.cons.inj z).1)]
      rfl
theorem rows_dp {K : PySem.W.Frag} {H : Hp} {a b : V} {x y : List Nat} (ha : RowAt H a x) (hb : RowAt H b y) {Q : VK} (q : Q (.bl (!decide (x = y))) H) : rNeD K a b H Q := by
  refine ⟨_, _, Is.dp _ _ ha.is, Is.dp _ _ hb.is, pd_shaped (flats_rD x) ?_, pd_shaped (flats_rD y) ?_, ?_⟩
  · show deps (rD x) + 1 ≤ 64
    rw [deps_rD]
    omega
  · show deps (rD y) + 1 ≤ 64
    rw [deps_rD]
    omega
  · show Q (.bl (!PyData.eqvAll (pds (rD x)) (pds (rD y)))) H
    rw [eqv_rows]
    exact q
theorem rv_take (r : List Nat) (n : Nat) : (rv r).take n = rv (r.take n) := List.map_take.symm
theorem rv_drop (r : List Nat) (n : Nat) : (rv r).drop n = rv (r.drop n) := List.map_drop.symm
theorem byt_take {r : List Nat} (h : byt r) (n : Nat) : byt (r.take n) := fun b hb => h b (List.mem_of_mem_take hb)
/-- what an opened row is worth -/
def UnE (o : Option (List V)) (es : List D) : Prop := (rowB o = false ∧ es = []) ∨ ∃ r, o = some (rv r) ∧ byt r ∧ r.length ≤ 100000 ∧ es = un r
def sp_unsealed : Sp := fun vs H Q _ => ∃ x, vs = [x] ∧ ∃ (o : Option (List V)) (es : List D), Th H x o ∧ Judg H o ∧ UnE o es ∧ ∀ p us H', Same H H' → H' p = some (.tup us) → IsL H' us es → Q (.ref p) H'
theorem noP {σ : L2.St} {H : Hp} {Q : Option Int → Hp → Prop} (h : Q none H) : tNoPart σ H Q := h
section
variable {P : Program} {w : World} {K : PySem.W.Frag} {mg : Str → Option Value} {base : Heap} {f : Addr} {fd : FuncData}
theorem ok_unsealed (T : Txt K mg) (c_is_row : Kn P w K mg base "is_row" 1 p_is_row sp_is_row) (c_seal_of : Kn P w K mg base "seal_of" 2 p_seal_of sp_seal) (c_parcel_of : Kn P w K mg base "parcel_of" 46 p_parcel_of (sp_parcel_of K))
    (F : Fun K "unsealed" "unsealed" s_unsealed f fd) : FnOk P w K mg base (L2.CX P w) 47 f fd p_unsealed sp_unsealed := by
  refine F.okX sc_unsealed (fun vs H Q E h => ?_) (fun cdv A outer s H vs Q E hr h => ?_)
  · obtain ⟨_, rfl, _⟩ := h
    rfl
  · obtain ⟨x, rfl, o, es, th, jg, ue, q⟩ := h
    have hu := hr.units
    refine ⟨_, (pss_cons (ps_if (PW.pt (pw_or (pt_not (pt_val (pc c_is_row hr (by first | decide | omega) passL (pa_cons (pv 0) pa_nil)))) (pw_or (pt_cmpR op_lt (pe_callB call_len_seq (by rfl) T.b_len (by decide +kernel) (pa_cons (pv 0) pa_nil)) (pgc (T.k_SEAL_BYTES)) (nomark _)) (pw_or1 (pt_cmpR (op_neD hu) (pc c_seal_of hr (by first | decide | omega) passL (pa_cons (pe_slice sl_tupA (pv 0) po_none (po_some (pe_un un_neg (pgc (T.k_SEAL_BYTES))))) pa_nil)) (pe_slice sl_tupA (pv 0) (po_some (pe_un un_neg (pgc (T.k_SEAL_BYTES)))) po_none) (nomark _)))))) (pss_one (ps_ret (pe_tup pa_nil))) pss_nil)
 (pss_cons (ps_try_only rfl rfl (nmG T.g_BadRow) takes0 (fun W pn xe tk po => (pss_one (ps_set (i := 1) sc_unsealed.nd rfl (Or.inl rfl) (pe_tup (pa_cons (pcS c_parcel_of hr (by first | decide | omega) (passAt tk) (pa_cons (pe_slice (r := rSlA K) sl_tupA (pv 0) po_none (po_some (pe_un un_neg (pgc (T.k_SEAL_BYTES))))) pa_nil)) pa_nil))))) (fun a oe cls d pn hz hf => (pss_one (ps_set (i := 1) sc_unsealed.nd rfl (Or.inl rfl) (pe_tup pa_nil)))))
 (pss_one (ps_ret (pv 1))))), ?_⟩
    refine ⟨_, rfl, x, rfl, o, th, jg, fun H1 s1 => ⟨_, rfl, ?_⟩⟩
    show if (!rowB o) = true then _ else _
    rcases ue with ⟨hb, rfl⟩ | ⟨r, rfl, hby, hl, rfl⟩
    · rw [hb]
      exact iteT (iteT ⟨szl (by decide), fun z hz => q z [] _ (s1.trans (Same.new hz)) upd_same rfl⟩)
    rw [rowB_rv hby]
    obtain ⟨a, rfl, ha0⟩ : ∃ a, x = .ref a ∧ H a = some (.tup (rv r)) := by
      cases th with
      | tup e => exact ⟨_, rfl, e⟩
    have ha := s1 _ _ ha0
    refine iteF ⟨_, rfl, a, _, rfl, .inr (SqT.of ha), _, _, rfl, rfl, _, rfl, ?_⟩
    rw [rv_len]
    show if decide ((r.length : Int) < 4) = true then _ else _
    by_cases h4 : r.length < 4
    · rw [show un r = [] by unfold un; rw [if_pos (.inl h4)]] at q
      rw [decide_eq_true (by omega)]
      exact iteT (iteT ⟨szl (by decide), fun z hz => q z [] _ (s1.trans (Same.new hz)) upd_same rfl⟩)
    rw [decide_eq_false (by omega)]
    have eu : un r = (if sl (r.take (r.length - 4)) ≠ r.drop (r.length - 4) then [] else match rd (r.take (r.length - 4)) with
      | .error _ => []
      | .ok d => [d]) := by
      unfold un
      by_cases g : sl (r.take (r.length - 4)) ≠ r.drop (r.length - 4)
      · rw [if_pos (.inr g), if_pos g]
      · rw [if_neg (fun z => z.elim h4 g), if_neg g]
        try rfl
    rw [eu] at q
    have hlen : 4 ≤ (rv r).length := by rw [rv_len]; omega
    have el : (rv r).take ((rv r).length - 4) = rv (r.take (r.length - 4)) := by rw [rv_take, rv_len]
    have eh : (rv r).drop ((rv r).length - 4) = rv (r.drop (r.length - 4)) := by rw [rv_drop, rv_len]
    refine iteF ⟨_, rfl, _, rfl, _, rfl, slV ha (cut_lo4 hlen) fun z H2 s2 hz2 => ?_⟩
    rw [el] at hz2
    refine ⟨_, rfl, _, ⟨z, rfl, hz2⟩, fun z3 H3 s3 hz3 => ?_⟩
    refine ⟨_, rfl, _, rfl, _, rfl, ?_⟩
    refine noP ?_
    refine slV (s3 _ _ (s2 _ _ ha)) (cut_hi4 hlen) fun z4 H4 s4 hz4 => ?_
    rw [eh] at hz4
    refine rows_dp ⟨z3, rfl, s4 _ _ hz3⟩ ⟨z4, rfl, hz4⟩ ⟨_, rfl, ?_⟩
    have s14 := (s1.trans s2).trans (s3.trans s4)
    have ha4 := (s2.trans (s3.trans s4)) _ _ ha
    show if (!decide (sl (r.take (r.length - 4)) = r.drop (r.length - 4))) = true then _ else _
    by_cases he : sl (r.take (r.length - 4)) = r.drop (r.length - 4)
    rotate_left
    · rw [if_pos he] at q
      rw [decide_eq_false he]
      exact iteT ⟨szl (by decide), fun z hz => q z [] _ (s14.trans (Same.new hz)) upd_same rfl⟩
    rw [if_neg (fun g => g he)] at q
    rw [decide_eq_true he]
    refine iteF ⟨_, rfl, _, rfl, _, rfl, slV ha4 (cut_lo4 hlen) fun z5 H5 s5 hz5 => ?_⟩
    rw [el] at hz5
    have hl5 : (r.take (r.length - 4)).length ≤ 100000 := by rw [List.length_take]; omega
    refine ⟨_, rfl, _, ⟨z5, rfl, hz5⟩, byt_take hby _, hl5, ?_⟩
    cases e : rd (r.take (r.length - 4)) with
    | error er =>
      rw [e] at q
      intro d H6 s6 hd
      refine ⟨true, T.m_BB, fun _ a6 ha6 => ?_, fun z => by cases z⟩
      exact ⟨szl (by decide), fun z7 hz7 => ⟨_, rfl, q z7 [] _ ((s14.trans s5).trans (s6.trans (Same.new hz7))) upd_same rfl⟩⟩
    | ok d =>
      rw [e] at q
      intro v H6 s6 hv
      exact ⟨sz_one, fun z7 hz7 => ⟨_, rfl, q z7 [v] _ ((s14.trans s5).trans (s6.trans (Same.new hz7))) upd_same ⟨v, [], rfl, hv.mono (Same.new hz7) d v, rfl⟩⟩⟩
end
end Cl
set_option maxRecDepth 100000
set_option maxHeartbeats 4000000
/-! rows kept: the parcels in them -/
namespace Cl
open PySem PySem.Spec PyProof.Rows L2 RZ
/-- these values are these rows -/
structure Rows (H : Hp) (us : List V) (rs : List (List Nat)) : Prop where
  len : us.length = rs.length
  at_ : ∀ (i : Nat) (u : V), us[i]? = some u → ∃ r, rs[i]? = some r ∧ RowAt H u r
theorem Rows.tmono {H H' : Hp} {us : List V} {rs : List (List Nat)} (s : TSame H H') (h : Rows H us rs) : Rows H' us rs := ⟨h.len, fun i u e => by
  obtain ⟨r, e1, e2⟩ := h.at_ i u e
  exact ⟨r, e1, e2.mono s⟩⟩
theorem Rows.mono {H H' : Hp} {us : List V} {rs : List (List Nat)} (s : Same H H') (h : Rows H us rs) : Rows H' us rs := h.tmono (TSame.of s)
/-- byte rows of a fit length, not too many -/
structure Fit (rs : List (List Nat)) : Prop where
  b : ∀ r ∈ rs, byt r ∧ r.length ≤ 100000
  n : rs.length ≤ 10000
theorem kp_cons {r : List Nat} {rs : List (List Nat)} : kp (r :: rs) = (match un r with
    | [] => []
    | d :: _ => d :: kp rs) := rfl
theorem un_le (r : List Nat) : un r = [] ∨ ∃ d, un r = [d] := by
  unfold un
  by_cases h : r.length < 4 ∨ sl (r.take (r.length - 4)) ≠ r.drop (r.length - 4)
  · rw [if_pos h]; exact .inl rfl
  · rw [if_neg h]
    cases rd (r.take (r.length - 4)) with
    | error e => exact .inl rfl
    | ok d => exact .inr ⟨d, rfl⟩
theorem un_vd {r : List Nat} {d : D} (h : un r = [d]) : vd d = true ∧ dep d ≤ 20 := by
  unfold un at h
  by_cases g : r.length < 4 ∨ sl (r.take (r.length - 4)) ≠ r.drop (r.length - 4)
  · rw [if_pos g] at h; cases h
  · rw [if_neg g] at h
    cases e : rd (r.take (r.length - 4)) with
    | error x => rw [e] at h; cases h
    | ok x =>
      rw [e] at h
      injection h with h
      subst h
      have := rd_good e
      exact ⟨this.2.2, this.1⟩
def sp_parcels_in : Sp := fun vs H Q _ => ∃ x, vs = [x] ∧ ∃ (L : Addr) (us : List V) (rs : List (List Nat)), x = .ref L ∧ H L = some (.lst us) ∧ Rows H us rs ∧ Fit rs ∧ ∀ p us2 H', Same H H' → H' p = some (.lst us2) → IsL H' us2 (kp rs) → Q (.ref p) H'
section
variable {P : Program} {w : World} {K : PySem.W.Frag} {mg : Str → Option Value} {base : Heap} {f : Addr} {fd : FuncData}
theorem ok_parcels_in (T : Txt K mg) (c_unsealed : Kn P w K mg base "unsealed" 47 p_unsealed sp_unsealed)
    (F : Fun K "parcels_in" "parcels_in" s_parcels_in f fd) : FnOk P w K mg base (L2.CX P w) 48 f fd p_parcels_in sp_parcels_in := by
  refine F.okX sc_parcels_in (fun vs H Q E h => ?_) (fun cdv A outer s H vs Q E hr h => ?_)
  · obtain ⟨_, rfl, _⟩ := h
    rfl
  · obtain ⟨x, rfl, L, us, rs, rfl, hL, hrs, hf, q⟩ := h
    have hu := hr.units
    refine ⟨_, (pss_cons (ps_set (i := 1) sc_parcels_in.nd rfl (Or.inl rfl) (pe_lst pa_nil))
 (C8.pss_cut (ps_for (passes_of rfl) rfl (pi_list (pv 0)) (pg_name (i := 2) sc_parcels_in.nd rfl (Or.inl rfl)) (pss_cons (ps_set (i := 3) sc_parcels_in.nd rfl (Or.inl rfl) (pc c_unsealed hr (by first | decide | omega) passL (pa_cons (pv 2) pa_nil)))
 (pss_cons (ps_if (pt_cmpR (op_eqD hu) (pv 3) (pe_tup pa_nil) (nomark _)) (pss_one ps_break) pss_nil)
 (pss_one (ps_expr (pe_bm PySem.F.plainAttrs_list PySem.F.slot_list_append PySem.F.type_list_append mt_append (pv 1) (pa_cons (pe_ix ix_tup (pv 3) pe_int (fun _ _ => rfl)) pa_nil)))))))
 (pss_one (ps_ret (pv 1))))), ?_⟩
    refine ⟨szl (by decide), fun p hp => ?_⟩
    have s0 : Same H (upd H p (.lst [])) := Same.new hp
    refine ⟨fun σ H' => ∃ (us2 : List V) (v2 v3 : Option V), σ = [some (.ref L), some (.ref p), v2, v3] ∧ Same H H' ∧ H' p = some (.lst us2) ∧ IsL H' us2 (kp rs), ?_, ?_⟩
    rotate_left
    · rintro σ H' ⟨us2, v2, v3, rfl, s1, h1, h2⟩
      exact ⟨_, rfl, q p us2 H' s1 h1 h2⟩
    refine ⟨_, rfl, L, rfl, ⟨us, SqL.of (s0 _ _ hL)⟩, for_it walk_list (fun i σ H2 => ∃ (us2 : List V) (es : List D) (v2 v3 : Option V), σ = [some (.ref L), some (.ref p), v2, v3] ∧ Same H H2 ∧ H2 p = some (.lst us2) ∧ IsL H2 us2 es ∧ flats es = true ∧ es.length = i ∧ i ≤ us.length ∧ es ++ kp (rs.drop i) = kp rs)
      ⟨[], [], none, none, rfl, s0, upd_same, rfl, rfl, rfl, Nat.zero_le _, rfl⟩ (fun i σ H2 _ ⟨_, _, _, _, _, s, _⟩ => SqL.of (s _ _ hL)) (fun i x σ H2 H3 hi p1 yv => ?_) (fun σ H2 p1 => ?_)⟩
    · obtain ⟨us2, es, v2, v3, rfl, s2, h2p, h2, hfl, hes, _, hk⟩ := p1
      obtain ⟨rfl, hx⟩ := yv
      obtain ⟨r, hr', hra⟩ := hrs.at_ i x hx
      have hra3 := hra.mono (TSame.of s2)
      obtain ⟨a, rfl, ha⟩ := hra3
      have hrf := hf.b r (List.mem_of_getElem? hr')
      obtain ⟨j1, j2⟩ := row_judg ha hrf.2
      have hd : rs.drop i = r :: rs.drop (i + 1) := by
        obtain ⟨z1, z2⟩ := List.getElem?_eq_some_iff.mp hr'
        rw [List.drop_eq_getElem_cons z1, z2]
      rw [hd, kp_cons] at hk
      have ul := h2.len
      have hn := hf.n
      have hlen := hrs.len
      refine ⟨_, rfl, _, rfl, _, _, j1, j2, .inr ⟨r, rfl, hrf.1, hrf.2, rfl⟩, fun pt ut H4 s4 hpt hut => ?_⟩
      have s24 := s2.trans s4
      rcases un_le r with e | ⟨d, e⟩
      · rw [e] at hut hk
        obtain rfl := (show ut = [] from hut)
        rw [List.append_nil] at hk
        refine ⟨_, rfl, szl (by decide), fun z hz => ⟨_, _, .tup (SqT.of (Same.new hz _ _ hpt)) .nil, .tup (SqT.of upd_same) .nil, rfl, rfl, _, rfl, iteT ?_⟩⟩
        exact ⟨us2, _, _, rfl, s24.trans (Same.new hz), Same.new hz _ _ (s4 _ _ h2p), hk ▸ h2.mono (s4.trans (Same.new hz)) es us2⟩
      · rw [e] at hut hk
        have hvd := un_vd e
        obtain ⟨v, r0, rfl, hv, h0⟩ := (show ∃ v r, ut = v :: r ∧ Is H4 v d ∧ IsL H4 r [] from hut)
        obtain rfl := (show r0 = [] from h0)
        refine ⟨_, rfl, szl (by decide), fun z hz => ⟨_, _, .tup (SqT.of (Same.new hz _ _ hpt)) (.cons (Is.dp d v (hv.mono (Same.new hz) d v)) .nil), .tup (SqT.of upd_same) .nil, pd_shaped (d := .tup [d]) ?_ ?_, rfl, _, rfl, iteF ?_⟩⟩
        · show (vd d && true) = true
          rw [hvd.1]
          rfl
        · show max (dep d) 0 + 1 ≤ 64
          have := hvd.2
          omega
        have s5 := Same.new (o := .tup []) hz
        have h5p := s5 _ _ (s4 _ _ h2p)
        refine ⟨_, rfl, .inl ⟨rfl, _, SqL.of h5p⟩, _, rfl, pt, _, _, _, rfl, rfl, SqT.of (s5 _ _ hpt), rfl, p, _, _, rfl, rfl, h5p, szlt (by omega), ?_⟩
        refine ⟨us2 ++ [v], es ++ [d], _, _, rfl, (Same.own (s24.trans s5) hp), upd_same, ?_, flats_snoc hfl hvd.1, by rw [List.length_append, hes]; rfl, by omega, by rw [List.append_assoc]; exact hk⟩
        have t6 : TSame (upd H4 z (.tup [])) (upd (upd H4 z (.tup [])) p (.lst (us2 ++ [v]))) := fun b xs hx => by
          have : b ≠ p := fun z => by
            rw [z, h5p] at hx
            cases hx
          rw [upd_ne this]
          exact hx
        exact ((h2.mono (s4.trans s5) es us2).tmono t6 es us2 hfl).snoc ((hv.mono s5 d v).tmono t6 d v hvd.1)
    · obtain ⟨us2, es, v2, v3, rfl, s2, h2p, h2, hfl, hes, _, hk⟩ := p1
      rw [hrs.len, List.drop_length] at hk
      have hk2 : es = kp rs := by rw [← hk]; exact (List.append_nil es).symm
      subst hk2
      exact ⟨us2, _, _, rfl, s2, h2p, h2⟩
theorem all_true {us : List V} : (us.map fun _ => V.bl true) = (us.map fun _ => true).map V.bl := by
  rw [List.map_map]
  rfl
theorem all_id {us : List V} : (us.map fun _ => true).all id = true := by
  rw [List.all_map]
  exact List.all_eq_true.mpr fun _ _ => rfl
theorem ok_kept_parcels (T : Txt K mg) (c_is_listed : Kn P w K mg base "is_listed" 1 p_is_listed sp_is_listed) (c_is_row : Kn P w K mg base "is_row" 1 p_is_row sp_is_row) (c_parcels_in : Kn P w K mg base "parcels_in" 48 p_parcels_in sp_parcels_in)
    (F : Fun K "kept_parcels" "kept_parcels" s_kept_parcels f fd) : FnOk P w K mg base (L2.CX P w) 49 f fd p_kept_parcels sp_parcels_in := by
  refine F.okX sc_kept_parcels (fun vs H Q E h => ?_) (fun cdv A outer s H vs Q E hr h => ?_)
  · obtain ⟨_, rfl, _⟩ := h
    rfl
  · obtain ⟨x, rfl, L, us, rs, rfl, hL, hrs, hf, q⟩ := h
    refine ⟨_, (pss_cons (ps_if (PW.pt (pw_or (pt_not (pt_val (pc c_is_listed hr (by first | decide | omega) passL (pa_cons (pv 0) pa_nil)))) (pw_or1 (pt_not (pt_val (pe_callB (cr_all rfl) (by rfl) T.b_all (by decide +kernel) (pa_cons (pe_lc (own := [("row", 1)]) (g := gName 1) rfl sc_kept_parcels.nd (pi_list (pv 0)) (blkOk_by (N := N_kept_parcels) (sc := defScope s_kept_parcels) (by decide +kernel)) (fun _ _ _ _ _ => (pg_name (i := 1) sc_kept_parcels.nd rfl (Or.inl rfl))) (fun _ _ _ _ _ => pts_nil) (fun _ _ _ _ _ => (pc c_is_row hr (by first | decide | omega) passL (pa_cons (pv 1) pa_nil)))) pa_nil))))))) (pss_one (rz0 T.e_NoBlocks (takes_of rfl rfl rfl rfl))) pss_nil)
 (pss_one (ps_ret (pc c_parcels_in hr (by first | decide | omega) passL (pa_cons (pv 0) pa_nil))))), ?_⟩
    refine ⟨_, rfl, _, rfl, _, .lst hL, fun H1 s1 => ⟨_, rfl, ?_⟩⟩
    have hn := hf.n
    have hlen := hrs.len
    refine iteF ⟨_, rfl, L, rfl, ⟨us, SqL.of (s1 _ _ hL)⟩, lc1 walk_list (us.map fun _ => V.bl true) (by rw [List.length_map]) (by omega) (fun H' s => SqL.of (s _ _ (s1 _ _ hL))) (fun i x H2 H3 y Q' hi s2 yv hy => ?_) fun D H2 hD s2 hd => ?_⟩
    · obtain ⟨rfl, hx⟩ := yv
      obtain ⟨r, hr', hra⟩ := hrs.at_ i x hx
      obtain ⟨a, rfl, ha⟩ := hra.mono (TSame.of (s1.trans s2))
      have hrf := hf.b r (List.mem_of_getElem? hr')
      obtain ⟨j1, j2⟩ := row_judg ha hrf.2
      rw [List.getElem?_map, hx] at hy
      obtain rfl := Option.some.inj hy
      refine ⟨Same.refl _, fun q' => ⟨_, rfl, _, rfl, _, j1, j2, fun H4 s4 => ?_⟩⟩
      rw [rowB_rv hrf.1]
      exact q' H4 s4
    · refine ⟨D, us.map fun _ => true, rfl, SqL.of (by rw [hd, all_true]), _, rfl, ?_⟩
      rw [all_id]
      refine iteF ⟨_, rfl, _, rfl, L, us, rs, rfl, (s1.trans s2) _ _ hL, hrs.mono (s1.trans s2), hf, fun p us2 H' s3 h1 h2 => q p us2 H' ((s1.trans s2).trans s3) h1 h2⟩
theorem ok_kept_due (T : Txt K mg) (c__law_seal : Kn P w K mg base "_law_seal" 2 p__law_seal sp_seal) (c__law_read : Kn P w K mg base "_law_read" 24 p__law_read sp_read)
    (F : Fun K "_law_kept_due" "_law_kept_due" s__law_kept_due f fd) : FnOk P w K mg base (L2.CX P w) 25 f fd p__law_kept_due sp_parcels_in := by
  refine F.okX sc__law_kept_due (fun vs H Q E h => ?_) (fun cdv A outer s H vs Q E hr h => ?_)
  · obtain ⟨_, rfl, _⟩ := h
    rfl
  · obtain ⟨x, rfl, L, us, rs, rfl, hL, hrs, hf, q⟩ := h
    have hu := hr.units
    refine ⟨_, (pss_cons (ps_set (i := 1) sc__law_kept_due.nd rfl (Or.inl rfl) (pe_lst pa_nil))
 (pss_cons (ps_for (passes_of rfl) rfl (pi_list (pv 0)) (pg_name (i := 2) sc__law_kept_due.nd rfl (Or.inl rfl)) (pss_cons (ps_if (PW.pt (pw_or (pt_cmpR op_lt (pe_callB call_len_seq (by rfl) T.b_len (by decide +kernel) (pa_cons (pv 2) pa_nil)) pe_int (nomark _)) (pw_or (pt_cmpR (op_neD hu) (pc c__law_seal hr (by first | decide | omega) passL (pa_cons (pe_slice sl_tupA (pv 2) po_none (po_some (pe_un un_neg pe_int))) pa_nil)) (pe_slice sl_tupA (pv 2) (po_some (pe_un un_neg pe_int)) po_none) (nomark _)) (pw_or1 (pt_cmpR op_eq (pe_ix ix_tup (pc c__law_read hr (by first | decide | omega) passL (pa_cons (pe_slice sl_tupA (pv 2) po_none (po_some (pe_un un_neg pe_int))) pa_nil)) pe_int (fun _ _ => rfl)) pe_str (nomark _)))))) (pss_one (ps_ret (pv 1))) pss_nil)
 (pss_one (ps_expr (pe_bm PySem.F.plainAttrs_list PySem.F.slot_list_append PySem.F.type_list_append mt_append (pv 1) (pa_cons (pe_ix ix_tup (pc c__law_read hr (by first | decide | omega) passL (pa_cons (pe_slice sl_tupA (pv 2) po_none (po_some (pe_un un_neg pe_int))) pa_nil)) pe_int (fun _ _ => rfl)) pa_nil))))))
 (pss_one (ps_ret (pv 1))))), ?_⟩
    refine ⟨szl (by decide), fun p hp => ?_⟩
    have s0 : Same H (upd H p (.lst [])) := Same.new hp
    refine ⟨_, rfl, L, rfl, ⟨us, SqL.of (s0 _ _ hL)⟩, for_it walk_list (fun i σ H2 => ∃ (us2 : List V) (es : List D) (v2 : Option V), σ = [some (.ref L), some (.ref p), v2] ∧ Same H H2 ∧ H2 p = some (.lst us2) ∧ IsL H2 us2 es ∧ flats es = true ∧ es.length = i ∧ i ≤ us.length ∧ es ++ kp (rs.drop i) = kp rs)
      ⟨[], [], none, rfl, s0, upd_same, rfl, rfl, rfl, Nat.zero_le _, rfl⟩ (fun i σ H2 _ ⟨_, _, _, _, s, _⟩ => SqL.of (s _ _ hL)) (fun i x σ H2 H3 hi p1 yv => ?_) (fun σ H2 p1 => ?_)⟩
    · obtain ⟨us2, es, v2, rfl, s2, h2p, h2, hfl, hes, _, hk⟩ := p1
      obtain ⟨rfl, hx⟩ := yv
      obtain ⟨r, hr', hra⟩ := hrs.at_ i x hx
      obtain ⟨a, rfl, ha⟩ := hra.mono (TSame.of s2)
      have hrf := hf.b r (List.mem_of_getElem? hr')
      have hd : rs.drop i = r :: rs.drop (i + 1) := by
        obtain ⟨z1, z2⟩ := List.getElem?_eq_some_iff.mp hr'
        rw [List.drop_eq_getElem_cons z1, z2]
      rw [hd, kp_cons] at hk
      have ul := h2.len
      have hn := hf.n
      have hlen := hrs.len
      refine ⟨_, rfl, a, _, rfl, .inr (SqT.of ha), _, _, rfl, rfl, _, rfl, ?_⟩
      rw [rv_len]
      have stop : un r = [] → ∀ H4, Same H3 H4 → Q (.ref p) H4 := fun e H4 s4 => by
        rw [e] at hk
        dsimp only at hk
        rw [List.append_nil] at hk
        subst hk
        exact q p us2 H4 (s2.trans s4) (s4 _ _ h2p) (h2.mono s4 _ us2)
      show if decide ((r.length : Int) < 4) = true then _ else _
      by_cases h4 : r.length < 4
      · rw [decide_eq_true (by omega)]
        exact iteT (iteT ⟨_, rfl, stop (by unfold un; rw [if_pos (.inl h4)]) _ (Same.refl _)⟩)
      rw [decide_eq_false (by omega)]
      have hlen4 : 4 ≤ (rv r).length := by rw [rv_len]; omega
      have el : (rv r).take ((rv r).length - 4) = rv (r.take (r.length - 4)) := by rw [rv_take, rv_len]
      have eh : (rv r).drop ((rv r).length - 4) = rv (r.drop (r.length - 4)) := by rw [rv_drop, rv_len]
      refine iteF ⟨_, rfl, _, rfl, _, rfl, slV ha (cut_lo4 hlen4) fun z H4 t2 hz2 => ?_⟩
      rw [el] at hz2
      refine ⟨_, rfl, _, ⟨z, rfl, hz2⟩, fun z3 H5 t3 hz3 => ?_⟩
      refine ⟨_, rfl, _, rfl, _, rfl, ?_⟩
      refine noP ?_
      refine slV (t3 _ _ (t2 _ _ ha)) (cut_hi4 hlen4) fun z4 H6 t4 hz4 => ?_
      rw [eh] at hz4
      refine rows_dp ⟨z3, rfl, t4 _ _ hz3⟩ ⟨z4, rfl, hz4⟩ ⟨_, rfl, ?_⟩
      have t6 := t2.trans (t3.trans t4)
      show if (!decide (sl (r.take (r.length - 4)) = r.drop (r.length - 4))) = true then _ else _
      by_cases he : sl (r.take (r.length - 4)) = r.drop (r.length - 4)
      rotate_left
      · rw [decide_eq_false he]
        exact iteT (iteT ⟨_, rfl, stop (by unfold un; rw [if_pos (.inr he)]) _ t6⟩)
      rw [decide_eq_true he]
      refine iteF ⟨_, rfl, _, rfl, _, rfl, slV (t6 _ _ ha) (cut_lo4 hlen4) fun z5 H7 t7 hz5 => ?_⟩
      rw [el] at hz5
      have hl5 : (r.take (r.length - 4)).length ≤ 200000 := by rw [List.length_take]; have := hrf.2; omega
      refine ⟨_, rfl, _, ⟨z5, rfl, hz5⟩, hl5, fun z8 H8 t8 hz8 => ?_⟩
      have eu : un r = (match rd (r.take (r.length - 4)) with
          | .error _ => []
          | .ok d => [d]) := by
        unfold un
        rw [if_neg (fun z => z.elim h4 (fun g => g he))]
        try rfl
      have t18 := t6.trans (t7.trans t8)
      cases e : rd (r.take (r.length - 4)) with
      | error er =>
        rw [e] at hz8 eu
        refine ⟨z8, _, 0, .str "bad", rfl, rfl, SqT.of hz8, rfl, rfl, _, rfl, iteT ⟨_, rfl, stop eu _ t18⟩⟩
      | ok d =>
        rw [e] at hz8 eu
        obtain ⟨v, hz8, hv⟩ := hz8
        refine ⟨z8, _, 0, .str "told", rfl, rfl, SqT.of hz8, rfl, rfl, _, rfl, iteF ?_⟩
        have h8p := t18 _ _ h2p
        refine ⟨_, rfl, .inl ⟨rfl, _, SqL.of h8p⟩, _, rfl, _, rfl, _, rfl, slV (t18 _ _ ha) (cut_lo4 hlen4) fun z9 H9 t9 hz9 => ?_⟩
        rw [el] at hz9
        refine ⟨_, rfl, _, ⟨z9, rfl, hz9⟩, hl5, fun z10 H10 t10 hz10 => ?_⟩
        rw [e] at hz10
        obtain ⟨v2, hz10, hv2⟩ := hz10
        have t20 := t18.trans (t9.trans t10)
        have h10p := t20 _ _ h2p
        have hvd := un_vd eu
        rw [eu] at hk
        refine ⟨z10, _, 1, v2, rfl, rfl, SqT.of hz10, rfl, p, _, _, rfl, rfl, h10p, szlt (by omega), ?_⟩
        have t6' : TSame H10 (upd H10 p (.lst (us2 ++ [v2]))) := fun b xs hx => by
          have : b ≠ p := fun z => by
            rw [z, h10p] at hx
            cases hx
          rw [upd_ne this]
          exact hx
        exact ⟨us2 ++ [v2], es ++ [d], _, rfl, Same.own (s2.trans t20) hp, upd_same, ((h2.mono t20 es us2).tmono t6' es us2 hfl).snoc (hv2.tmono t6' d v2 hvd.1), flats_snoc hfl hvd.1, by rw [List.length_append, hes]; rfl, by omega, by rw [List.append_assoc]; exact hk⟩
    · obtain ⟨us2, es, v2, rfl, s2, h2p, h2, hfl, hes, _, hk⟩ := p1
      rw [hrs.len, List.drop_length] at hk
      have hk2 : es = kp rs := by rw [← hk]; exact (List.append_nil es).symm
      subst hk2
      exact ⟨_, rfl, q p us2 _ s2 h2p h2⟩
end
end Cl
set_option maxRecDepth 100000
set_option maxHeartbeats 4000000
/-! the disk's methods -/
namespace Cl
open PySem PySem.Spec PyProof.Rows L2 RZ
theorem TSame.lst {H : Hp} {p : Addr} {xs : List V} {o : HO} (h : H p = some (.lst xs)) : TSame H (upd H p o) := fun b ys hx => by
  have : b ≠ p := fun z => by
    rw [z, h] at hx
    cases hx
  rw [upd_ne this]
  exact hx
theorem TSame.ins {H : Hp} {p C dx : Addr} {fs : List (Str × V)} {o : HO} (h : H p = some (.ins C dx fs)) : TSame H (upd H p o) := fun b ys hx => by
  have : b ≠ p := fun z => by
    rw [z, h] at hx
    cases hx
  rw [upd_ne this]
  exact hx
/-- a pair of names over new pairs, the items told as they come -/
theorem lc2g {K : PySem.W.Frag} {J : It} {n : Nat} {G : Hp → Prop} {xs zs : Nat → Option V} (w : Walk J n G (YPair xs zs)) {i j : Nat} {te : TE} {σ : L2.St} {H1 : Hp} {R : Addr → Hp → Prop} (hij : i ≠ j) (Pk : Nat → Hp → List V → Prop)
    (P0 : ∀ H, Pk 0 H []) (Pm : ∀ k H H' acc, TSame H H' → Pk k H acc → Pk k H' acc) (Pl : ∀ k H acc, Pk k H acc → acc.length = k) (hz : n ≤ 100000) (hG : ∀ H, Same H1 H → G H)
    (he : ∀ k x z H acc (Q' : VK), k < n → Same H1 H → xs k = some x → zs k = some z → Pk k H acc → (∀ H4 y, Same H H4 → Pk (k + 1) H4 (acc ++ [y]) → Q' y H4) → te ((((σ.set j none).set i none).set i (some x)).set j (some z)) H Q')
    (q : ∀ D H2 acc, H1 D = none → Same H1 H2 → H2 D = some (.lst acc) → Pk n H2 acc → R D H2) : LcB J (gTup K 2 (gCons (gName i) (gCons (gName j) gNil))) te [i, j] σ R H1 := by
  intro D hD
  refine lc_it w (fun k H => ∃ acc, Same H1 H ∧ H D = some (.lst acc) ∧ Pk k H acc) ⟨[], Same.new hD, upd_same, P0 _⟩ (fun k H _ ⟨_, p, _⟩ => hG H p) (fun k v H H' hk p y => ?_) (fun H ⟨acc, s, e, p⟩ => q D H acc hD s e p)
  obtain ⟨acc, s, e, pk⟩ := p
  obtain ⟨T, x, z, rfl, hT, rfl, ex, ez⟩ := y
  have s' : Same H (upd H T (.tup [x, z])) := Same.new hT
  refine ⟨T, [x, z], rfl, SqT.of upd_same, rfl, x, [z], rfl, z, [], rfl, rfl, ?_, ?_⟩
  · show (((((σ.set j none).set i none).set i (some x)).set j (some z)).set j none).set i none = (σ.set j none).set i none
    rw [List.set_set]
    rw [List.set_comm _ _ (Ne.symm hij)]
    rw [List.set_set, List.set_set, List.set_comm _ _ hij, List.set_set]
  · show te ((((σ.set j none).set i none).set i (some x)).set j (some z)) _ _
    refine he k x z _ acc _ hk (s.trans s') ex ez (Pm _ _ _ _ (TSame.of s') pk) fun H4 y s4 p4 => ⟨acc, s4 _ _ (s' _ _ e), ?_, acc ++ [y], Same.own ((s.trans s').trans s4) hD, upd_same, Pm _ _ _ _ (TSame.lst (s4 _ _ (s' _ _ e))) p4⟩
    rw [Pl _ _ _ pk]
    exact Nat.lt_of_lt_of_le hk (Nat.le_trans hz (by decide))
/-- a disk's fields -/
abbrev dkF (a b : V) : List (Str × V) := [("written", a), ("lasting", b)]
theorem put_wr {a b z : V} : putF "written" z (dkF a b) = dkF z b := by
  unfold dkF
  rw [putF, if_pos rfl]
theorem put_la {a b z : V} : putF "lasting" z (dkF a b) = dkF a z := by
  have h1 : ¬ (Str.ofString "written" = Str.ofString "lasting") := by decide
  unfold dkF
  rw [putF, if_neg h1, putF, if_pos rfl]
theorem put_d0 {a b : V} : putF "lasting" b (putF "written" a []) = dkF a b := by
  have h1 : ¬ (Str.ofString "written" = Str.ofString "lasting") := by decide
  rw [putF, putF, if_neg h1, putF]
theorem look_wr {a b : V} : List.lookup (Str.ofString "written") (dkF a b) = some a := rfl
theorem look_la {a b : V} : List.lookup (Str.ofString "lasting") (dkF a b) = some b := rfl
/-- a disk -/
abbrev dko (K : PySem.W.Frag) (dx : Addr) (a b : V) : HO := .ins (cc K "Disk") dx (dkF a b)
structure DkAt (K : PySem.W.Frag) (H : Hp) (c dx L : Addr) (us : List V) (n : Nat) : Prop where
  o : H c = some (dko K dx (.ref L) (.int (n : Int)))
  l : H L = some (.lst us)
theorem DkAt.same {K : PySem.W.Frag} {H H' : Hp} {c dx L : Addr} {us : List V} {n : Nat} (s : Same H H') (h : DkAt K H c dx L us n) : DkAt K H' c dx L us n := ⟨s _ _ h.o, s _ _ h.l⟩
theorem DkAt.ne {K : PySem.W.Frag} {H : Hp} {c dx L : Addr} {us : List V} {n : Nat} (h : DkAt K H c dx L us n) : L ≠ c := fun z => by
  have := h.l
  rw [z, h.o] at this
  cases this
/-- what of the waiting rows is kept -/
def tn : V → Nat
  | .int i => i.toNat
  | _ => 0
def cutB : Option (List V) → List (List Nat) → Bool
  | some ks, ws => decide (ks.length = ws.length) && (List.zip ks ws).all fun p => vin 0 (p.2.length : Int) p.1
  | none, _ => false
def cutR : Option (List V) → List (List Nat) → List (List Nat)
  | some ks, ws => (List.zip ks ws).map fun p => p.2.take (tn p.1)
  | none, _ => []
def sp_dinit (K : PySem.W.Frag) : Sp := fun vs H Q _ => ∃ x, vs = [x] ∧ ∃ (c dx : Addr), x = .ref c ∧ H c = some (.ins (cc K "Disk") dx []) ∧ ∀ L, H L = none → Q .non (upd (upd H L (.lst [])) c (dko K dx (.ref L) (.int 0)))
def sp_write (K : PySem.W.Frag) : Sp := fun vs H Q E => ∃ x y, vs = [x, y] ∧ ∃ (c dx L : Addr) (us : List V) (n : Nat) (o : Option (List V)), x = .ref c ∧ DkAt K H c dx L us n ∧ us.length ≤ 10000 ∧ Th H y o ∧ Judg H o ∧
  (rowB o = true → ∀ H1, Same H H1 → Q (.int (us.length : Int)) (upd H1 L (.lst (us ++ [y])))) ∧ (rowB o = false → ∀ H', Same H H' → E (.ref (cc K "NoRow")) none H')
def sp_sync (K : PySem.W.Frag) : Sp := fun vs H Q _ => ∃ x, vs = [x] ∧ ∃ (c dx L : Addr) (us : List V) (n : Nat), x = .ref c ∧ DkAt K H c dx L us n ∧ Q (.int ((us.length : Int) - (n : Int))) (upd H c (dko K dx (.ref L) (.int (us.length : Int))))
def sp_blocks (K : PySem.W.Frag) : Sp := fun vs H Q _ => ∃ x, vs = [x] ∧ ∃ (c dx L : Addr) (us : List V) (n : Nat), x = .ref c ∧ DkAt K H c dx L us n ∧ ∀ p, H p = none → Q (.ref p) (upd H p (.lst us))
def sp_synced (K : PySem.W.Frag) : Sp := fun vs H Q _ => ∃ x, vs = [x] ∧ ∃ (c dx L : Addr) (us : List V) (n : Nat), x = .ref c ∧ DkAt K H c dx L us n ∧ Q (.int (n : Int)) H
def sp_drop (K : PySem.W.Frag) : Sp := fun vs H Q E => ∃ x y, vs = [x, y] ∧ ∃ (c dx L : Addr) (us : List V) (n : Nat), x = .ref c ∧ DkAt K H c dx L us n ∧ n ≤ us.length ∧ (∃ k, Kd H y k) ∧
  (vin 0 (us.length : Int) y = true → ∀ M, H M = none → Q .non (upd (upd H M (.lst (us.take (tn y)))) c (dko K dx (.ref M) (.int ((min n (tn y) : Nat) : Int))))) ∧ (vin 0 (us.length : Int) y = false → E (.ref (cc K "NoNumber")) none H)
def sp_copy (K : PySem.W.Frag) : Sp := fun vs H Q _ => ∃ x, vs = [x] ∧ ∃ (c dx L : Addr) (us : List V) (n : Nat), x = .ref c ∧ DkAt K H c dx L us n ∧ ∀ c2 dx2 L2 H', Same H H' → H c2 = none → H L2 = none → DkAt K H' c2 dx2 L2 us n → Q (.ref c2) H'
def sp_cut (K : PySem.W.Frag) : Sp := fun vs H Q E => ∃ x y, vs = [x, y] ∧ ∃ (c dx L : Addr) (us : List V) (rs : List (List Nat)) (n : Nat) (o : Option (List V)), x = .ref c ∧ DkAt K H c dx L us n ∧ Rows H us rs ∧ Fit rs ∧ n ≤ us.length ∧ Th H y o ∧ Judg H o ∧
  (cutB o (rs.drop n) = true → ∀ M us' H', But c H H' → H M = none → DkAt K H' c dx M us' rs.length → Rows H' us' (rs.take n ++ cutR o (rs.drop n)) → Q .non H') ∧ (cutB o (rs.drop n) = false → ∀ H', Same H H' → E (.ref (cc K "NoCut")) none H')
theorem vin_int {lo hi : Int} {v : V} (h : vin lo hi v = true) : ∃ i : Int, v = .int i ∧ lo ≤ i ∧ i ≤ hi := by
  cases v with
  | int i =>
    obtain ⟨h1, h2⟩ := Bool.and_eq_true_iff.mp (show (decide (lo ≤ i) && decide (i ≤ hi)) = true from h)
    exact ⟨i, rfl, of_decide_eq_true h1, of_decide_eq_true h2⟩
  | _ => cases h
section
variable {P : Program} {w : World} {K : PySem.W.Frag} {mg : Str → Option Value} {base : Heap} {f : Addr} {fd : FuncData}
theorem ok_dinit (T : Txt K mg) (F : Fun K "__init__" "Disk.__init__" s_Disk_init f fd) : FnOk P w K mg base (L2.CX P w) 1 f fd p_Disk_init (sp_dinit K) := by
  refine F.okX sc_Disk_init (fun vs H Q E h => ?_) (fun cdv A outer s H vs Q E hr h => ?_)
  · obtain ⟨_, rfl, _⟩ := h
    rfl
  · obtain ⟨x, rfl, c, dx, rfl, hc, q⟩ := h
    refine ⟨_, (pss_cons (ps_fld (pv 0) (pe_lst pa_nil) rfl)
 (pss_one (ps_fld (pv 0) pe_int rfl))), ?_⟩
    refine ⟨szl (by decide), fun L hL => ?_⟩
    have hc1 := (Same.new (o := .lst []) hL) _ _ hc
    refine ⟨_, rfl, c, _, dx, [], rfl, hc1, T.clD, T.noWr, (by show 0 < 1000; decide), ?_⟩
    refine ⟨_, rfl, c, _, dx, _, rfl, upd_same, T.clD, T.noLa, (by show 1 < 1000; decide), ?_⟩
    rw [put_d0, upd_upd]
    exact q L hL
theorem ok_write (T : Txt K mg) (c_check_row : Kn P w K mg base "check_row" 2 p_check_row (sp_check_row (cc K "NoRow"))) (F : Fun K "write" "Disk.write" s_Disk_write f fd) : FnOk P w K mg base (L2.CX P w) 3 f fd p_Disk_write (sp_write K) := by
  refine F.okX sc_Disk_write (fun vs H Q E h => ?_) (fun cdv A outer s H vs Q E hr h => ?_)
  · obtain ⟨_, _, rfl, _⟩ := h
    rfl
  · obtain ⟨x, y, rfl, c, dx, L, us, n, o, rfl, hd, hz, th, jg, q1, q2⟩ := h
    refine ⟨_, (pss_cons (ps_expr (pc c_check_row hr (by first | decide | omega) (passes_call (takes_of rfl rfl rfl rfl) (fun _ _ _ _ h => h)) (pa_cons (pv 1) pa_nil)))
 (pss_cons (ps_expr (pe_bm PySem.F.plainAttrs_list PySem.F.slot_list_append PySem.F.type_list_append mt_append (pe_fld (pv 0) rfl) (pa_cons (pv 1) pa_nil)))
 (pss_one (ps_ret (pe_op op_sub (pe_callB call_len_seq (by rfl) T.b_len (by decide +kernel) (pa_cons (pe_fld (pv 0) rfl) pa_nil)) pe_int))))), ?_⟩
    refine ⟨_, rfl, _, rfl, o, th, jg, fun hb H1 s1 => ?_, q2⟩
    have h1 := hd.same s1
    refine ⟨_, rfl, c, _, dx, _, _, rfl, h1.o, T.clD, T.noWr, look_wr, .inl ⟨rfl, _, SqL.of h1.l⟩, _, rfl, L, _, _, rfl, rfl, h1.l, szlt (by omega), ?_⟩
    have o2 : (upd H1 L (.lst (us ++ [y]))) c = some (dko K dx (.ref L) (.int (n : Int))) := by
      rw [upd_ne (Ne.symm hd.ne)]
      exact h1.o
    have q' := q1 hb H1 s1
    rw [show (us.length : Int) = ((us ++ [y]).length : Int) - 1 by rw [List.length_append]; show _ = ((us.length + 1 : Nat) : Int) - 1; omega] at q'
    exact ⟨_, rfl, c, _, dx, _, _, rfl, o2, T.clD, T.noWr, look_wr, L, _, rfl, .inl (SqL.of upd_same), _, _, rfl, rfl, q'⟩
theorem ok_sync (T : Txt K mg) (F : Fun K "sync" "Disk.sync" s_Disk_sync f fd) : FnOk P w K mg base (L2.CX P w) 1 f fd p_Disk_sync (sp_sync K) := by
  refine F.okX sc_Disk_sync (fun vs H Q E h => ?_) (fun cdv A outer s H vs Q E hr h => ?_)
  · obtain ⟨_, rfl, _⟩ := h
    rfl
  · obtain ⟨x, rfl, c, dx, L, us, n, rfl, hd, q⟩ := h
    refine ⟨_, (pss_cons (ps_set (i := 1) sc_Disk_sync.nd rfl (Or.inl rfl) (pe_op op_sub (pe_callB call_len_seq (by rfl) T.b_len (by decide +kernel) (pa_cons (pe_fld (pv 0) rfl) pa_nil)) (pe_fld (pv 0) rfl)))
 (pss_cons (ps_fld (pv 0) (pe_callB call_len_seq (by rfl) T.b_len (by decide +kernel) (pa_cons (pe_fld (pv 0) rfl) pa_nil)) rfl)
 (pss_one (ps_ret (pv 1))))), ?_⟩
    refine ⟨_, rfl, c, _, dx, _, _, rfl, hd.o, T.clD, T.noWr, look_wr, L, _, rfl, .inl (SqL.of hd.l), _, rfl, c, _, dx, _, _, rfl, hd.o, T.clD, T.noLa, look_la, _, _, rfl, rfl, ?_⟩
    refine ⟨_, rfl, c, _, dx, _, _, rfl, hd.o, T.clD, T.noWr, look_wr, L, _, rfl, .inl (SqL.of hd.l), _, rfl, c, _, dx, _, rfl, hd.o, T.clD, T.noLa, (by show 2 < 1000; decide), ?_⟩
    rw [put_la]
    exact ⟨_, rfl, q⟩
theorem ok_blocks (T : Txt K mg) (F : Fun K "blocks" "Disk.blocks" s_Disk_blocks f fd) : FnOk P w K mg base (L2.CX P w) 1 f fd p_Disk_blocks (sp_blocks K) := by
  refine F.okX sc_Disk_blocks (fun vs H Q E h => ?_) (fun cdv A outer s H vs Q E hr h => ?_)
  · obtain ⟨_, rfl, _⟩ := h
    rfl
  · obtain ⟨x, rfl, c, dx, L, us, n, rfl, hd, q⟩ := h
    refine ⟨_, (pss_one (ps_ret (pe_callTy call_list_of (by rfl) T.b_list (by decide +kernel) (pa_cons (pe_fld (pv 0) rfl) pa_nil)))), ?_⟩
    exact ⟨_, rfl, c, _, dx, _, _, rfl, hd.o, T.clD, T.noWr, look_wr, L, _, rfl, .inl (SqL.of hd.l), q⟩
theorem ok_synced (T : Txt K mg) (F : Fun K "synced" "Disk.synced" s_Disk_synced f fd) : FnOk P w K mg base (L2.CX P w) 1 f fd p_Disk_synced (sp_synced K) := by
  refine F.okX sc_Disk_synced (fun vs H Q E h => ?_) (fun cdv A outer s H vs Q E hr h => ?_)
  · obtain ⟨_, rfl, _⟩ := h
    rfl
  · obtain ⟨x, rfl, c, dx, L, us, n, rfl, hd, q⟩ := h
    refine ⟨_, (pss_one (ps_ret (pe_fld (pv 0) rfl))), ?_⟩
    exact ⟨_, rfl, c, _, dx, _, _, rfl, hd.o, T.clD, T.noLa, look_la, q⟩
theorem ok_drop (T : Txt K mg) (c_check_within : Kn P w K mg base "check_within" 3 p_check_within (sp_check_within (cc K "NoNumber"))) (F : Fun K "drop" "Disk.drop" s_Disk_drop f fd) : FnOk P w K mg base (L2.CX P w) 4 f fd p_Disk_drop (sp_drop K) := by
  refine F.okX sc_Disk_drop (fun vs H Q E h => ?_) (fun cdv A outer s H vs Q E hr h => ?_)
  · obtain ⟨_, _, rfl, _⟩ := h
    rfl
  · obtain ⟨x, y, rfl, c, dx, L, us, n, rfl, hd, hn, hk, q1, q2⟩ := h
    refine ⟨_, (pss_cons (ps_expr (pc c_check_within hr (by first | decide | omega) (passes_call (takes_of rfl rfl rfl rfl) (fun _ _ _ _ h => h)) (pa_cons (pv 1) (pa_cons pe_int (pa_cons (pe_callB call_len_seq (by rfl) T.b_len (by decide +kernel) (pa_cons (pe_fld (pv 0) rfl) pa_nil)) pa_nil)))))
 (pss_cons (ps_fld (pv 0) (pe_slice sl_list (pe_fld (pv 0) rfl) po_none (po_some (pv 1))) rfl)
 (pss_one (ps_fld (pv 0) (pe_callB (call_min2 rfl) (by rfl) T.b_min (by decide +kernel) (pa_cons (pe_fld (pv 0) rfl) (pa_cons (pv 1) pa_nil))) rfl)))), ?_⟩
    refine ⟨_, rfl, _, rfl, c, _, dx, _, _, rfl, hd.o, T.clD, T.noWr, look_wr, L, _, rfl, .inl (SqL.of hd.l), _, _, _, rfl, hk, fun hv => ?_, q2⟩
    obtain ⟨i, rfl, h0, h1⟩ := vin_int hv
    obtain ⟨m, rfl⟩ : ∃ m : Nat, i = (m : Int) := ⟨i.toNat, by omega⟩
    refine ⟨_, rfl, c, _, dx, _, _, rfl, hd.o, T.clD, T.noWr, look_wr, _, rfl, _, rfl, L, _, rfl, SqL.of hd.l, fun M hM => ?_⟩
    rw [cut_lo]
    have o1 := (Same.new (o := .lst (us.take m)) hM) _ _ hd.o
    refine ⟨_, rfl, c, _, dx, _, rfl, o1, T.clD, T.noWr, (by show 2 < 1000; decide), ?_⟩
    rw [put_wr]
    refine ⟨_, rfl, c, _, dx, _, _, rfl, upd_same, T.clD, T.noLa, look_la, _, rfl, _, _, rfl, _, rfl, c, _, dx, _, rfl, upd_same, T.clD, T.noLa, (by show 2 < 1000; decide), ?_⟩
    rw [put_la, upd_upd]
    have e : V.int (if (m : Int) < (n : Int) then (m : Int) else (n : Int)) = .int ((min n m : Nat) : Int) := by
      by_cases g : m < n
      · rw [if_pos (by omega), Nat.min_eq_right (by omega)]
      · rw [if_neg (by omega), Nat.min_eq_left (by omega)]
    have q' := q1 hv M hM
    have e2 : tn (V.int (m : Int)) = m := Int.toNat_natCast m
    rw [e2, ← e] at q'
    exact q'
theorem ok_copy (T : Txt K mg) (c_Disk : Ki P w K mg base "Disk" (cc K "Disk") 1 p_Disk_init (sp_dinit K)) (F : Fun K "copy" "Disk.copy" s_Disk_copy f fd) : FnOk P w K mg base (L2.CX P w) 3 f fd p_Disk_copy (sp_copy K) := by
  refine F.okX sc_Disk_copy (fun vs H Q E h => ?_) (fun cdv A outer s H vs Q E hr h => ?_)
  · obtain ⟨_, rfl, _⟩ := h
    rfl
  · obtain ⟨x, rfl, c, dx, L, us, n, rfl, hd, q⟩ := h
    refine ⟨_, (pss_cons (ps_set (i := 1) sc_Disk_copy.nd rfl (Or.inl rfl) (pmk0 c_Disk hr (by first | decide | omega) passL))
 (pss_cons (ps_fld (pv 1) (pe_callTy call_list_of (by rfl) T.b_list (by decide +kernel) (pa_cons (pe_fld (pv 0) rfl) pa_nil)) rfl)
 (pss_cons (ps_fld (pv 1) (pe_fld (pv 0) rfl) rfl)
 (pss_one (ps_ret (pv 1)))))), ?_⟩
    refine fun c2 dx2 hc2 hdx ne => ⟨_, rfl, c2, dx2, rfl, upd_same, fun L0 hL0 => ⟨rfl, ?_⟩⟩
    have s1 : Same H (upd (upd (upd (upd H dx2 (.own c2)) c2 (.ins (cc K "Disk") dx2 [])) L0 (.lst [])) c2 (dko K dx2 (.ref L0) (.int 0))) := Same.own ((Same.own (Same.new hdx) hc2).trans (Same.new hL0)) hc2
    have o2 : (upd (upd (upd (upd H dx2 (.own c2)) c2 (.ins (cc K "Disk") dx2 [])) L0 (.lst [])) c2 (dko K dx2 (.ref L0) (.int 0))) c2 = some (dko K dx2 (.ref L0) (.int 0)) := upd_same
    generalize upd (upd (upd (upd H dx2 (.own c2)) c2 (.ins (cc K "Disk") dx2 [])) L0 (.lst [])) c2 (dko K dx2 (.ref L0) (.int 0)) = H2 at s1 o2
    have h2 := hd.same s1
    refine ⟨_, rfl, c, _, dx, _, _, rfl, h2.o, T.clD, T.noWr, look_wr, L, _, rfl, .inl (SqL.of h2.l), fun L2 hL2 => ?_⟩
    have s2 : Same H2 (upd H2 L2 (.lst us)) := Same.new hL2
    refine ⟨_, rfl, c2, _, dx2, _, rfl, s2 _ _ o2, T.clD, T.noWr, (by show 2 < 1000; decide), ?_⟩
    rw [put_wr]
    have s3 : Same H (upd (upd H2 L2 (.lst us)) c2 (dko K dx2 (.ref L2) (.int 0))) := Same.own (s1.trans s2) hc2
    have n2 : L2 ≠ c2 := fun z => by
      rw [z, o2] at hL2
      cases hL2
    have l3 : (upd (upd H2 L2 (.lst us)) c2 (dko K dx2 (.ref L2) (.int 0))) L2 = some (.lst us) := by rw [upd_ne n2, upd_same]
    have h3 := hd.same s3
    refine ⟨_, rfl, c, _, dx, _, _, rfl, h3.o, T.clD, T.noLa, look_la, _, rfl, c2, _, dx2, _, rfl, upd_same, T.clD, T.noLa, (by show 2 < 1000; decide), ?_⟩
    rw [put_la, upd_upd]
    exact ⟨_, rfl, q c2 dx2 L2 _ (Same.own (s1.trans s2) hc2) hc2 (s1.free hL2) ⟨upd_same, by rw [upd_ne n2, upd_same]⟩⟩
theorem Rows.drop {H : Hp} {us : List V} {rs : List (List Nat)} (h : Rows H us rs) (n : Nat) : Rows H (us.drop n) (rs.drop n) := ⟨by rw [List.length_drop, List.length_drop, h.len], fun i u e => by
  rw [List.getElem?_drop] at e ⊢
  exact h.at_ _ u e⟩
theorem Rows.take {H : Hp} {us : List V} {rs : List (List Nat)} (h : Rows H us rs) (n : Nat) : Rows H (us.take n) (rs.take n) := ⟨by rw [List.length_take, List.length_take, h.len], fun i u e => by
  rw [List.getElem?_take] at e ⊢
  by_cases g : i < n
  · rw [if_pos g] at e ⊢
    exact h.at_ _ u e
  · rw [if_neg g] at e
    cases e⟩
theorem Rows.app {H : Hp} {us vs : List V} {rs ws : List (List Nat)} (h : Rows H us rs) (h2 : Rows H vs ws) : Rows H (us ++ vs) (rs ++ ws) := ⟨by rw [List.length_append, List.length_append, h.len, h2.len], fun i u e => by
  have hl := h.len
  by_cases g : i < us.length
  · rw [List.getElem?_append_left g] at e
    rw [List.getElem?_append_left (by omega)]
    exact h.at_ _ u e
  · rw [List.getElem?_append_right (by omega)] at e
    rw [List.getElem?_append_right (by omega), ← hl]
    exact h2.at_ _ u e⟩
theorem zip_at {α β : Type} {a : List α} {b : List β} {i : Nat} {x : α} {y : β} (h1 : a[i]? = some x) (h2 : b[i]? = some y) : (List.zip a b)[i]? = some (x, y) := by
  rw [List.getElem?_zip_eq_some]
  exact ⟨h1, h2⟩
theorem ok_cut (T : Txt K mg) (c_is_sized : Kn P w K mg base "is_sized" 1 p_is_sized sp_is_sized) (c_is_within : Kn P w K mg base "is_within" 2 p_is_within sp_is_within) (F : Fun K "cut" "Disk.cut" s_Disk_cut f fd) : FnOk P w K mg base (L2.CX P w) 3 f fd p_Disk_cut (sp_cut K) := by
  refine F.okX sc_Disk_cut (fun vs H Q E h => ?_) (fun cdv A outer s H vs Q E hr h => ?_)
  · obtain ⟨_, _, rfl, _⟩ := h
    rfl
  · obtain ⟨x, y, rfl, c, dx, L, us, rs, n, o, rfl, hd, hrs, hf, hn, th, jg, q1, q2⟩ := h
    refine ⟨_, (pss_cons (ps_set (i := 2) sc_Disk_cut.nd rfl (Or.inl rfl) (pe_slice sl_list (pe_fld (pv 0) rfl) (po_some (pe_fld (pv 0) rfl)) po_none))
 (pss_cons (ps_if (pt_not (pt_val (pc c_is_sized hr (by first | decide | omega) passL (pa_cons (pv 1) (pa_cons (pe_callB call_len_seq (by rfl) T.b_len (by decide +kernel) (pa_cons (pv 2) pa_nil)) (pa_cons (pe_callB call_len_seq (by rfl) T.b_len (by decide +kernel) (pa_cons (pv 2) pa_nil)) pa_nil)))))) (pss_one (rz0 T.e_NoCut (takes_of rfl rfl rfl rfl))) pss_nil)
 (pss_cons (ps_if (pt_not (pt_val (pe_callB (cr_all rfl) (by rfl) T.b_all (by decide +kernel) (pa_cons (pe_lc (own := [("many", 3), ("row", 4)]) (g := gTup K 2 (gCons (gName 3) (gCons (gName 4) gNil))) rfl sc_Disk_cut.nd (pi_zipM (by rfl) T.b_zip (pa_cons (pv 1) (pa_cons (pv 2) pa_nil))) (blkOk_by (N := N_Disk_cut) (sc := defScope s_Disk_cut) (by decide +kernel)) (fun _ _ _ _ _ => (pg_tup rfl (pgs_cons (pg_name (i := 3) sc_Disk_cut.nd rfl (Or.inl rfl)) (pgs_cons (pg_name (i := 4) sc_Disk_cut.nd rfl (Or.inl rfl)) pgs_nil)))) (fun _ _ _ _ _ => pts_nil) (fun _ _ _ _ _ => (pc c_is_within hr (by first | decide | omega) passL (pa_cons (pv 3) (pa_cons pe_int (pa_cons (pe_callB (id := "len") (r := rLenQ K) call_lenQ (by rfl) T.b_len (by decide +kernel) (pa_cons (pv 4) pa_nil)) pa_nil)))))) pa_nil)))) (pss_one (rz0 T.e_NoCut (takes_of rfl rfl rfl rfl))) pss_nil)
 (pss_cons (ps_fld (pv 0) (pe_op op_cat (pe_slice sl_list (pe_fld (pv 0) rfl) po_none (po_some (pe_fld (pv 0) rfl))) (pe_lc (own := [("many", 3), ("row", 4)]) (g := gTup K 2 (gCons (gName 3) (gCons (gName 4) gNil))) rfl sc_Disk_cut.nd (pi_zipM (by rfl) T.b_zip (pa_cons (pv 1) (pa_cons (pv 2) pa_nil))) (blkOk_by (N := N_Disk_cut) (sc := defScope s_Disk_cut) (by decide +kernel)) (fun _ _ _ _ _ => (pg_tup rfl (pgs_cons (pg_name (i := 3) sc_Disk_cut.nd rfl (Or.inl rfl)) (pgs_cons (pg_name (i := 4) sc_Disk_cut.nd rfl (Or.inl rfl)) pgs_nil)))) (fun _ _ _ _ _ => pts_nil) (fun _ _ _ _ _ => (pe_slice (r := rSlA K) sl_tupA (pv 4) po_none (po_some (pv 3)))))) rfl)
 (pss_one (ps_fld (pv 0) (pe_callB call_len_seq (by rfl) T.b_len (by decide +kernel) (pa_cons (pe_fld (pv 0) rfl) pa_nil)) rfl)))))), ?_⟩
    refine ⟨_, rfl, c, _, dx, _, _, rfl, hd.o, T.clD, T.noWr, look_wr, _, rfl, c, _, dx, _, _, rfl, hd.o, T.clD, T.noLa, look_la, _, rfl, ?_⟩
    refine noP ?_
    refine ⟨L, _, rfl, SqL.of hd.l, fun W hW => ?_⟩
    rw [cut_hi]
    have s1 : Same H (upd H W (.lst (us.drop n))) := Same.new hW
    have hW1 : (upd H W (.lst (us.drop n))) W = some (.lst (us.drop n)) := upd_same
    generalize upd H W (.lst (us.drop n)) = H1 at s1 hW1
    have hlen := hrs.len
    have hdl : (us.drop n).length = (rs.drop n).length := by rw [List.length_drop, List.length_drop, hlen]
    refine ⟨_, rfl, _, rfl, W, _, rfl, .inl (SqL.of hW1), _, rfl, W, _, rfl, .inl (SqL.of hW1), _, _, _, rfl, o, th.mono s1, jg.mono s1, _, rfl, ?_⟩
    have no : cutB o (rs.drop n) = false → ∀ H', Same H1 H' → E (.ref (cc K "NoCut")) none H' := fun e H' s => q2 e H' (s1.trans s)
    cases o with
    | none => exact iteT (no rfl H1 (Same.refl _))
    | some ks =>
      obtain ⟨a, rfl, ha⟩ : ∃ a, y = .ref a ∧ H a = some (.tup ks) := by
        cases th with
        | tup e => exact ⟨_, rfl, e⟩
      have ha1 := s1 _ _ ha
      have hjk := jg ks rfl
      show if (!(decide (((us.drop n).length : Int) ≤ (ks.length : Int)) && decide ((ks.length : Int) ≤ ((us.drop n).length : Int)))) = true then _ else _
      by_cases hk : ks.length = (us.drop n).length
      rotate_left
      · have e0 : (decide (((us.drop n).length : Int) ≤ (ks.length : Int)) && decide ((ks.length : Int) ≤ ((us.drop n).length : Int))) = false := by
          by_cases g : (us.drop n).length ≤ ks.length
          · rw [decide_eq_false (by omega : ¬ ((ks.length : Int) ≤ ((us.drop n).length : Int))), Bool.and_false]
          · rw [decide_eq_false (by omega : ¬ (((us.drop n).length : Int) ≤ (ks.length : Int))), Bool.false_and]
        rw [e0]
        refine iteT (no ?_ H1 (Same.refl _))
        show (decide (ks.length = (rs.drop n).length) && _) = false
        rw [decide_eq_false (by omega), Bool.false_and]
      have e1 : (decide (((us.drop n).length : Int) ≤ (ks.length : Int)) && decide ((ks.length : Int) ≤ ((us.drop n).length : Int))) = true := by
        rw [decide_eq_true (by omega), decide_eq_true (by omega)]
        rfl
      rw [e1]
      have hr1 := (hrs.mono s1).drop n
      have hfn := hf.n
      have hd1 : (us.drop n).length ≤ 10000 := by rw [List.length_drop]; omega
      have hbl : ((List.zip ks (rs.drop n)).map fun p => V.bl (vin 0 (p.2.length : Int) p.1)).length = ks.length := by
        rw [List.length_map, List.length_zip]
        omega
      have h1 := hd.same s1
      refine iteF ⟨_, rfl, _, rfl, a, W, ks, _, rfl, SqT.of ha1, SqL.of hW1, lc2 (walk_zipM rfl hk) (by decide) ((List.zip ks (rs.drop n)).map fun p => V.bl (vin 0 (p.2.length : Int) p.1)) hbl.symm (by omega) (fun H' s => ⟨SqT.of (s _ _ ha1), SqL.of (s _ _ hW1)⟩) (fun k x z H2 yy Q' hk2 s2 ex ez ey q' => ?_) fun D H2 hD s2 hdl2 => ?_⟩
      · obtain ⟨r, er, har⟩ := hr1.at_ k z ez
        obtain ⟨b, rfl, hb⟩ := har.mono (TSame.of s2)
        rw [List.getElem?_map, zip_at ex er] at ey
        obtain rfl := Option.some.inj ey
        obtain ⟨kd, hkd⟩ := (hjk.2 x (List.mem_of_getElem? ex))
        refine ⟨_, rfl, _, rfl, b, _, rfl, .inr (SqT.of hb), _, _, _, rfl, ⟨kd, hkd.mono (s1.trans s2)⟩, ?_⟩
        rw [rv_len]
        exact q' H2 (Same.refl _)
      · refine ⟨D, (List.zip ks (rs.drop n)).map fun p => vin 0 (p.2.length : Int) p.1, rfl, SqL.of (by rw [hdl2, List.map_map]; rfl), _, rfl, ?_⟩
        have ea : ((List.zip ks (rs.drop n)).map fun p => vin 0 (p.2.length : Int) p.1).all id = (List.zip ks (rs.drop n)).all fun p => vin 0 (p.2.length : Int) p.1 := by
          rw [List.all_map]
          rfl
        rw [ea]
        have ec : cutB (some ks) (rs.drop n) = (List.zip ks (rs.drop n)).all fun p => vin 0 (p.2.length : Int) p.1 := by
          show (decide (ks.length = (rs.drop n).length) && _) = _
          rw [decide_eq_true (by omega), Bool.true_and]
        cases hall : (List.zip ks (rs.drop n)).all fun p => vin 0 (p.2.length : Int) p.1 with
        | false => exact iteT (no (by rw [ec, hall]) H2 s2)
        | true =>
          have h2 := h1.same s2
          refine iteF ⟨_, rfl, c, _, dx, _, _, rfl, h2.o, T.clD, T.noWr, look_wr, _, rfl, c, _, dx, _, _, rfl, h2.o, T.clD, T.noLa, look_la, _, rfl, L, _, rfl, SqL.of h2.l, fun P hP => ?_⟩
          rw [cut_lo]
          have s3 : Same H2 (upd H2 P (.lst (us.take n))) := Same.new hP
          have hP3 : (upd H2 P (.lst (us.take n))) P = some (.lst (us.take n)) := upd_same
          generalize upd H2 P (.lst (us.take n)) = H3 at s3 hP3
          have s13 := s1.trans (s2.trans s3)
          refine ⟨_, rfl, _, rfl, a, W, ks, _, rfl, SqT.of (s13 _ _ ha), SqL.of ((s2.trans s3) _ _ hW1), lc2g (walk_zipM rfl hk) (by decide) (fun k H acc => acc.length = k ∧ ∀ (i : Nat) (u : V), acc[i]? = some u → ∃ r, (cutR (some ks) (rs.drop n))[i]? = some r ∧ RowAt H u r)
            (fun H => ⟨rfl, fun i u e => by cases e⟩) (fun k H H' acc t ⟨l, g⟩ => ⟨l, fun i u e => (g i u e).imp fun r ⟨x1, x2⟩ => ⟨x1, x2.mono t⟩⟩) (fun k H acc g => g.1) (by omega) (fun H' s => ⟨SqT.of (s _ _ (s13 _ _ ha)), SqL.of (s _ _ ((s2.trans s3) _ _ hW1))⟩)
            (fun k x z H4 acc Q' hk2 s4 ex ez pk q' => ?_) fun D2 H4 acc hD2 s4 hdl4 pk => ?_⟩
          · obtain ⟨r, er, har⟩ := hr1.at_ k z ez
            obtain ⟨b, rfl, hb⟩ := har.mono (TSame.of (s2.trans (s3.trans s4)))
            have hv := List.all_eq_true.mp hall (x, r) (List.mem_of_getElem? (zip_at ex er))
            obtain ⟨iv, rfl, v1, v2⟩ := vin_int hv
            obtain ⟨m, rfl⟩ : ∃ m : Nat, iv = (m : Int) := ⟨iv.toNat, by omega⟩
            refine ⟨_, rfl, _, rfl, _, rfl, slV hb cut_lo fun p H5 s5 hp => q' H5 _ s5 ⟨by rw [List.length_append, pk.1]; rfl, fun i u e => ?_⟩⟩
            by_cases g : i < k
            · rw [List.getElem?_append_left (by rw [pk.1]; exact g)] at e
              obtain ⟨r2, x1, x2⟩ := pk.2 i u e
              exact ⟨r2, x1, x2.mono (TSame.of s5)⟩
            · rw [List.getElem?_append_right (by rw [pk.1]; omega), pk.1] at e
              have : i = k := by
                by_cases g2 : i - k = 0
                · omega
                · obtain ⟨j, hj⟩ : ∃ j, i - k = j + 1 := ⟨i - k - 1, by omega⟩
                  rw [hj] at e
                  cases e
              subst this
              rw [Nat.sub_self] at e
              obtain rfl := Option.some.inj e
              refine ⟨r.take m, ?_, p, rfl, by rw [hp, rv_take]⟩
              show ((List.zip ks (rs.drop n)).map fun p => p.2.take (tn p.1))[i]? = _
              rw [List.getElem?_map, zip_at ex er]
              show some (r.take (Int.toNat (m : Int))) = _
              rw [Int.toNat_natCast]
          · have s14 := s13.trans s4
            have h4 := hd.same s14
            have hlt : (us.take n).length ≤ 10000 := by rw [List.length_take]; omega
            have hla : acc.length ≤ 10000 := by rw [pk.1]; omega
            refine ⟨P, D2, _, _, rfl, rfl, s4 _ _ hP3, hdl4, szl (by omega), fun M hM => ?_⟩
            have s5 : Same H4 (upd H4 M (.lst (us.take n ++ acc))) := Same.new hM
            have h5 := hd.same (s14.trans s5)
            have hM5 : (upd H4 M (.lst (us.take n ++ acc))) M = some (.lst (us.take n ++ acc)) := upd_same
            have hMH : H M = none := s14.free hM
            have nM : M ≠ c := fun z => by
              rw [z, hd.o] at hMH
              cases hMH
            generalize upd H4 M (.lst (us.take n ++ acc)) = H5 at s5 h5 hM5
            refine ⟨_, rfl, c, _, dx, _, rfl, h5.o, T.clD, T.noWr, (by show 2 < 1000; decide), ?_⟩
            rw [put_wr]
            have lM : ∀ o, (upd H5 c o) M = some (.lst (us.take n ++ acc)) := fun o => by rw [upd_ne nM]; exact hM5
            refine ⟨_, rfl, c, _, dx, _, _, rfl, upd_same, T.clD, T.noWr, look_wr, M, _, rfl, .inl (SqL.of (lM _)), _, rfl, c, _, dx, _, rfl, upd_same, T.clD, T.noLa, (by show 2 < 1000; decide), ?_⟩
            rw [put_la, upd_upd]
            have hacc : Rows H4 acc (cutR (some ks) (rs.drop n)) := by
              refine ⟨?_, pk.2⟩
              show _ = ((List.zip ks (rs.drop n)).map fun p => p.2.take (tn p.1)).length
              rw [pk.1, List.length_map, List.length_zip]
              omega
            have hR : Rows H4 (us.take n ++ acc) (rs.take n ++ cutR (some ks) (rs.drop n)) := ((hrs.mono s14).take n).app hacc
            have eL : (us.take n ++ acc).length = rs.length := by
              rw [List.length_append, pk.1, List.length_take, hk, List.length_drop]
              omega
            have e5 : dko K dx (.ref M) (.int ((us.take n ++ acc).length : Int)) = dko K dx (.ref M) (.int (rs.length : Int)) := by rw [eL]
            have b5 : But c H (upd H5 c (dko K dx (.ref M) (.int ((us.take n ++ acc).length : Int)))) := (But.of (s14.trans s5)).put (fun xs z => by rw [hd.o] at z; cases z)
            have q' := q1 (by rw [ec, hall]) M (us.take n ++ acc) _ b5 hMH ⟨by rw [upd_same, e5], lM _⟩ (hR.tmono (TSame.trans (TSame.of s5) (TSame.ins h5.o)))
            exact q'
end
end Cl
set_option maxRecDepth 100000
set_option maxHeartbeats 4000000
/-! the law's hand and its draws -/
namespace Cl
open PySem PySem.Spec PyProof.Rows L2 RZ
/-- the hand's list -/
abbrev hd5 (a : Addr) (i z s t : Int) : List V := [.ref a, .int i, .int z, .int s, .int t]
def HandAt (H : Hp) (h a : Addr) : Prop := ∃ (cs : List Int) (i z s t : Int), H h = some (.lst (hd5 a i z s t)) ∧ H a = some (.lst (cs.map V.int)) ∧ 0 ≤ i
theorem HandAt.same {H H' : Hp} {h a : Addr} (s : Same H H') (x : HandAt H h a) : HandAt H' h a := by
  obtain ⟨cs, i, z, q, t, e1, e2, h0⟩ := x
  exact ⟨cs, i, z, q, t, s _ _ e1, s _ _ e2, h0⟩
def sp_hand (K : PySem.W.Frag) : Sp := fun vs H Q _ => ∃ x, vs = [x] ∧ ∃ (S : Addr) (cs : List Int), x = .ref S ∧ SqL K H S (cs.map V.int) ∧ cs.length ≤ 100000 ∧ ∀ h a H', H h = none → Same H H' → HandAt H' h a → Q (.ref h) H'
theorem sqL_mono {K : PySem.W.Frag} {H H' : Hp} {p : Addr} {xs : List V} (s : Same H H') (h : SqL K H p xs) : SqL K H' p xs := h.elim (fun e => .inl (e.elim (fun x => .inl (s _ _ x)) (fun ⟨o, x⟩ => .inr ⟨o, s _ _ x⟩))) .inr
def sp_draw : Sp := fun vs H Q _ => ∃ x y, vs = [x, y] ∧ ∃ (h a : Addr) (k : Nat), x = .ref h ∧ y = .int (k : Int) ∧ HandAt H h a ∧ 0 < k ∧ k ≤ 1000000 ∧ ∀ (d : Nat) H', d < k → But h H H' → HandAt H' h a → Q (.int (d : Int)) H'
theorem hd_ne {H : Hp} {h a : Addr} {cs : List Int} {i z s t : Int} (e1 : H h = some (.lst (hd5 a i z s t))) (e2 : H a = some (.lst (cs.map V.int))) : a ≠ h := fun q => by
  rw [q, e1] at e2
  injection e2 with e2
  injection e2 with e2
  cases cs with
  | nil => cases e2
  | cons c cs =>
    injection e2 with e3 _
    cases e3
theorem modB (x : Int) : -(2 ^ 64) < x % 2147483647 ∧ x % 2147483647 < 2 ^ 64 := by omega
theorem drawn {x : Int} {k : Nat} {H : Hp} {Q : VK} (k0 : 0 < k) (q : ∀ d : Nat, d < k → Q (.int (d : Int)) H) : Q (.int (x % (k : Int))) H := by
  have h1 : 0 ≤ x % (k : Int) := Int.emod_nonneg _ (by omega)
  have h2 : x % (k : Int) < (k : Int) := Int.emod_lt_of_pos _ (by omega)
  obtain ⟨d, e⟩ : ∃ d : Nat, x % (k : Int) = (d : Int) := ⟨(x % (k : Int)).toNat, by omega⟩
  rw [e]
  exact q d (by omega)
section
variable {P : Program} {w : World} {K : PySem.W.Frag} {mg : Str → Option Value} {base : Heap} {f : Addr} {fd : FuncData}
theorem ok_draw (T : Txt K mg) (F : Fun K "_law_draw" "_law_draw" s__law_draw f fd) : FnOk P w K mg base (L2.CX P w) 1 f fd p__law_draw sp_draw := by
  refine F.okX sc__law_draw (fun vs H Q E h => ?_) (fun cdv A outer s H vs Q E hr h => ?_)
  · obtain ⟨_, _, rfl, _⟩ := h
    rfl
  · obtain ⟨x, y, rfl, h, a, k, rfl, rfl, ⟨cs, i, z, st, t, e1, e2, i0⟩, k0, km, q⟩ := h
    refine ⟨_, (C8.pss_cut (ps_if (PW.pt (pw_and (pt_cmpR op_eq (pe_ix ix_list (pv 0) pe_int (fun _ _ => rfl)) pe_int (nomark _)) (pw_and1 (pt_cmpR op_lt (pe_ix ix_list (pv 0) pe_int (fun _ _ => rfl)) (pe_callB call_len_seq (by rfl) T.b_len (by decide +kernel) (pa_cons (pe_ix ix_list (pv 0) pe_int (fun _ _ => rfl)) pa_nil)) (nomark _))))) (pss_cons (ps_set (i := 2) sc__law_draw.nd rfl (Or.inl rfl) (pe_ix ix_list (pe_ix ix_list (pv 0) pe_int (fun _ _ => rfl)) (pe_ix ix_list (pv 0) pe_int (fun _ _ => rfl)) (fun _ _ => rfl)))
 (pss_cons (ps_asg (pe_op op_add (pe_ix ix_list (pv 0) pe_int (fun _ _ => rfl)) pe_int) (pg_sub (pv 0) pe_int set_list))
 (pss_cons (ps_asg (pe_op op_mod (pe_callTy call_int1 (by rfl) T.b_int (by decide +kernel) (pa_cons (pe_op op_add (pe_op op_add (pe_op op_mul (pe_ix ix_list (pv 0) pe_int (fun _ _ => rfl)) pe_int) (pe_op op_mul (pv 2) pe_int)) pe_int) pa_nil)) pe_int) (pg_sub (pv 0) pe_int set_list))
 (pss_one (ps_if (pt_cmpR op_ge (pv 2) (pe_op op_pow pe_int pe_int) (nomark _)) (pss_one (ps_asg (pv 2) (pg_sub (pv 0) pe_int set_list))) pss_nil))))) pss_nil)
 (pss_cons (ps_if (pt_cmpR op_gt (pe_ix ix_list (pv 0) pe_int (fun _ _ => rfl)) pe_int (nomark _)) (pss_cons (ps_set (i := 3) sc__law_draw.nd rfl (Or.inl rfl) (pe_op op_mod (pe_callTy call_int1 (by rfl) T.b_int (by decide +kernel) (pa_cons (pe_ix ix_list (pv 0) pe_int (fun _ _ => rfl)) pa_nil)) (pv 1)))
 (pss_cons (ps_asg (pe_op op_fdiv (pe_ix ix_list (pv 0) pe_int (fun _ _ => rfl)) (pv 1)) (pg_sub (pv 0) pe_int set_list))
 (pss_one (ps_ret (pv 3))))) pss_nil)
 (pss_cons (ps_asg (pe_op op_add (pe_ix ix_list (pv 0) pe_int (fun _ _ => rfl)) pe_int) (pg_sub (pv 0) pe_int set_list))
 (pss_cons (ps_set (i := 4) sc__law_draw.nd rfl (Or.inl rfl) (pe_op op_mod (pe_callTy call_int1 (by rfl) T.b_int (by decide +kernel) (pa_cons (pe_op op_mul (pe_callTy call_int1 (by rfl) T.b_int (by decide +kernel) (pa_cons (pe_op op_add (pe_ix ix_list (pv 0) pe_int (fun _ _ => rfl)) (pe_op op_mul pe_int (pe_ix ix_list (pv 0) pe_int (fun _ _ => rfl)))) pa_nil)) pe_int) pa_nil)) pe_int))
 (pss_cons (ps_set (i := 4) sc__law_draw.nd rfl (Or.inl rfl) (pe_op op_mod (pe_callTy call_int1 (by rfl) T.b_int (by decide +kernel) (pa_cons (pe_op op_mul (pv 4) (pe_op op_add (pe_op op_fdiv (pv 4) pe_int) pe_int)) pa_nil)) pe_int))
 (pss_cons (ps_set (i := 4) sc__law_draw.nd rfl (Or.inl rfl) (pe_op op_mod (pe_callTy call_int1 (by rfl) T.b_int (by decide +kernel) (pa_cons (pe_op op_mul (pv 4) (pe_op op_add (pe_op op_fdiv (pv 4) pe_int) pe_int)) pa_nil)) pe_int))
 (pss_one (ps_ret (pe_op op_mod (pe_callTy call_int1 (by rfl) T.b_int (by decide +kernel) (pa_cons (pe_op op_fdiv (pv 4) pe_int) pa_nil)) (pv 1)))))))))), ?_⟩
    have ne := hd_ne e1 e2
    refine ⟨fun σ H' => ∃ (v2 : Option V) (i z st : Int), σ = [some (.ref h), some (.int (k : Int)), v2, none, none] ∧ But h H H' ∧ H' h = some (.lst (hd5 a i z st t)) ∧ H' a = some (.lst (cs.map V.int)) ∧ 0 ≤ i, ?_, ?_⟩
    · have pass : ∃ (v2 : Option V) (i z st : Int), [some (V.ref h), some (.int (k : Int)), none, none, none] = [some (.ref h), some (.int (k : Int)), v2, none, none] ∧ But h H H ∧ H h = some (.lst (hd5 a i z st t)) ∧ H a = some (.lst (cs.map V.int)) ∧ 0 ≤ i := ⟨none, i, z, st, rfl, But.refl _ _, e1, e2, i0⟩
      refine ⟨_, rfl, h, _, 2, _, rfl, rfl, SqL.of e1, rfl, rfl, _, rfl, ?_⟩
      show if decide (V.int z = V.int 0) = true then _ else _
      by_cases hz : z = 0
      rotate_left
      · rw [decide_eq_false (by intro q; injection q with q; exact hz q)]
        exact iteF pass
      rw [decide_eq_true (by rw [hz])]
      refine iteT ⟨_, rfl, h, _, 1, _, rfl, rfl, SqL.of e1, rfl, _, rfl, h, _, 0, _, rfl, rfl, SqL.of e1, rfl, a, _, rfl, .inl (SqL.of e2), _, _, rfl, rfl, _, rfl, ?_⟩
      rw [List.length_map]
      show if decide (i < (cs.length : Int)) = true then _ else _
      by_cases hi : i < (cs.length : Int)
      rotate_left
      · rw [decide_eq_false hi]
        exact iteF pass
      rw [decide_eq_true hi]
      obtain ⟨n, rfl⟩ : ∃ n : Nat, i = (n : Int) := ⟨i.toNat, by omega⟩
      have hn : n < cs.length := by omega
      have hc : cs[n]? = some cs[n] := List.getElem?_eq_getElem hn
      generalize cs[n] = c at hc
      have hc2 : atI (cs.map V.int) (n : Int) = some (.int c) := atI_nat (by rw [List.getElem?_map, hc]; rfl)
      refine iteT ⟨_, rfl, h, _, 0, _, rfl, rfl, SqL.of e1, rfl, _, rfl, h, _, 1, _, rfl, rfl, SqL.of e1, rfl, a, _, _, _, rfl, rfl, SqL.of e2, hc2, ?_⟩
      refine ⟨_, rfl, h, _, 1, _, rfl, rfl, SqL.of e1, rfl, _, _, rfl, rfl, _, rfl, h, _, _, _, rfl, rfl, e1, rfl, ?_⟩
      have nt : ∀ xs, H h ≠ some (.tup xs) := fun xs z => by rw [e1] at z; cases z
      have b1 : But h H (upd H h (.lst (hd5 a ((n : Int) + 1) z st t))) := (But.refl _ _).put nt
      have f1 : (upd H h (.lst (hd5 a ((n : Int) + 1) z st t))) h = some (.lst (hd5 a ((n : Int) + 1) z st t)) := upd_same
      have g1 : (upd H h (.lst (hd5 a ((n : Int) + 1) z st t))) a = some (.lst (cs.map V.int)) := by rw [upd_ne ne]; exact e2
      show tSeq _ _ _ _ (upd H h (.lst (hd5 a ((n : Int) + 1) z st t)))
      generalize upd H h (.lst (hd5 a ((n : Int) + 1) z st t)) = H1 at b1 f1 g1
      refine ⟨_, rfl, h, _, 3, _, rfl, rfl, SqL.of f1, rfl, _, _, rfl, rfl, .inr (by decide), _, rfl, _, _, rfl, rfl, .inr (by decide), _, _, rfl, rfl, _, _, rfl, rfl, .inl ⟨_, rfl, _, _, rfl, rfl, (by show (0 : Int) < 2147483629; decide), _, rfl, h, _, _, _, rfl, rfl, f1, rfl, ?_⟩⟩
      have b2 : ∀ st2, But h H (upd H1 h (.lst (hd5 a ((n : Int) + 1) z st2 t))) := fun _ => b1.put nt
      have f2 : ∀ st2, (upd H1 h (.lst (hd5 a ((n : Int) + 1) z st2 t))) h = some (.lst (hd5 a ((n : Int) + 1) z st2 t)) := fun _ => upd_same
      have g2 : ∀ st2, (upd H1 h (.lst (hd5 a ((n : Int) + 1) z st2 t))) a = some (.lst (cs.map V.int)) := fun _ => by rw [upd_ne ne]; exact g1
      refine ⟨_, rfl, _, _, rfl, rfl, ⟨by decide, by decide, by decide⟩, _, _, rfl, rfl, _, rfl, ?_⟩
      show if decide ((10 : Int) ^ (18 : Int).toNat ≤ c) = true then _ else _
      generalize decide ((10 : Int) ^ (18 : Int).toNat ≤ c) = bb
      cases bb with
      | false => exact iteF ⟨_, (n : Int) + 1, z, _, rfl, b2 _, f2 _, g2 _, by omega⟩
      | true =>
        refine iteT ⟨_, rfl, _, rfl, h, _, _, _, rfl, rfl, f2 _, rfl, ?_⟩
        exact ⟨_, (n : Int) + 1, c, _, rfl, (b2 _).put nt, upd_same, by rw [upd_ne ne]; exact g2 _, by omega⟩
    · rintro σ H' ⟨v2, i, z, st, rfl, b, f1, g1, i0'⟩
      have nt : ∀ xs, H h ≠ some (.tup xs) := fun xs z => by rw [e1] at z; cases z
      refine ⟨_, rfl, h, _, 2, _, rfl, rfl, SqL.of f1, rfl, _, _, rfl, rfl, _, rfl, ?_⟩
      show if decide ((0 : Int) < z) = true then _ else _
      by_cases hz : 0 < z
      · rw [decide_eq_true hz]
        refine iteT ⟨_, rfl, h, _, 2, _, rfl, rfl, SqL.of f1, rfl, .inl ⟨_, rfl, _, rfl, _, _, rfl, rfl, (by show (0 : Int) < (k : Int); omega), ?_⟩⟩
        refine ⟨_, rfl, h, _, 2, _, rfl, rfl, SqL.of f1, rfl, _, rfl, _, _, rfl, rfl, ⟨(by show (0 : Int) < (k : Int); omega), (by show (k : Int) < 1073741824; omega)⟩, _, rfl, h, _, _, _, rfl, rfl, f1, rfl, _, rfl, ?_⟩
        obtain ⟨zn, rfl⟩ : ∃ m : Nat, z = (m : Int) := ⟨z.toNat, by omega⟩
        show Q (.int ((zn : Int) % (k : Int))) _
        rw [show (zn : Int) % (k : Int) = ((zn % k : Nat) : Int) from (Int.natCast_emod zn k).symm]
        exact q _ _ (Nat.mod_lt _ k0) (b.put nt) ⟨cs, i, _, st, t, upd_same, by rw [upd_ne ne]; exact g1, i0'⟩
      rw [decide_eq_false hz]
      refine iteF ⟨_, rfl, h, _, 4, _, rfl, rfl, SqL.of f1, rfl, _, _, rfl, rfl, _, rfl, h, _, _, _, rfl, rfl, f1, rfl, ?_⟩
      have b2 : But h H (upd H' h (.lst (hd5 a i z st (t + 1)))) := b.put nt
      have f2 : (upd H' h (.lst (hd5 a i z st (t + 1)))) h = some (.lst (hd5 a i z st (t + 1))) := upd_same
      have g2 : (upd H' h (.lst (hd5 a i z st (t + 1)))) a = some (.lst (cs.map V.int)) := by rw [upd_ne ne]; exact g1
      refine ⟨_, rfl, h, _, 3, _, rfl, rfl, SqL.of f2, rfl, _, rfl, h, _, 4, _, rfl, rfl, SqL.of f2, rfl, _, _, rfl, rfl, .inl (by decide), _, _, rfl, rfl, .inl ⟨_, rfl, _, _, rfl, rfl, .inr (by decide), .inl ⟨_, rfl, _, _, rfl, rfl, (by show (0 : Int) < _; decide), ?_⟩⟩⟩
      refine ⟨_, rfl, _, rfl, _, _, rfl, rfl, ⟨by decide, by decide⟩, _, _, rfl, rfl, _, _, rfl, rfl, .inl (modB _), .inl ⟨_, rfl, _, _, rfl, rfl, (by show (0 : Int) < _; decide), ?_⟩⟩
      refine ⟨_, rfl, _, rfl, _, _, rfl, rfl, ⟨by decide, by decide⟩, _, _, rfl, rfl, _, _, rfl, rfl, .inl (modB _), .inl ⟨_, rfl, _, _, rfl, rfl, (by show (0 : Int) < _; decide), ?_⟩⟩
      refine ⟨_, rfl, _, _, rfl, rfl, ⟨by decide, by decide⟩, .inl ⟨_, rfl, _, rfl, _, _, rfl, rfl, (by show (0 : Int) < (k : Int); omega), drawn k0 fun d hd => ?_⟩⟩
      exact q d _ hd b2 ⟨cs, i, z, st, t + 1, f2, g2, i0'⟩
theorem ok_hand (T : Txt K mg) (F : Fun K "_law_hand" "_law_hand" s__law_hand f fd) : FnOk P w K mg base (L2.CX P w) 1 f fd p__law_hand (sp_hand K) := by
  refine F.okX sc__law_hand (fun vs H Q E h => ?_) (fun cdv A outer s H vs Q E hr h => ?_)
  · obtain ⟨_, rfl, _⟩ := h
    rfl
  · obtain ⟨x, rfl, S, cs, rfl, hS, hz, q⟩ := h
    refine ⟨_, (pss_one (ps_ret (pe_lst (pa_cons (pe_lc (own := [("_law_cell", 1)]) (g := gName 1) rfl sc__law_hand.nd (pi_list (pe_slice sl_list (pv 0) po_none (po_some pe_int))) (blkOk_by (N := N__law_hand) (sc := defScope s__law_hand) (by decide +kernel)) (fun _ _ _ _ _ => (pg_name (i := 1) sc__law_hand.nd rfl (Or.inl rfl))) (fun _ _ _ _ _ => pts_nil) (fun _ _ _ _ _ => (pe_callTy (T := "int") call_int1 (by rfl) T.b_int (by decide +kernel) (pa_cons (pv 1) pa_nil)))) (pa_cons pe_int (pa_cons pe_int (pa_cons (pe_op op_add pe_int (pe_callB call_len_seq (by rfl) T.b_len (by decide +kernel) (pa_cons (pe_slice sl_list (pv 0) po_none (po_some pe_int)) pa_nil))) (pa_cons pe_int pa_nil)))))))), ?_⟩
    have ec : cutV (cs.map V.int) none (some 63) = (cs.take 63).map V.int := by
      have : cutV (cs.map V.int) none (some 63) = (cs.map V.int).take 63 := cut_lo
      rw [this, List.map_take]
    refine ⟨_, rfl, _, rfl, S, _, rfl, hS, fun W hW => ?_⟩
    rw [ec]
    have s1 : Same H (upd H W (.lst ((cs.take 63).map V.int))) := Same.new hW
    have hW1 : (upd H W (.lst ((cs.take 63).map V.int))) W = some (.lst ((cs.take 63).map V.int)) := upd_same
    generalize upd H W (.lst ((cs.take 63).map V.int)) = H1 at s1 hW1
    refine ⟨W, rfl, ⟨_, SqL.of hW1⟩, lc1 walk_list ((cs.take 63).map V.int) rfl (by rw [List.length_map, List.length_take]; omega) (fun H' s => SqL.of (s _ _ hW1)) (fun i x H2 H3 y Q' hi s2 yv hy => ?_) fun D H2 hD s2 hd => ?_⟩
    · obtain ⟨rfl, hx⟩ := yv
      rw [hx] at hy
      obtain rfl := Option.some.inj hy
      rw [List.getElem?_map] at hx
      cases hc : (cs.take 63)[i]? with
      | none => rw [hc] at hx; cases hx
      | some c =>
        rw [hc] at hx
        obtain rfl := Option.some.inj hx
        exact ⟨Same.refl _, fun q' => ⟨_, rfl, .inl ⟨_, rfl, q' _ (Same.refl _)⟩⟩⟩
    · refine ⟨_, rfl, _, rfl, S, _, rfl, sqL_mono (s1.trans s2) hS, fun W2 hW2 => ⟨W2, _, rfl, .inl (SqL.of upd_same), _, _, rfl, rfl, szl (by show 5 ≤ 1000000; decide), fun h hh => ?_⟩⟩
      have s3 := (s1.trans s2).trans (Same.new (o := .lst (cutV (cs.map V.int) none (some 63))) hW2)
      have s4 := s3.trans (Same.new (o := .lst [.ref D, .int 0, .int 0, .int (1 + ((cutV (cs.map V.int) none (some 63)).length : Int)), .int 0]) hh)
      exact q h D _ (s3.free hh) s4 ⟨cs.take 63, 0, 0, _, 0, upd_same, Same.new hh _ _ (Same.new hW2 _ _ hd), Int.le_refl 0⟩
end
end Cl
set_option maxRecDepth 100000
set_option maxHeartbeats 4000000
/-! data that is one and the same; nested data -/
namespace Cl
open PySem PySem.Spec PyProof.Rows L2 RZ
def kd : D → String
  | .non => "NoneType"
  | .bl _ => "bool"
  | .int _ => "int"
  | .str _ => "str"
  | .tup _ => "tuple"
  | .lst _ => "list"
theorem Is.kd {H : Hp} : ∀ {d : D} {v : V}, Is H v d → Kd H v (kd d)
  | .non, _, h => by
    obtain rfl := (show _ = V.non from h)
    exact .non
  | .bl b, _, h => by
    obtain rfl := (show _ = V.bl b from h)
    exact .bl b
  | .int i, _, h => by
    obtain rfl := (show _ = V.int i from h)
    exact .int i
  | .str s, _, h => by
    obtain rfl := (show _ = V.str ⟨s.toArray⟩ from h)
    exact .str _
  | .tup xs, v, h => by
    obtain ⟨a, vs, rfl, ha, hl⟩ := h
    exact .tup ha
  | .lst xs, v, h => by
    obtain ⟨a, vs, rfl, ha, hl⟩ := h
    exact .lst ha
/-- what is no list, no tuple -/
def atom : D → Bool
  | .tup _ => false
  | .lst _ => false
  | _ => true
theorem Is.one {H H' : Hp} {d : D} {x y : V} (ha : atom d = true) (hx : Is H x d) (hy : Is H' y d) : x = y ∧ scal x y = true := by
  cases d with
  | non =>
    obtain rfl := (show _ = V.non from hx)
    obtain rfl := (show _ = V.non from hy)
    exact ⟨rfl, rfl⟩
  | bl b =>
    obtain rfl := (show _ = V.bl b from hx)
    obtain rfl := (show _ = V.bl b from hy)
    exact ⟨rfl, rfl⟩
  | int b =>
    obtain rfl := (show _ = V.int b from hx)
    obtain rfl := (show _ = V.int b from hy)
    exact ⟨rfl, rfl⟩
  | str b =>
    obtain rfl := (show _ = V.str ⟨b.toArray⟩ from hx)
    obtain rfl := (show _ = V.str ⟨b.toArray⟩ from hy)
    exact ⟨rfl, rfl⟩
  | tup _ => cases ha
  | lst _ => cases ha
def sp_same (n : Nat) : Sp := fun vs H Q _ => ∃ x y, vs = [x, y] ∧ ∃ d : D, Is H x d ∧ Is H y d ∧ dep d ≤ n ∧ wid 100000 d = true ∧ ∀ H', Same H H' → Q (.bl true) H'
section
variable {P : Program} {w : World} {K : PySem.W.Frag} {mg : Str → Option Value} {base : Heap} {f : Addr} {fd : FuncData}
theorem seqs (H : Hp) {x : V} {d : D} (hx : Is H x d) (ha : atom d = false) : ∃ (a : Addr) (xs : List V) (ds : List D), x = .ref a ∧ IsL H xs ds ∧ ((d = .tup ds ∧ H a = some (.tup xs)) ∨ (d = .lst ds ∧ H a = some (.lst xs))) := by
  cases d with
  | tup ds =>
    obtain ⟨a, vs, rfl, ha, hl⟩ := hx
    exact ⟨a, vs, ds, rfl, hl, .inl ⟨rfl, ha⟩⟩
  | lst ds =>
    obtain ⟨a, vs, rfl, ha, hl⟩ := hx
    exact ⟨a, vs, ds, rfl, hl, .inr ⟨rfl, ha⟩⟩
  | _ => cases ha
theorem ok_same1 (T : Txt K mg) (n : Nat) {k : Nat} {spR : Sp} (c__law_is : Kn P w K mg base "_law_is" k p__law_is spR) (hk__law_is : k ≤ n) (hR : ∀ m, n = m + 1 → spR = sp_same m) (F : Fun K "_law_is" "_law_is" s__law_is f fd) :
    FnOk P w K mg base (L2.CX P w) (n + 1) f fd p__law_is (sp_same n) := by
  refine F.okX sc__law_is (fun vs H Q E h => ?_) (fun cdv A outer s H vs Q E hr h => ?_)
  · obtain ⟨_, _, rfl, _⟩ := h
    rfl
  · obtain ⟨x, y, rfl, d, hx, hy, hn, hw, q⟩ := h
    refine ⟨_, (pss_cons (ps_if (pt_val (pe_callB call_isiT (by rfl) T.b_isinstance (by decide +kernel) (pa_cons (pv 1) (pa_cons (pe_tup (pa_cons (pe_bltn (by rfl) T.b_tuple (by decide +kernel) (v := .ty "tuple") rfl) (pa_cons (pe_bltn (by rfl) T.b_list (by decide +kernel) (v := .ty "list") rfl) pa_nil))) pa_nil)))) (pss_cons (ps_if (PW.pt (pw_or (pt_cmpR op_ne (pe_callB call_isi (by rfl) T.b_isinstance (by decide +kernel) (pa_cons (pv 0) (pa_cons (pe_bltn (by rfl) T.b_tuple (by decide +kernel) (v := .ty "tuple") rfl) pa_nil))) (pe_callB call_isi (by rfl) T.b_isinstance (by decide +kernel) (pa_cons (pv 1) (pa_cons (pe_bltn (by rfl) T.b_tuple (by decide +kernel) (v := .ty "tuple") rfl) pa_nil))) (nomark _)) (pw_or1 (pt_not (pt_val (pe_callB call_isiT (by rfl) T.b_isinstance (by decide +kernel) (pa_cons (pv 0) (pa_cons (pe_tup (pa_cons (pe_bltn (by rfl) T.b_tuple (by decide +kernel) (v := .ty "tuple") rfl) (pa_cons (pe_bltn (by rfl) T.b_list (by decide +kernel) (v := .ty "list") rfl) pa_nil))) pa_nil)))))))) (pss_one (ps_ret pe_bl)) pss_nil)
 (pss_one (ps_ret (pe_and (pe_cmpR op_eq (pe_callB call_len_seq (by rfl) T.b_len (by decide +kernel) (pa_cons (pv 0) pa_nil)) (pe_callB call_len_seq (by rfl) T.b_len (by decide +kernel) (pa_cons (pv 1) pa_nil)) (nomark _)) (pe_one (pe_callB (cr_all rfl) (by rfl) T.b_all (by decide +kernel) (pa_cons (pe_lc (own := [("_law_one", 2), ("_law_two", 3)]) (g := gTup K 2 (gCons (gName 2) (gCons (gName 3) gNil))) rfl sc__law_is.nd (pi_zipA (by rfl) T.b_zip (pa_cons (pv 0) (pa_cons (pv 1) pa_nil))) (blkOk_by (N := N__law_is) (sc := defScope s__law_is) (by decide +kernel)) (fun _ _ _ _ _ => (pg_tup rfl (pgs_cons (pg_name (i := 2) sc__law_is.nd rfl (Or.inl rfl)) (pgs_cons (pg_name (i := 3) sc__law_is.nd rfl (Or.inl rfl)) pgs_nil)))) (fun _ _ _ _ _ => pts_nil) (fun _ _ _ _ _ => (pc c__law_is hr (hk__law_is) passL (pa_cons (pv 2) (pa_cons (pv 3) pa_nil))))) pa_nil))))))) pss_nil)
 (pss_one (ps_ret (pe_and (pe_cmpR op_eq (pe_callB call_isi (by rfl) T.b_isinstance (by decide +kernel) (pa_cons (pv 0) (pa_cons (pe_bltn (by rfl) T.b_bool (by decide +kernel) (v := .ty "bool") rfl) pa_nil))) (pe_callB call_isi (by rfl) T.b_isinstance (by decide +kernel) (pa_cons (pv 1) (pa_cons (pe_bltn (by rfl) T.b_bool (by decide +kernel) (v := .ty "bool") rfl) pa_nil))) (nomark _)) (pe_one (pe_cmpR op_eq (pv 0) (pv 1) (nomark _))))))), ?_⟩
    have kx := hx.kd
    have ky := hy.kd
    refine ⟨_, rfl, sz2, fun t ht => ?_⟩
    have s1 : Same H (upd H t (.tup [.ty "tuple", .ty "list"])) := Same.new ht
    refine ⟨_, t, [.ty "tuple", .ty "list"], .type (kd d), [.type "tuple", .type "list"], _, rfl, upd_same, .cons (.ty _) (.cons (.ty _) .nil), (ky.mono s1).ty, ky.isSeq, _, rfl, ?_⟩
    cases ha : atom d with
    | true =>
      have e0 : (kd d == "tuple" || kd d == "list") = false := by
        cases d with
        | tup _ => cases ha
        | lst _ => cases ha
        | _ => rfl
      rw [e0]
      obtain ⟨rfl, hs⟩ := Is.one ha hx hy
      refine iteF ⟨_, rfl, _, .ty "bool", _, .type "bool", _, rfl, .ty _, (kx.mono s1).ty, kx.isBool, _, rfl, _, .ty "bool", _, .type "bool", _, rfl, .ty _, (kx.mono s1).ty, kx.isBool, rfl, _, rfl, ?_⟩
      rw [decide_eq_true rfl]
      refine iteT ⟨_, rfl, _, rfl, hs, ?_⟩
      rw [decide_eq_true rfl]
      exact q _ s1
    | false =>
      have e0 : (kd d == "tuple" || kd d == "list") = true := by
        cases d with
        | tup _ => rfl
        | lst _ => rfl
        | _ => cases ha
      rw [e0]
      refine iteT ⟨_, rfl, _, .ty "tuple", _, .type "tuple", _, rfl, .ty _, (kx.mono s1).ty, kx.isTup, _, rfl, _, .ty "tuple", _, .type "tuple", _, rfl, .ty _, (ky.mono s1).ty, ky.isTup, rfl, _, rfl, ?_⟩
      rw [decide_eq_true rfl]
      refine iteF ⟨_, rfl, sz2, fun t2 ht2 => ?_⟩
      have s2 : Same H (upd (upd H t (.tup [.ty "tuple", .ty "list"])) t2 (.tup [.ty "tuple", .ty "list"])) := s1.trans (Same.new ht2)
      refine ⟨_, t2, [.ty "tuple", .ty "list"], .type (kd d), [.type "tuple", .type "list"], _, rfl, upd_same, .cons (.ty _) (.cons (.ty _) .nil), (kx.mono s2).ty, kx.isSeq, _, rfl, ?_⟩
      rw [e0]
      refine iteF ?_
      generalize upd (upd H t (.tup [.ty "tuple", .ty "list"])) t2 (.tup [.ty "tuple", .ty "list"]) = H2 at s2
      cases d with
      | tup ds =>
        obtain ⟨a, xs, rfl, hax, hlx⟩ := hx
        obtain ⟨b, ys, rfl, hay, hly⟩ := hy
        have lx := hlx.len
        have ly := hly.len
        obtain ⟨w1, w2⟩ := Bool.and_eq_true_iff.mp (show (decide (ds.length ≤ 100000) && wids 100000 ds) = true from hw)
        have w1' := of_decide_eq_true w1
        refine ⟨_, rfl, a, _, rfl, .inr (SqT.of (s2 _ _ hax)), _, rfl, b, _, rfl, .inr (SqT.of (s2 _ _ hay)), rfl, _, rfl, ?_⟩
        rw [show xs.length = ys.length by omega, decide_eq_true rfl]
        obtain ⟨m, rfl⟩ : ∃ m, n = m + 1 := ⟨n - 1, by have : deps ds + 1 ≤ n := hn; omega⟩
        have hR' := hR m rfl
        subst hR'
        refine iteT ⟨_, rfl, _, rfl, a, b, xs, ys, rfl, .inr ⟨SqT.of (s2 _ _ hax), SqT.of (s2 _ _ hay), lc2 (walk_zipT rfl (by omega)) (by decide) (xs.map fun _ => V.bl true) (by rw [List.length_map]) (by omega) (fun H' s => ⟨SqT.of (s _ _ (s2 _ _ hax)), SqT.of (s _ _ (s2 _ _ hay))⟩) (fun k u z H3 yy Q' hk s3 ex ez ey q' => ?_) fun D H3 hD s3 hd => ?_⟩⟩
        · obtain ⟨dd, ed, hu⟩ := hlx.get ex
          obtain ⟨dd', ed', hz⟩ := hly.get ez
          rw [ed] at ed'
          obtain rfl := Option.some.inj ed'
          rw [List.getElem?_map, ex] at ey
          obtain rfl := Option.some.inj ey
          have hm := List.mem_of_getElem? ed
          exact ⟨_, rfl, _, rfl, _, _, rfl, dd, hu.mono (s2.trans s3) dd u, hz.mono (s2.trans s3) dd z, deps_mem (by have : deps ds + 1 ≤ m + 1 := hn; omega) dd hm, wids_mem w2 dd hm, q'⟩
        · refine ⟨D, xs.map fun _ => true, rfl, SqL.of (by rw [hd, all_true]), ?_⟩
          rw [all_id]
          exact q H3 (s2.trans s3)
      | lst ds =>
        obtain ⟨a, xs, rfl, hax, hlx⟩ := hx
        obtain ⟨b, ys, rfl, hay, hly⟩ := hy
        have lx := hlx.len
        have ly := hly.len
        obtain ⟨w1, w2⟩ := Bool.and_eq_true_iff.mp (show (decide (ds.length ≤ 100000) && wids 100000 ds) = true from hw)
        have w1' := of_decide_eq_true w1
        refine ⟨_, rfl, a, _, rfl, .inl (SqL.of (s2 _ _ hax)), _, rfl, b, _, rfl, .inl (SqL.of (s2 _ _ hay)), rfl, _, rfl, ?_⟩
        rw [show xs.length = ys.length by omega, decide_eq_true rfl]
        obtain ⟨m, rfl⟩ : ∃ m, n = m + 1 := ⟨n - 1, by have : deps ds + 1 ≤ n := hn; omega⟩
        have hR' := hR m rfl
        subst hR'
        refine iteT ⟨_, rfl, _, rfl, a, b, xs, ys, rfl, .inl ⟨SqL.of (s2 _ _ hax), SqL.of (s2 _ _ hay), lc2 (walk_zip rfl) (by decide) (xs.map fun _ => V.bl true) (by rw [List.length_map]; show min xs.length ys.length = xs.length; omega) (by omega) (fun H' s => ⟨SqL.of (s _ _ (s2 _ _ hax)), SqL.of (s _ _ (s2 _ _ hay))⟩) (fun k u z H3 yy Q' hk s3 ex ez ey q' => ?_) fun D H3 hD s3 hd => ?_⟩⟩
        · obtain ⟨dd, ed, hu⟩ := hlx.get ex
          obtain ⟨dd', ed', hz⟩ := hly.get ez
          rw [ed] at ed'
          obtain rfl := Option.some.inj ed'
          rw [List.getElem?_map, ex] at ey
          obtain rfl := Option.some.inj ey
          have hm := List.mem_of_getElem? ed
          exact ⟨_, rfl, _, rfl, _, _, rfl, dd, hu.mono (s2.trans s3) dd u, hz.mono (s2.trans s3) dd z, deps_mem (by have : deps ds + 1 ≤ m + 1 := hn; omega) dd hm, wids_mem w2 dd hm, q'⟩
        · refine ⟨D, xs.map fun _ => true, rfl, SqL.of (by rw [hd, all_true]), ?_⟩
          rw [all_id]
          exact q H3 (s2.trans s3)
      | _ => cases ha
theorem ok_same (T : Txt K mg) (F : Fun K "_law_is" "_law_is" s__law_is f fd) (a : At K mg "_law_is" f fd p__law_is) : ∀ n, FnOk P w K mg base (L2.CX P w) (n + 1) f fd p__law_is (sp_same n)
  | 0 => ok_same1 T 0 (Kn.of a fn_no) (by omega) (fun m h => by omega) F
  | n + 1 => ok_same1 T (n + 1) (Kn.of a (ok_same T F a n)) (by omega) (fun m h => by rw [show m = n by omega]) F
def nest (d : D) : Nat → D
  | 0 => d
  | k + 1 => .tup [nest d k]
def sp_nested : Sp := fun vs H Q _ => ∃ x y, vs = [x, y] ∧ ∃ (k : Nat) (d : D), x = .int (k : Int) ∧ k ≤ 1000 ∧ Is H y d ∧ ∀ v H', Same H H' → Is H' v (nest d k) → Q v H'
theorem ok_nested (T : Txt K mg) (F : Fun K "_law_nested" "_law_nested" s__law_nested f fd) : FnOk P w K mg base (L2.CX P w) 1 f fd p__law_nested sp_nested := by
  refine F.okX sc__law_nested (fun vs H Q E h => ?_) (fun cdv A outer s H vs Q E hr h => ?_)
  · obtain ⟨_, _, rfl, _⟩ := h
    rfl
  · obtain ⟨x, y, rfl, k, d, rfl, hk, hy, q⟩ := h
    refine ⟨_, (pss_cons (ps_set (i := 2) sc__law_nested.nd rfl (Or.inl rfl) (pv 1))
 (pss_cons (ps_for (passes_of rfl) rfl (pi_range1 (by rfl) T.b_range (pa_cons (pv 0) pa_nil)) (pg_name (i := 3) sc__law_nested.nd rfl (Or.inl rfl)) (pss_one (ps_set (i := 2) sc__law_nested.nd rfl (Or.inl rfl) (pe_tup (pa_cons (pv 2) pa_nil)))))
 (pss_one (ps_ret (pv 2))))), ?_⟩
    refine ⟨_, rfl, _, rfl, (k : Int), rfl, by omega, by omega, ?_⟩
    rw [Int.toNat_natCast]
    refine for_it walk_range (fun i σ H2 => ∃ (v : V) (v3 : Option V), σ = [some (.int (k : Int)), some y, some v, v3] ∧ Same H H2 ∧ Is H2 v (nest d i)) ⟨y, none, rfl, Same.refl _, hy⟩ (fun _ _ _ _ _ => trivial) (fun i x σ H2 H3 hi p1 yv => ?_) (fun σ H2 p1 => ?_)
    · obtain ⟨v, v3, rfl, s1, hv⟩ := p1
      obtain ⟨rfl, rfl⟩ := yv
      refine ⟨_, rfl, sz_one, fun z hz => ⟨_, _, rfl, s1.trans (Same.new hz), z, [v], rfl, upd_same, v, [], rfl, hv.mono (Same.new hz) _ v, rfl⟩⟩
    · obtain ⟨v, v3, rfl, s1, hv⟩ := p1
      exact ⟨_, rfl, q v H2 s1 hv⟩
def sp_ptold : Sp := fun vs H Q _ => ∃ x, vs = [x] ∧ ∃ r : List Nat, RowAt H x r ∧ byt r ∧ r.length ≤ 100000 ∧ ∀ p H', Same H H' → ReadAt H' p (rd r) → Q (.ref p) H'
theorem ok_ptold (T : Txt K mg) (c_parcel_of : Kn P w K mg base "parcel_of" 46 p_parcel_of (sp_parcel_of K)) (F : Fun K "_law_parcel_told" "_law_parcel_told" s__law_parcel_told f fd) : FnOk P w K mg base (L2.CX P w) 47 f fd p__law_parcel_told sp_ptold := by
  refine F.okX sc__law_parcel_told (fun vs H Q E h => ?_) (fun cdv A outer s H vs Q E hr h => ?_)
  · obtain ⟨_, rfl, _⟩ := h
    rfl
  · obtain ⟨x, rfl, r, hx, hby, hl, q⟩ := h
    refine ⟨_, (pss_one (ps_try_fst (i := 1) rfl rfl sc__law_parcel_told.nd rfl rfl (nmG T.g_BadRow) (fun W pn xe tk po => (pss_one (ps_ret (pe_tup (pa_cons pe_str (pa_cons (pcS c_parcel_of hr (by first | decide | omega) (passAt tk) (pa_cons (pv 0) pa_nil)) pa_nil)))))) (fun a oe cls d pn hz hf => (pss_one (ps_ret (pe_tup (pa_cons pe_str (pa_cons (pe_xf T.xf T.oexno hz hf (pv 1)) pa_nil)))))))), ?_⟩
    refine ⟨_, rfl, _, rfl, r, hx, hby, hl, ?_⟩
    cases e : rd r with
    | error er =>
      rw [e] at q
      intro d H2 s2 hd
      exact ⟨T.m_BB, fun a ha => ⟨_, rfl, rfl, rfl, d, _, _, rfl, hd, rfl, sz2, fun p hp => q p _ (s2.trans (Same.new hp)) upd_same⟩⟩
    | ok d =>
      rw [e] at q
      intro v H2 s2 hv
      exact ⟨sz2, fun p hp => q p _ (s2.trans (Same.new hp)) ⟨v, upd_same, hv.mono (Same.new hp) d v⟩⟩
end
end Cl
set_option maxRecDepth 100000
set_option maxHeartbeats 4000000
/-! parcels drawn -/
namespace Cl
open PySem PySem.Spec PyProof.Rows L2 RZ
theorem HandAt.ne {H : Hp} {h a : Addr} (x : HandAt H h a) : a ≠ h := by
  obtain ⟨cs, i, z, s, t, e1, e2, _⟩ := x
  exact hd_ne e1 e2
theorem HandAt.own {H H1 : Hp} {h a D : Addr} {o : HO} (x : HandAt H h a) (h1 : D ≠ h) (h2 : D ≠ a) : HandAt (upd H D o) h a := by
  obtain ⟨cs, i, z, s, t, e1, e2, h0⟩ := x
  exact ⟨cs, i, z, s, t, by rw [upd_ne (Ne.symm h1)]; exact e1, by rw [upd_ne (Ne.symm h2)]; exact e2, h0⟩
theorem HandAt.apart {H : Hp} {h a D : Addr} (x : HandAt H h a) (n : H D = none) : D ≠ h ∧ D ≠ a := by
  obtain ⟨cs, i, z, s, t, e1, e2, h0⟩ := x
  exact ⟨fun q => (by rw [q, e1] at n; cases n), fun q => (by rw [q, e2] at n; cases n)⟩
theorem But.free {a : Addr} {H H' : Hp} {b : Addr} (s : But a H H') (n : H' b = none) (ne : b ≠ a) : H b = none := by
  cases e : H b with
  | none => rfl
  | some o => rw [s.k b o e ne] at n; cases n
/-- a new list of items drawn -/
theorem lc1h {lo : Int} {n : Nat} {i : Nat} {te : TE} {σ : L2.St} {H1 : Hp} {R : Addr → Hp → Prop} {h a : Addr} (hh : HandAt H1 h a) (Pk : Nat → Hp → List V → Prop) (P0 : ∀ H, Pk 0 H []) (Pm : ∀ k H H' acc, TSame H H' → Pk k H acc → Pk k H' acc)
    (Pl : ∀ k H acc, Pk k H acc → acc.length = k) (hz : n ≤ 100000)
    (he : ∀ k H acc (Q' : VK), k < n → But h H1 H → HandAt H h a → Pk k H acc → (∀ y H4, But h H H4 → HandAt H4 h a → Pk (k + 1) H4 (acc ++ [y]) → Q' y H4) → te ((σ.set i none).set i (some (.int (lo + k)))) H Q')
    (q : ∀ D H2 acc, H1 D = none → But h H1 H2 → HandAt H2 h a → H2 D = some (.lst acc) → Pk n H2 acc → R D H2) : LcB (Itr lo n) (gName i) te [i] σ R H1 := by
  intro D hD
  obtain ⟨n1, n2⟩ := hh.apart hD
  refine lc_it walk_range (fun k H => ∃ acc, But h H1 H ∧ HandAt H h a ∧ H D = some (.lst acc) ∧ Pk k H acc) ⟨[], .of (Same.new hD), hh.same (Same.new hD), upd_same, P0 _⟩ (fun _ _ _ _ => trivial) (fun k x H H' hk p y => ?_) (fun H ⟨acc, b, x, e, p⟩ => q D H acc hD b x e p)
  obtain ⟨acc, b, x, e, p⟩ := p
  obtain ⟨rfl, rfl⟩ := y
  refine ⟨?_, ?_⟩
  · show ((σ.set i none).set i _).set i none = σ.set i none
    rw [List.set_set, List.set_set]
  · show te ((σ.set i none).set i (some (.int (lo + (k : Int))))) H' _
    refine he k H' acc _ hk b x p fun y H4 b4 x4 p4 => ⟨acc, b4.k _ _ e n1, ?_, acc ++ [y], (b.trans b4).own hD, x4.own (H1 := H1) n1 n2, upd_same, Pm _ _ _ _ (TSame.lst (b4.k _ _ e n1)) p4⟩
    rw [Pl _ _ _ p]
    exact Nat.lt_of_lt_of_le hk (Nat.le_trans hz (by decide))
theorem sms_snoc {ds : List D} {d : D} (h : sms ds = true) (hd : sm d = true) : sms (ds ++ [d]) = true := by
  induction ds with
  | nil =>
    show (sm d && true) = true
    rw [hd]
    rfl
  | cons x xs ih =>
    obtain ⟨h1, h2⟩ := Bool.and_eq_true_iff.mp (show (sm x && sms xs) = true from h)
    show (sm x && sms (xs ++ [d])) = true
    rw [h1, ih h2]
    rfl
theorem deps_snoc {ds : List D} {d : D} {n : Nat} (h : deps ds ≤ n) (hd : dep d ≤ n) : deps (ds ++ [d]) ≤ n := by
  induction ds with
  | nil =>
    show max (dep d) 0 ≤ n
    omega
  | cons x xs ih =>
    have h' : max (dep x) (deps xs) ≤ n := h
    have := ih (by omega)
    show max (dep x) (deps (xs ++ [d])) ≤ n
    omega
/-- a leaf of a drawn parcel -/
def Leaf (v : V) : Prop := ∃ d : D, (∀ H, Is H v d) ∧ vd d = true ∧ sm d = true ∧ dep d = 0 ∧ (wr d).length ≤ 22
theorem leaf_int {i : Int} (h : i.natAbs ≤ 10 ^ 19 + 1) : Leaf (.int i) := by
  refine ⟨.int i, fun _ => rfl, rfl, decide_eq_true h, rfl, ?_⟩
  have hs := small_int h
  show (if i < 0 then 4 :: figs (-1 - i).toNat else 3 :: figs i.toNat).length ≤ 22
  by_cases g : i < 0
  · rw [if_pos g]
    have := figs_len 10 _ hs.2
    rw [List.length_cons]
    omega
  · rw [if_neg g]
    have := figs_len 10 _ hs.1
    rw [List.length_cons]
    omega
theorem leaf_str {s : List Nat} (h : vstr s = true) : Leaf (.str ⟨s.toArray⟩) := by
  have hs := vstr_mem h
  refine ⟨.str s, fun _ => rfl, h, decide_eq_true hs.2.1, rfl, ?_⟩
  show (5 :: (figs s.length ++ s)).length ≤ 22
  rw [figs_small (by omega), List.length_cons, List.length_append]
  have := hs.2.1
  show 1 + s.length + 1 ≤ 22
  omega
theorem leaf_S {x : Str} (h : vstr x.cps.toList = true) : Leaf (.str x) := by
  have := leaf_str h
  rw [Array.toArray_toList] at this
  exact this
theorem lf_cons {v : V} {xs : List V} (h : Leaf v) (t : ∀ u ∈ xs, Leaf u) : ∀ u ∈ v :: xs, Leaf u := fun u hu => by
  rcases List.mem_cons.mp hu with e | e
  · rw [e]; exact h
  · exact t u e
theorem lf_nil : ∀ u ∈ ([] : List V), Leaf u := fun u hu => by cases hu
theorem leaf_non : Leaf .non := ⟨.non, fun _ => rfl, rfl, rfl, rfl, by decide⟩
theorem leaf_bl (b : Bool) : Leaf (.bl b) := ⟨.bl b, fun _ => rfl, rfl, rfl, rfl, by cases b <;> decide⟩
abbrev WL (n : Nat) : Nat := 22 * 5 ^ n
def DrawnP (H : Hp) (v : V) (n : Nat) : Prop := ∃ d, Is H v d ∧ vd d = true ∧ sm d = true ∧ dep d ≤ n ∧ (wr d).length ≤ WL n
def sp_parc (n : Nat) : Sp := fun vs H Q _ => ∃ x y, vs = [x, y] ∧ ∃ (h a : Addr), x = .ref h ∧ y = .int (n : Int) ∧ HandAt H h a ∧ ∀ v H', But h H H' → HandAt H' h a → DrawnP H' v n → Q v H'
theorem Leaf.drawn {v : V} (l : Leaf v) (H : Hp) (n : Nat) : DrawnP H v n := by
  obtain ⟨d, h1, h2, h3, h4, h5⟩ := l
  refine ⟨d, h1 H, h2, h3, by omega, Nat.le_trans h5 ?_⟩
  have : 1 ≤ 5 ^ n := Nat.one_le_pow _ _ (by decide)
  show 22 ≤ 22 * 5 ^ n
  omega
/-- what is drawn from a list of leaves -/
theorem pick {K : PySem.W.Frag} {H : Hp} {L : Addr} {xs : List V} {d : Nat} {Q : VK} (hL : H L = some (.lst xs)) (hd : d < xs.length) (hp : ∀ v ∈ xs, Q v H) : rIxL K (.ref L) (.int (d : Int)) H Q :=
  ⟨L, xs, (d : Int), xs[d], rfl, rfl, SqL.of hL, atI_nat (List.getElem?_eq_getElem hd), hp _ (List.getElem_mem hd)⟩
section
variable {P : Program} {w : World} {K : PySem.W.Frag} {mg : Str → Option Value} {base : Heap} {f : Addr} {fd : FuncData}
theorem ok_parc1 (T : Txt K mg) (n : Nat) (h10 : n ≤ 10) {k : Nat} {spR : Sp} (c__law_draw : Kn P w K mg base "_law_draw" 1 p__law_draw sp_draw) (c__law_parcel : Kn P w K mg base "_law_parcel" k p__law_parcel spR) (hk__law_parcel : k ≤ n + 1) (hR : ∀ m, n = m + 1 → spR = sp_parc m)
    (F : Fun K "_law_parcel" "_law_parcel" s__law_parcel f fd) : FnOk P w K mg base (L2.CX P w) (n + 2) f fd p__law_parcel (sp_parc n) := by
  refine F.okX sc__law_parcel (fun vs H Q E h => ?_) (fun cdv A outer s H vs Q E hr h => ?_)
  · obtain ⟨_, _, rfl, _⟩ := h
    rfl
  · obtain ⟨x, y, rfl, h, a, rfl, rfl, hh, q⟩ := h
    refine ⟨_, (pss_cons (ps_set (i := 2) sc__law_parcel.nd rfl (Or.inl rfl) (pc c__law_draw hr (by first | decide | omega) passL (pa_cons (pv 0) (pa_cons pe_int pa_nil))))
 (C8.pss_cut (ps_if (PW.pt (pw_and (pt_cmpR op_lt (pv 2) pe_int (nomark _)) (pw_and1 (pt_cmpR op_gt (pv 1) pe_int (nomark _))))) (pss_one (ps_ret (pe_callTy call_tuple_of (by rfl) T.b_tuple (by decide +kernel) (pa_cons (pe_lc (own := [("_law_turn", 3)]) (g := gName 3) rfl sc__law_parcel.nd (pi_range1 (by rfl) T.b_range (pa_cons (pc c__law_draw hr (by first | decide | omega) passL (pa_cons (pv 0) (pa_cons pe_int pa_nil))) pa_nil)) (blkOk_by (N := N__law_parcel) (sc := defScope s__law_parcel) (by decide +kernel)) (fun _ _ _ _ _ => (pg_name (i := 3) sc__law_parcel.nd rfl (Or.inl rfl))) (fun _ _ _ _ _ => pts_nil) (fun _ _ _ _ _ => (pc c__law_parcel hr (hk__law_parcel) passL (pa_cons (pv 0) (pa_cons (pe_op op_sub (pv 1) pe_int) pa_nil))))) pa_nil)))) pss_nil)
 (pss_cons (ps_if (pt_cmpR op_lt (pv 2) pe_int (nomark _)) (pss_one (ps_ret (pe_ix ix_list (pe_lst (pa_cons pe_int (pa_cons pe_int (pa_cons pe_int (pa_cons pe_int (pa_cons pe_int (pa_cons pe_int (pa_cons (pe_un un_neg pe_int) (pa_cons (pe_un un_neg pe_int) (pa_cons (pe_un un_neg pe_int) (pa_cons (pe_op op_pow pe_int pe_int) (pa_cons (pe_op op_sub pe_int (pe_op op_pow pe_int pe_int)) (pa_cons pe_int pa_nil))))))))))))) (pc c__law_draw hr (by first | decide | omega) passL (pa_cons (pv 0) (pa_cons pe_int pa_nil))) (fun _ _ => rfl)))) pss_nil)
 (pss_cons (ps_if (pt_cmpR op_lt (pv 2) pe_int (nomark _)) (pss_one (ps_ret (pe_ix ix_list (pe_lst (pa_cons pe_str (pa_cons pe_str (pa_cons pe_str (pa_cons pe_str (pa_cons pe_str (pa_cons (pe_op op_mulS pe_str pe_int) (pa_cons pe_str (pa_cons pe_str pa_nil))))))))) (pc c__law_draw hr (by first | decide | omega) passL (pa_cons (pv 0) (pa_cons pe_int pa_nil))) (fun _ _ => rfl)))) pss_nil)
 (pss_one (ps_ret (pe_ix ix_list (pe_lst (pa_cons pe_non (pa_cons pe_bl (pa_cons pe_bl pa_nil)))) (pc c__law_draw hr (by first | decide | omega) passL (pa_cons (pv 0) (pa_cons pe_int pa_nil))) (fun _ _ => rfl)))))))), ?_⟩
    refine ⟨_, rfl, _, _, rfl, h, a, 9, rfl, rfl, hh, by decide, by decide, fun kind H1 hk b1 h1 => ?_⟩
    have leaves : ∀ {xs : List V} {H' : Hp} {L : Addr} {d : Nat}, H' L = some (.lst xs) → d < xs.length → (∀ v ∈ xs, Leaf v) → But h H H' → HandAt H' h a → rIxL K (.ref L) (.int (d : Int)) H' Q :=
      fun hL hd hp b x => pick hL hd fun v hv => q v _ b x ((hp v hv).drawn _ n)
    refine ⟨fun σ H' => σ = [some (.ref h), some (.int (n : Int)), some (.int (kind : Int)), none] ∧ H' = H1, ?_, ?_⟩
    · refine ⟨_, rfl, _, _, rfl, rfl, _, rfl, ?_⟩
      show if decide ((kind : Int) < 3) = true then _ else _
      by_cases k3 : kind < 3
      rotate_left
      · rw [decide_eq_false (by omega)]
        exact iteF ⟨rfl, rfl⟩
      rw [decide_eq_true (by omega)]
      refine iteT ⟨_, rfl, _, _, rfl, rfl, _, rfl, ?_⟩
      show if decide ((0 : Int) < (n : Int)) = true then _ else _
      cases n with
      | zero => exact iteF ⟨rfl, rfl⟩
      | succ n =>
        have hR' := hR n rfl
        subst hR'
        rw [decide_eq_true (by omega)]
        refine iteT ⟨_, rfl, _, _, rfl, h, a, 5, rfl, rfl, h1, by decide, by decide, fun m H2 hm b2 h2 => ?_⟩
        refine ⟨(m : Int), rfl, by omega, by omega, ?_⟩
        rw [Int.toNat_natCast]
        refine lc1h h2 (fun k H acc => acc.length = k ∧ ∃ ds, IsL H acc ds ∧ vds ds = true ∧ sms ds = true ∧ deps ds ≤ n ∧ (wrs ds).length ≤ k * WL n) (fun H => ⟨rfl, [], rfl, rfl, rfl, Nat.zero_le _, Nat.zero_le _⟩)
          (fun k H H' acc t ⟨l, ds, x1, x2, x3⟩ => ⟨l, ds, x1.tmono t ds acc x2, x2, x3⟩) (fun k H acc p => p.1) (by omega) (fun k H3 acc Q' hk3 b3 h3 pk q' => ?_) (fun D H3 acc hD b3 h3 hd pk => ?_)
        · obtain ⟨l, ds, x1, x2, x3, x4, x5⟩ := pk
          refine ⟨_, rfl, _, rfl, _, _, rfl, rfl, _, _, rfl, h, a, rfl, pred_int n, h3, fun v H4 b4 h4 dr => q' v H4 b4 h4 ?_⟩
          obtain ⟨d, y1, y2, y3, y4, y5⟩ := dr
          refine ⟨by rw [List.length_append, l]; rfl, ds ++ [d], (x1.tmono b4.t ds acc x2).snoc y1, flats_snoc x2 y2, sms_snoc x3 y3, deps_snoc x4 y4, ?_⟩
          rw [wrs_app, List.length_append]
          show (wrs ds).length + (wr d ++ []).length ≤ (k + 1) * WL n
          rw [List.append_nil, Nat.succ_mul]
          omega
        · obtain ⟨l, ds, x1, x2, x3, x4, x5⟩ := pk
          have ld := x1.len
          refine ⟨D, _, rfl, .inl ⟨SqL.of hd, fun z hz => ?_⟩⟩
          have s4 := Same.new (o := .tup acc) hz
          refine q _ _ ((b1.trans (b2.trans b3)).trans (.of s4)) (h3.same s4) ⟨.tup ds, ⟨z, acc, rfl, upd_same, x1.mono s4 ds acc⟩, x2, ?_, ?_, ?_⟩
          · show (decide (ds.length ≤ 100000) && sms ds) = true
            rw [decide_eq_true (by omega), x3]
            rfl
          · show deps ds + 1 ≤ n + 1
            omega
          · show (6 :: (figs ds.length ++ wrs ds)).length ≤ 22 * 5 ^ (n + 1)
            rw [figs_small (by omega), List.length_cons, List.length_append]
            have h5 : m * WL n ≤ 4 * WL n := Nat.mul_le_mul_right _ (by omega)
            have h1 : 1 ≤ 5 ^ n := Nat.one_le_pow _ _ (by decide)
            show 1 + (wrs ds).length + 1 ≤ 22 * 5 ^ (n + 1)
            rw [Nat.pow_succ]
            show 1 + (wrs ds).length + 1 ≤ 22 * (5 ^ n * 5)
            have : WL n = 22 * 5 ^ n := rfl
            omega
    · rintro σ H' ⟨rfl, rfl⟩
      have cut : ∀ {L : Addr} {o : HO}, H' L = none → But h H (upd H' L o) ∧ HandAt (upd H' L o) h a ∧ L ≠ h := fun hL => ⟨b1.trans (.of (Same.new hL)), h1.same (Same.new hL), (h1.apart hL).1⟩
      refine ⟨_, rfl, _, _, rfl, rfl, _, rfl, ?_⟩
      show if decide ((kind : Int) < 5) = true then _ else _
      by_cases k5 : kind < 5
      · rw [decide_eq_true (by omega)]
        refine iteT ⟨_, rfl, _, rfl, _, rfl, _, _, rfl, rfl, ⟨by decide, by decide, by decide⟩, _, _, rfl, rfl, ⟨by decide, by decide, by decide⟩, _, _, rfl, rfl, szl (by show 12 ≤ 1000000; decide), fun L hL => ?_⟩
        obtain ⟨c1, c2, c3⟩ := cut (o := .lst _) hL
        refine ⟨_, rfl, _, _, rfl, h, a, 12, rfl, rfl, c2, by decide, by decide, fun d H2 hd b2 h2 => leaves (b2.k _ _ upd_same c3) hd (lf_cons (leaf_int (by decide +kernel)) (lf_cons (leaf_int (by decide +kernel)) (lf_cons (leaf_int (by decide +kernel)) (lf_cons (leaf_int (by decide +kernel)) (lf_cons (leaf_int (by decide +kernel)) (lf_cons (leaf_int (by decide +kernel)) (lf_cons (leaf_int (by decide +kernel)) (lf_cons (leaf_int (by decide +kernel)) (lf_cons (leaf_int (by decide +kernel)) (lf_cons (leaf_int (by decide +kernel)) (lf_cons (leaf_int (by decide +kernel)) (lf_cons (leaf_int (by decide +kernel)) lf_nil)))))))))))) (c1.trans b2) h2⟩
      rw [decide_eq_false (by omega)]
      refine iteF ⟨_, rfl, _, _, rfl, rfl, _, rfl, ?_⟩
      show if decide ((kind : Int) < 7) = true then _ else _
      by_cases k7 : kind < 7
      · rw [decide_eq_true (by omega)]
        refine iteT ⟨_, _, rfl, rfl, by decide, by decide, by decide, by decide, szl (by show 8 ≤ 1000000; decide), fun L hL => ?_⟩
        obtain ⟨c1, c2, c3⟩ := cut (o := .lst _) hL
        refine ⟨_, rfl, _, _, rfl, h, a, 8, rfl, rfl, c2, by decide, by decide, fun d H2 hd b2 h2 => leaves (b2.k _ _ upd_same c3) hd (lf_cons (leaf_S (by decide +kernel)) (lf_cons (leaf_S (by decide +kernel)) (lf_cons (leaf_S (by decide +kernel)) (lf_cons (leaf_S (by decide +kernel)) (lf_cons (leaf_S (by decide +kernel)) (lf_cons (leaf_S (by decide +kernel)) (lf_cons (leaf_S (by decide +kernel)) (lf_cons (leaf_S (by decide +kernel)) lf_nil)))))))) (c1.trans b2) h2⟩
      rw [decide_eq_false (by omega)]
      refine iteF ⟨szl (by show 3 ≤ 1000000; decide), fun L hL => ?_⟩
      obtain ⟨c1, c2, c3⟩ := cut (o := .lst _) hL
      refine ⟨_, rfl, _, _, rfl, h, a, 3, rfl, rfl, c2, by decide, by decide, fun d H2 hd b2 h2 => leaves (b2.k _ _ upd_same c3) hd (lf_cons leaf_non (lf_cons (leaf_bl _) (lf_cons (leaf_bl _) lf_nil))) (c1.trans b2) h2⟩
theorem ok_parc (T : Txt K mg) (c__law_draw : Kn P w K mg base "_law_draw" 1 p__law_draw sp_draw) (F : Fun K "_law_parcel" "_law_parcel" s__law_parcel f fd) (a : At K mg "_law_parcel" f fd p__law_parcel) : ∀ n, n ≤ 10 → FnOk P w K mg base (L2.CX P w) (n + 2) f fd p__law_parcel (sp_parc n)
  | 0, h => ok_parc1 T 0 h c__law_draw (Kn.of a fn_no) (by omega) (fun m h => by omega) F
  | n + 1, h => ok_parc1 T (n + 1) h c__law_draw (Kn.of a (ok_parc T c__law_draw F a n (by omega))) (by omega) (fun m h => by rw [show m = n by omega]) F
end
end Cl
set_option maxRecDepth 100000
set_option maxHeartbeats 4000000
/-! a row bent -/
namespace Cl
open PySem PySem.Spec PyProof.Rows L2 RZ
def BentTo (m : Nat) (H : Hp) (v : V) : Prop := ∃ r, RowAt H v r ∧ byt r ∧ r.length ≤ m
theorem BentTo.mono {m : Nat} {H H' : Hp} {v : V} (s : TSame H H') (b : BentTo m H v) : BentTo m H' v := by
  obtain ⟨r, h1, h2⟩ := b
  exact ⟨r, h1.mono s, h2⟩
def sp_bent : Sp := fun vs H Q _ => ∃ x y, vs = [x, y] ∧ ∃ (h a : Addr) (r : List Nat), x = .ref h ∧ HandAt H h a ∧ RowAt H y r ∧ byt r ∧ r.length ≤ 90000 ∧ ∀ v H', But h H H' → HandAt H' h a → BentTo (r.length + 1) H' v → Q v H'
def ByteV (v : V) : Prop := ∃ b : Nat, v = .int (b : Int) ∧ b < 256
theorem bv (b : Nat) (h : b < 256) : ByteV (.int (b : Int)) := ⟨b, rfl, h⟩
theorem bv_cons {v : V} {xs : List V} (h : ByteV v) (t : ∀ u ∈ xs, ByteV u) : ∀ u ∈ v :: xs, ByteV u := fun u hu => by
  rcases List.mem_cons.mp hu with e | e
  · rw [e]; exact h
  · exact t u e
theorem byt_drop {r : List Nat} (h : byt r) (n : Nat) : byt (r.drop n) := fun b hb => h b (List.mem_of_mem_drop hb)
theorem byt_one {b : Nat} (h : b < 256) : byt [b] := fun x hx => by
  rcases List.mem_singleton.mp hx with rfl
  exact h
section
variable {P : Program} {w : World} {K : PySem.W.Frag} {mg : Str → Option Value} {base : Heap} {f : Addr} {fd : FuncData}
theorem ok_bent (T : Txt K mg) (c__law_draw : Kn P w K mg base "_law_draw" 1 p__law_draw sp_draw) (F : Fun K "_law_bent" "_law_bent" s__law_bent f fd) : FnOk P w K mg base (L2.CX P w) 2 f fd p__law_bent sp_bent := by
  refine F.okX sc__law_bent (fun vs H Q E h => ?_) (fun cdv A outer s H vs Q E hr h => ?_)
  · obtain ⟨_, _, rfl, _⟩ := h
    rfl
  · obtain ⟨x, y, rfl, h, a, r, rfl, hh, ⟨ra, rfl, hra⟩, hby, hl, q⟩ := h
    refine ⟨_, (pss_cons (ps_set (i := 2) sc__law_bent.nd rfl (Or.inl rfl) (pc c__law_draw hr (by first | decide | omega) passL (pa_cons (pv 0) (pa_cons (pe_op op_add (pe_callB call_len_seq (by rfl) T.b_len (by decide +kernel) (pa_cons (pv 1) pa_nil)) pe_int) pa_nil))))
 (pss_cons (ps_set (i := 3) sc__law_bent.nd rfl (Or.inl rfl) (pe_ix ix_list (pe_lst (pa_cons pe_int (pa_cons pe_int (pa_cons pe_int (pa_cons pe_int (pa_cons pe_int (pa_cons pe_int (pa_cons (pc c__law_draw hr (by first | decide | omega) passL (pa_cons (pv 0) (pa_cons pe_int pa_nil))) (pa_cons (pc c__law_draw hr (by first | decide | omega) passL (pa_cons (pv 0) (pa_cons pe_int pa_nil))) pa_nil))))))))) (pc c__law_draw hr (by first | decide | omega) passL (pa_cons (pv 0) (pa_cons pe_int pa_nil))) (fun _ _ => rfl)))
 (pss_cons (ps_set (i := 4) sc__law_bent.nd rfl (Or.inl rfl) (pe_lst (pa_cons (pe_op op_catA (pe_op op_catA (pe_slice sl_tupA (pv 1) po_none (po_some (pv 2))) (pe_tup (pa_cons (pv 3) pa_nil))) (pe_slice sl_tupA (pv 1) (po_some (pv 2)) po_none)) (pa_cons (pe_op op_catA (pe_op op_catA (pe_slice sl_tupA (pv 1) po_none (po_some (pv 2))) (pe_tup (pa_cons (pv 3) pa_nil))) (pe_slice sl_tupA (pv 1) (po_some (pe_op op_add (pv 2) pe_int)) po_none)) (pa_cons (pe_op op_catA (pe_slice sl_tupA (pv 1) po_none (po_some (pv 2))) (pe_slice sl_tupA (pv 1) (po_some (pe_op op_add (pv 2) pe_int)) po_none)) (pa_cons (pe_slice sl_tupA (pv 1) po_none (po_some (pv 2))) pa_nil))))))
 (pss_one (ps_ret (pe_ix ix_list (pv 4) (pc c__law_draw hr (by first | decide | omega) passL (pa_cons (pv 0) (pa_cons pe_int pa_nil))) (fun _ _ => rfl))))))), ?_⟩
    refine ⟨_, rfl, _, rfl, ra, _, rfl, .inr (SqT.of hra), _, _, rfl, rfl, _, _, rfl, h, a, r.length + 1, rfl, (by rw [rv_len]; rfl), hh, by omega, by omega, fun at_ H1 hat b1 h1 => ?_⟩
    refine ⟨_, rfl, _, _, rfl, h, a, 256, rfl, rfl, h1, by decide, by decide, fun d1 H2 hd1 b2 h2 => ?_⟩
    refine ⟨_, rfl, _, _, rfl, h, a, 8, rfl, rfl, h2, by decide, by decide, fun d2 H3 hd2 b3 h3 => ?_⟩
    refine ⟨szl (by show 8 ≤ 1000000; decide), fun L hL => ?_⟩
    have s4 := Same.new (o := .lst [.int 0, .int 6, .int 5, .int 37, .int 128, .int 255, .int (d1 : Int), .int (d2 : Int)]) hL
    have h4 := h3.same s4
    refine ⟨_, rfl, _, _, rfl, h, a, 8, rfl, rfl, h4, by decide, by decide, fun d3 H5 hd3 b5 h5 => ?_⟩
    refine pick (b5.k _ _ upd_same (h3.apart hL).1) hd3 fun v hv => ?_
    have hv' : ByteV v := bv_cons (bv 0 (by decide)) (bv_cons (bv 6 (by decide)) (bv_cons (bv 5 (by decide)) (bv_cons (bv 37 (by decide)) (bv_cons (bv 128 (by decide)) (bv_cons (bv 255 (by decide)) (bv_cons (bv d1 hd1) (bv_cons (bv d2 (by omega)) (fun u hu => by cases hu)))))))) v hv
    obtain ⟨b, rfl, hb⟩ := hv'
    have b05 : But h H H5 := b1.trans (b2.trans (b3.trans ((But.of s4).trans b5)))
    have ha : H5 ra = some (.tup (rv r)) := b05.t _ _ hra
    clear b1 b2 b3 b5 s4 h1 h2 h3 h4
    have rl := rv_len r
    have lt1 : ((rv r).take at_).length ≤ 90000 := by rw [List.length_take]; omega
    have ld1 : ((rv r).drop at_).length ≤ 90000 := by rw [List.length_drop]; omega
    have ld2 : ((rv r).drop (at_ + 1)).length ≤ 90000 := by rw [List.length_drop]; omega
    refine ⟨_, rfl, _, rfl, _, rfl, slV ha cut_lo fun p1 G1 t1 e1 => ?_⟩
    refine ⟨_, rfl, sz_one, fun p2 e2 => ?_⟩
    have t2 := t1.trans (Same.new (o := .tup [.int (b : Int)]) e2)
    refine catV (Same.new e2 _ _ e1) upd_same (by show _ + 1 ≤ _; omega) fun p3 G3 t3 e3 => ?_
    have t3' := t2.trans t3
    refine ⟨_, rfl, _, rfl, _, rfl, ?_⟩
    refine noP ?_
    refine slV (t3' _ _ ha) cut_hi fun p4 G4 t4 e4 => ?_
    refine catV (t4 _ _ e3) e4 (by rw [List.length_append]; show _ + 1 + _ ≤ _; omega) fun p5 G5 t5 e5 => ?_
    have t5' := t3'.trans (t4.trans t5)
    refine ⟨_, rfl, _, rfl, _, rfl, slV (t5' _ _ ha) cut_lo fun p6 G6 t6 e6 => ?_⟩
    refine ⟨_, rfl, sz_one, fun p7 e7 => ?_⟩
    have t7' := t5'.trans (t6.trans (Same.new (o := .tup [.int (b : Int)]) e7))
    refine catV (Same.new e7 _ _ e6) upd_same (by show _ + 1 ≤ _; omega) fun p8 G8 t8 e8 => ?_
    have t8' := t7'.trans t8
    refine ⟨_, rfl, _, rfl, _, _, rfl, rfl, _, rfl, ?_⟩
    refine noP ?_
    refine slV (t8' _ _ ha) (cut_hi (n := at_ + 1)) fun p9 G9 t9 e9 => ?_
    refine catV (t9 _ _ e8) e9 (by rw [List.length_append]; show _ + 1 + _ ≤ _; omega) fun p10 G10 t10 e10 => ?_
    have t10' := t8'.trans (t9.trans t10)
    refine ⟨_, rfl, _, rfl, _, rfl, slV (t10' _ _ ha) cut_lo fun p11 G11 t11 e11 => ?_⟩
    have t11' := t10'.trans t11
    refine ⟨_, rfl, _, rfl, _, _, rfl, rfl, _, rfl, ?_⟩
    refine noP ?_
    refine slV (t11' _ _ ha) (cut_hi (n := at_ + 1)) fun p12 G12 t12 e12 => ?_
    refine catV (t12 _ _ e11) e12 (by omega) fun p13 G13 t13 e13 => ?_
    have t13' := t11'.trans (t12.trans t13)
    refine ⟨_, rfl, _, rfl, _, rfl, slV (t13' _ _ ha) cut_lo fun p14 G14 t14 e14 => ?_⟩
    have t14' := t13'.trans t14
    refine ⟨szl (by show 4 ≤ 1000000; decide), fun L2 hL2 => ?_⟩
    have t15 := t14'.trans (Same.new (o := .lst [.ref p5, .ref p10, .ref p13, .ref p14]) hL2)
    have hh15 := h5.same t15
    refine ⟨_, rfl, _, rfl, _, _, rfl, h, a, 4, rfl, rfl, hh15, by decide, by decide, fun d4 H6 hd4 b6 h6 => ?_⟩
    have nL : L2 ≠ h := ((h5.same t14').apart hL2).1
    refine pick (b6.k _ _ upd_same nL) hd4 fun v hv => q v H6 (b05.trans ((But.of t15).trans b6)) h6 ?_
    refine BentTo.mono b6.t ?_
    refine BentTo.mono (TSame.of (Same.new (o := .lst [.ref p5, .ref p10, .ref p13, .ref p14]) hL2)) ?_
    have one : [V.int (b : Int)] = rv [b] := rfl
    rw [rv_take, one, rv_drop, ← rv_app, ← rv_app] at e5
    rw [rv_take, one, rv_drop, ← rv_app, ← rv_app] at e10
    rw [rv_take, rv_drop, ← rv_app] at e13
    rw [rv_take] at e14
    have bt := byt_take hby at_
    have f5 := (t6.trans ((Same.new (o := .tup [.int (b : Int)]) e7).trans (t8.trans (t9.trans (t10.trans (t11.trans (t12.trans (t13.trans t14)))))))) _ _ e5
    have f10 := (t11.trans (t12.trans (t13.trans t14))) _ _ e10
    have f13 := t14 _ _ e13
    rcases List.mem_cons.mp hv with rfl | hv
    · exact ⟨_, ⟨p5, rfl, f5⟩, byt_app (byt_app bt (byt_one hb)) (byt_drop hby _), by rw [List.length_append, List.length_append, List.length_take, List.length_drop]; show _ + 1 + _ ≤ _; omega⟩
    rcases List.mem_cons.mp hv with rfl | hv
    · exact ⟨_, ⟨p10, rfl, f10⟩, byt_app (byt_app bt (byt_one hb)) (byt_drop hby _), by rw [List.length_append, List.length_append, List.length_take, List.length_drop]; show _ + 1 + _ ≤ _; omega⟩
    rcases List.mem_cons.mp hv with rfl | hv
    · exact ⟨_, ⟨p13, rfl, f13⟩, byt_app bt (byt_drop hby _), by rw [List.length_append, List.length_take, List.length_drop]; omega⟩
    rcases List.mem_cons.mp hv with rfl | hv
    · exact ⟨_, ⟨p14, rfl, e14⟩, bt, by rw [List.length_take]; omega⟩
    · cases hv
end
end Cl
set_option maxRecDepth 100000
set_option maxHeartbeats 4000000
/-! rows, seals, readings: one and the same -/
namespace Cl
open PySem PySem.Spec PyProof.Rows L2 RZ
theorem nest_vd {d : D} (h : vd d = true) : ∀ k, vd (nest d k) = true
  | 0 => h
  | k + 1 => by
    show (vd (nest d k) && true) = true
    rw [nest_vd h k]
    rfl
theorem nest_sm {d : D} (h : sm d = true) : ∀ k, sm (nest d k) = true
  | 0 => h
  | k + 1 => by
    show (true && (sm (nest d k) && true)) = true
    rw [nest_sm h k]
    rfl
theorem nest_dep (d : D) : ∀ k, dep (nest d k) = dep d + k
  | 0 => rfl
  | k + 1 => by
    show max (dep (nest d k)) 0 + 1 = _
    rw [nest_dep d k]
    omega
theorem nest_wr (d : D) : ∀ k, (wr (nest d k)).length = (wr d).length + 2 * k
  | 0 => rfl
  | k + 1 => by
    show (6 :: (figs [nest d k].length ++ (wr (nest d k) ++ []))).length = _
    rw [figs_small (by show 1 < 128; decide), List.append_nil, List.length_cons, List.length_append, nest_wr d k]
    show 1 + ((wr d).length + 2 * k) + 1 = _
    omega
theorem row_is {H : Hp} {p : Addr} {r : List Nat} (e : H p = some (.tup (rv r))) : Is H (.ref p) (.tup (rD r)) := ⟨p, rv r, rfl, e, isL_rv r⟩
theorem row_dep (r : List Nat) : dep (.tup (rD r)) ≤ 24 := by
  show deps (rD r) + 1 ≤ 24
  rw [deps_rD]
  omega
theorem row_wid {r : List Nat} (h : r.length ≤ 100000) : wid 100000 (.tup (rD r)) = true := by
  show (decide ((rD r).length ≤ 100000) && wids 100000 (rD r)) = true
  rw [wids_rD, decide_eq_true (by rw [List.length_map]; exact h)]
  rfl
mutual
theorem wid_le {L M : Nat} (h : L ≤ M) : ∀ d : D, wid L d = true → wid M d = true
  | .non, _ => rfl
  | .bl _, _ => rfl
  | .int _, _ => rfl
  | .str s, x => by
    have := of_decide_eq_true (show decide (s.length ≤ L) = true from x)
    exact decide_eq_true (by omega)
  | .tup xs, x => by
    obtain ⟨x1, x2⟩ := Bool.and_eq_true_iff.mp (show (decide (xs.length ≤ L) && wids L xs) = true from x)
    have := of_decide_eq_true x1
    show (decide (xs.length ≤ M) && wids M xs) = true
    rw [decide_eq_true (by omega : xs.length ≤ M), wids_le h xs x2]
    rfl
  | .lst xs, x => by
    obtain ⟨x1, x2⟩ := Bool.and_eq_true_iff.mp (show (decide (xs.length ≤ L) && wids L xs) = true from x)
    have := of_decide_eq_true x1
    show (decide (xs.length ≤ M) && wids M xs) = true
    rw [decide_eq_true (by omega : xs.length ≤ M), wids_le h xs x2]
    rfl
theorem wids_le {L M : Nat} (h : L ≤ M) : ∀ ds : List D, wids L ds = true → wids M ds = true
  | [], _ => rfl
  | d :: ds, x => by
    obtain ⟨x1, x2⟩ := Bool.and_eq_true_iff.mp (show (wid L d && wids L ds) = true from x)
    show (wid M d && wids M ds) = true
    rw [wid_le h d x1, wids_le h ds x2]
    rfl
end
/-- a told or bad answer as data -/
def rdA : Except Nat D → D
  | .error e => .tup [.str [98, 97, 100], .int (e : Int)]
  | .ok d => .tup [.str [116, 111, 108, 100], d]
theorem ReadAt.is {H : Hp} {p : Addr} {x : Except Nat D} (h : ReadAt H p x) : Is H (.ref p) (rdA x) := by
  cases x with
  | error e => exact ⟨p, _, rfl, h, _, _, rfl, rfl, _, _, rfl, rfl, rfl⟩
  | ok d =>
    obtain ⟨v, h1, h2⟩ := h
    exact ⟨p, _, rfl, h1, _, _, rfl, rfl, _, _, rfl, h2, rfl⟩
theorem ReadAt.mono {H H' : Hp} {p : Addr} {x : Except Nat D} (s : Same H H') (h : ReadAt H p x) : ReadAt H' p x := by
  cases x with
  | error e => exact s _ _ h
  | ok d =>
    obtain ⟨v, h1, h2⟩ := h
    exact ⟨v, s _ _ h1, h2.mono s d v⟩
theorem rdA_fit {r : List Nat} (h : r.length ≤ 100000) : dep (rdA (rd r)) ≤ 24 ∧ wid 100000 (rdA (rd r)) = true := by
  cases e : rd r with
  | error x => exact ⟨by show max 0 (max 0 0) + 1 ≤ 24; decide, rfl⟩
  | ok d =>
    obtain ⟨g1, g2, g3⟩ := rd_good e
    refine ⟨?_, ?_⟩
    · show max 0 (max (dep d) 0) + 1 ≤ 24
      omega
    · show (true && (true && (wid 100000 d && true))) = true
      rw [wid_le h d g2]
      rfl
theorem sl_byt (r : List Nat) : byt (sl r) := fun b hb => by
  have m : ∀ x : Nat, x % 256 < 256 := fun x => Nat.mod_lt _ (by decide)
  rcases List.mem_cons.mp hb with rfl | hb
  · exact m _
  rcases List.mem_cons.mp hb with rfl | hb
  · exact m _
  rcases List.mem_cons.mp hb with rfl | hb
  · exact m _
  rcases List.mem_cons.mp hb with rfl | hb
  · exact m _
  · cases hb
def sp_arerows : Sp := fun vs H Q _ => ∃ x, vs = [x] ∧ ∃ (h a : Addr), x = .ref h ∧ HandAt H h a ∧ ∀ H', But h H H' → HandAt H' h a → Q (.bl true) H'
section
variable {P : Program} {w : World} {K : PySem.W.Frag} {mg : Str → Option Value} {base : Heap} {f : Addr} {fd : FuncData}
theorem ok_arerows (T : Txt K mg) (c__law_draw : Kn P w K mg base "_law_draw" 1 p__law_draw sp_draw) (c__law_parcel : Kn P w K mg base "_law_parcel" 6 p__law_parcel (sp_parc 4)) (c__law_nested : Kn P w K mg base "_law_nested" 1 p__law_nested sp_nested)
    (c__law_row : Kn P w K mg base "_law_row" 23 p__law_row (sp_row 21)) (c__law_read : Kn P w K mg base "_law_read" 24 p__law_read sp_read) (c__law_is : Kn P w K mg base "_law_is" 25 p__law_is (sp_same 24)) (c_is_parcel : Kn P w K mg base "is_parcel" 25 p_is_parcel sp_is_parcel)
    (c_row_of : Kn P w K mg base "row_of" 26 p_row_of (sp_row_of (cc K "NoParcel"))) (c_sealed : Kn P w K mg base "sealed" 27 p_sealed (sp_sealed (cc K "NoParcel"))) (c__law_sealed : Kn P w K mg base "_law_sealed" 24 p__law_sealed sp_law_sealed)
    (c_unsealed : Kn P w K mg base "unsealed" 47 p_unsealed sp_unsealed) (c__law_seal : Kn P w K mg base "_law_seal" 2 p__law_seal sp_seal) (c__law_bent : Kn P w K mg base "_law_bent" 2 p__law_bent sp_bent) (c__law_parcel_told : Kn P w K mg base "_law_parcel_told" 47 p__law_parcel_told sp_ptold)
    (c_mark : Kn P w K mg base "mark" 3 p_mark (sp_mark (cc K "NoRow"))) (c__law_mark : Kn P w K mg base "_law_mark" 1 p__law_mark sp_raw_mark)
    (F : Fun K "_law_are_rows" "_law_are_rows" s__law_are_rows f fd) : FnOk P w K mg base (L2.CX P w) 48 f fd p__law_are_rows sp_arerows := by
  refine F.okX sc__law_are_rows (fun vs H Q E h => ?_) (fun cdv A outer s H vs Q E hr h => ?_)
  · obtain ⟨_, rfl, _⟩ := h
    rfl
  · obtain ⟨x, rfl, h, a, rfl, hh, q⟩ := h
    have hu := hr.units
    refine ⟨_, (pss_cons (ps_set (i := 1) sc__law_are_rows.nd rfl (Or.inl rfl) (pc c__law_parcel hr (by first | decide | omega) passL (pa_cons (pv 0) (pa_cons pe_int pa_nil))))
 (C8.pss_cut (ps_if (pt_cmpR op_eq (pc c__law_draw hr (by first | decide | omega) passL (pa_cons (pv 0) (pa_cons pe_int pa_nil))) pe_int (nomark _)) (pss_one (ps_set (i := 1) sc__law_are_rows.nd rfl (Or.inl rfl) (pc c__law_nested hr (by first | decide | omega) passL (pa_cons (pe_op op_add pe_int (pc c__law_draw hr (by first | decide | omega) passL (pa_cons (pv 0) (pa_cons pe_int pa_nil)))) (pa_cons (pe_ix ix_list (pe_lst (pa_cons pe_int (pa_cons (pe_tup pa_nil) (pa_cons pe_str pa_nil)))) (pc c__law_draw hr (by first | decide | omega) passL (pa_cons (pv 0) (pa_cons pe_int pa_nil))) (fun _ _ => rfl)) pa_nil))))) pss_nil)
 (pss_cons (ps_set (i := 2) sc__law_are_rows.nd rfl (Or.inl rfl) (pc c__law_row hr (by first | decide | omega) passL (pa_cons (pv 1) pa_nil)))
 (pss_cons (ps_set (i := 3) sc__law_are_rows.nd rfl (Or.inl rfl) (pc c__law_read hr (by first | decide | omega) passL (pa_cons (pv 2) pa_nil)))
 (pss_cons (ps_if (pt_not (pt_val (pc c__law_is hr (by first | decide | omega) passL (pa_cons (pc c_is_parcel hr (by first | decide | omega) passL (pa_cons (pv 1) pa_nil)) (pa_cons (pe_cmpR op_eq (pe_ix ix_tup (pv 3) pe_int (fun _ _ => rfl)) pe_str (nomark _)) pa_nil))))) (pss_one (ps_ret pe_bl)) pss_nil)
 (C8.pss_cut (ps_if (pt_cmpR op_eq (pe_ix ix_tup (pv 3) pe_int (fun _ _ => rfl)) pe_str (nomark _)) (pss_cons (ps_if (PW.pt (pw_or (pt_not (pt_val (pc c__law_is hr (by first | decide | omega) passL (pa_cons (pc c_row_of hr (by first | decide | omega) passL (pa_cons (pv 1) pa_nil)) (pa_cons (pv 2) pa_nil))))) (pw_or1 (pt_not (pt_val (pc c__law_is hr (by first | decide | omega) passL (pa_cons (pc c_sealed hr (by first | decide | omega) passL (pa_cons (pv 1) pa_nil)) (pa_cons (pc c__law_sealed hr (by first | decide | omega) passL (pa_cons (pv 1) pa_nil)) pa_nil)))))))) (pss_one (ps_ret pe_bl)) pss_nil)
 (pss_one (ps_if (PW.pt (pw_or (pt_not (pt_val (pc c__law_is hr (by first | decide | omega) passL (pa_cons (pc c_unsealed hr (by first | decide | omega) passL (pa_cons (pe_op op_catA (pv 2) (pc c__law_seal hr (by first | decide | omega) passL (pa_cons (pv 2) pa_nil))) pa_nil)) (pa_cons (pe_tup (pa_cons (pv 1) pa_nil)) pa_nil))))) (pw_or1 (pt_cmpR (op_neD hu) (pc c_unsealed hr (by first | decide | omega) passL (pa_cons (pv 2) pa_nil)) (pe_tup pa_nil) (nomark _))))) (pss_one (ps_ret pe_bl)) pss_nil))) pss_nil)
 (pss_cons (ps_for (passes_of rfl) rfl (pi_range1 (by rfl) T.b_range (pa_cons pe_int pa_nil)) (pg_name (i := 4) sc__law_are_rows.nd rfl (Or.inl rfl)) (pss_cons (ps_set (i := 2) sc__law_are_rows.nd rfl (Or.inl rfl) (pc c__law_bent hr (by first | decide | omega) passL (pa_cons (pv 0) (pa_cons (pv 2) pa_nil))))
 (pss_cons (ps_if (PW.pt (pw_or (pt_not (pt_val (pc c__law_is hr (by first | decide | omega) passL (pa_cons (pc c__law_parcel_told hr (by first | decide | omega) passL (pa_cons (pv 2) pa_nil)) (pa_cons (pc c__law_read hr (by first | decide | omega) passL (pa_cons (pv 2) pa_nil)) pa_nil))))) (pw_or1 (pt_not (pt_val (pc c__law_is hr (by first | decide | omega) passL (pa_cons (pc c_mark hr (by first | decide | omega) passL (pa_cons (pv 2) pa_nil)) (pa_cons (pc c__law_mark hr (by first | decide | omega) passL (pa_cons (pv 2) pa_nil)) pa_nil)))))))) (pss_one (ps_ret pe_bl)) pss_nil)
 (pss_cons (ps_set (i := 3) sc__law_are_rows.nd rfl (Or.inl rfl) (pc c__law_read hr (by first | decide | omega) passL (pa_cons (pv 2) pa_nil)))
 (pss_one (ps_if (pt_not (pt_val (pc c__law_is hr (by first | decide | omega) passL (pa_cons (pc c_unsealed hr (by first | decide | omega) passL (pa_cons (pe_op op_catA (pv 2) (pc c__law_seal hr (by first | decide | omega) passL (pa_cons (pv 2) pa_nil))) pa_nil)) (pa_cons (pe_ifExp (pt_cmpR op_eq (pe_ix ix_tup (pv 3) pe_int (fun _ _ => rfl)) pe_str (nomark _)) (pe_tup (pa_cons (pe_ix ix_tup (pv 3) pe_int (fun _ _ => rfl)) pa_nil)) (pe_tup pa_nil)) pa_nil))))) (pss_one (ps_ret pe_bl)) pss_nil))))))
 (pss_one (ps_ret (pe_and (pe_cmpR (op_eqD hu) (pc c_unsealed hr (by first | decide | omega) passL (pa_cons (pe_lst (pa_cons pe_int pa_nil)) pa_nil)) (pe_tup pa_nil) (nomark _)) (pe_one (pe_cmpR (op_eqD hu) (pc c_unsealed hr (by first | decide | omega) passL (pa_cons pe_non pa_nil)) (pe_tup pa_nil) (nomark _))))))))))))), ?_⟩
    refine ⟨_, rfl, _, _, rfl, h, a, rfl, rfl, hh, fun v0 H1 b1 h1 dr => ?_⟩
    obtain ⟨d0, e1, e2, e3, e4, e5⟩ := dr
    have e5' : (wr d0).length ≤ 20000 := Nat.le_trans e5 (by decide)
    refine ⟨fun σ H' => ∃ (v : V) (d : D), σ = [some (.ref h), some v, none, none, none] ∧ But h H H' ∧ HandAt H' h a ∧ Is H' v d ∧ vd d = true ∧ sm d = true ∧ dep d ≤ 21 ∧ (wr d).length ≤ 20000, ?_, ?_⟩
    · refine ⟨_, rfl, _, _, rfl, h, a, 10, rfl, rfl, h1, by decide, by decide, fun k0 H2 hk0 b2 h2 => ⟨rfl, _, rfl, ?_⟩⟩
      have dflt : ∃ (v : V) (d : D), [some (V.ref h), some v0, none, none, none] = [some (.ref h), some v, none, none, none] ∧ But h H H2 ∧ HandAt H2 h a ∧ Is H2 v d ∧ vd d = true ∧ sm d = true ∧ dep d ≤ 21 ∧ (wr d).length ≤ 20000 :=
        ⟨v0, d0, rfl, b1.trans b2, h2, e1.tmono b2.t d0 v0 e2, e2, e3, by omega, e5'⟩
      show if decide (V.int (k0 : Int) = V.int 0) = true then _ else _
      generalize decide (V.int (k0 : Int) = V.int 0) = bb
      cases bb with
      | false => exact iteF dflt
      | true =>
        refine iteT ⟨_, rfl, _, _, rfl, h, a, 20, rfl, rfl, h2, by decide, by decide, fun k1 H3 hk1 b3 h3 => ⟨_, _, rfl, rfl, szl (by decide), fun t ht => ⟨sz3, fun L hL => ?_⟩⟩⟩
        have s4 := (Same.new (o := .tup []) ht).trans (Same.new (o := .lst [.int 7, .ref t, .str "a"]) hL)
        have h4 := h3.same s4
        have nL := ((h3.same (Same.new (o := .tup []) ht)).apart hL).1
        refine ⟨_, rfl, _, _, rfl, h, a, 3, rfl, rfl, h4, by decide, by decide, fun k2 H5 hk2 b5 h5 => pick (b5.k _ _ upd_same nL) hk2 fun v hv => ?_⟩
        have t5 : H5 t = some (.tup []) := b5.t _ _ (Same.new hL _ _ upd_same)
        have lf : ∃ d, Is H5 v d ∧ vd d = true ∧ sm d = true ∧ dep d ≤ 1 ∧ (wr d).length ≤ 22 := by
          rcases List.mem_cons.mp hv with rfl | hv
          · exact ⟨.int 7, rfl, rfl, rfl, by decide, by decide +kernel⟩
          rcases List.mem_cons.mp hv with rfl | hv
          · exact ⟨.tup [], ⟨t, [], rfl, t5, rfl⟩, rfl, rfl, by decide, by decide +kernel⟩
          rcases List.mem_cons.mp hv with rfl | hv
          · exact ⟨.str [97], rfl, by decide, by decide, by decide, by decide +kernel⟩
          · cases hv
        obtain ⟨d, f1, f2, f3, f4, f5⟩ := lf
        refine ⟨_, _, rfl, 1 + k1, d, (by rw [Int.natCast_add]; rfl), by omega, f1, fun v' H6 s6 hv' => ?_⟩
        exact ⟨v', nest d (1 + k1), rfl, b1.trans (b2.trans (b3.trans ((But.of s4).trans (b5.trans (.of s6))))), h5.same s6, hv', nest_vd f2 _, nest_sm f3 _, by rw [nest_dep]; omega, by rw [nest_wr]; omega⟩
    · rintro σ H2 ⟨v, d, rfl, b2, h2, f1, f2, f3, f4, f5⟩
      have hby := wr_byt d f2
      refine ⟨_, rfl, _, rfl, d, f1, f2, f3, by omega, f4, fun p2 H3 s3 e3 => ?_⟩
      refine ⟨_, rfl, _, rfl, wr d, ⟨p2, rfl, e3⟩, by omega, fun p4 H4 s4 hz4 => ?_⟩
      have rest : ∀ (σ : L2.St) (H' : Hp) (r : List Nat) (p : Addr) (w1 w3 : V), True := fun _ _ _ _ _ _ => trivial
      have f1' := f1.mono (s3.trans s4) d v
      have e3' := s4 _ _ e3
      have s34 := s3.trans s4
      have h4 := h2.same s34
      have b4 := b2.trans (.of s34)
      refine ⟨_, rfl, _, rfl, d, f1', f2, f3, f4, fun H5 s5 => ?_⟩
      have f1'' := f1'.mono s5 d v
      have e3'' := s5 _ _ e3'
      have h5 := h4.same s5
      have b5 := b4.trans (.of s5)
      have hz5 := hz4.mono s5
      obtain ⟨s0, w4, hp4, hs0⟩ : ∃ (s0 : Str) (w4 : V), H5 p4 = some (.tup [.str s0, w4]) ∧ decide (V.str s0 = V.str "told") = decide (dep d ≤ 20) := by
        by_cases hd : dep d ≤ 20
        · rw [(rd_wr f2).1 hd] at hz5
          obtain ⟨w4, hp4, _⟩ := hz5
          exact ⟨"told", w4, hp4, by rw [decide_eq_true rfl, decide_eq_true hd]⟩
        · obtain ⟨er, ee⟩ := (rd_wr f2).2 hd
          rw [ee] at hz5
          exact ⟨"bad", _, hz5, by rw [decide_eq_false hd]; decide⟩
      refine ⟨_, rfl, p4, _, 0, .str s0, rfl, rfl, SqT.of hp4, rfl, rfl, ?_⟩
      refine ⟨_, _, rfl, .bl (decide (dep d ≤ 20)), rfl, (by rw [hs0]; rfl), Nat.zero_le _, rfl, fun H6 s6 => ⟨_, rfl, iteF ?_⟩⟩
      refine ⟨fun σ H' => ∃ (r : List Nat) (p : Addr) (w1 w3 : V), σ = [some (.ref h), some w1, some (.ref p), some w3, none] ∧ But h H H' ∧ HandAt H' h a ∧ H' p = some (.tup (rv r)) ∧ byt r ∧ r.length ≤ 20000, ?_, ?_⟩
      · refine ⟨_, rfl, p4, _, 0, .str s0, rfl, rfl, SqT.of (s6 _ _ hp4), rfl, rfl, _, rfl, ?_⟩
        rw [hs0]
        by_cases hd : dep d ≤ 20
        · have er := (rd_wr f2).1 hd
          rw [decide_eq_true hd]
          have g1 := f1''.mono s6 d v
          have g3 := s6 _ _ e3''
          refine iteT ⟨_, rfl, _, rfl, d, g1, f2, f3, by omega, hd, fun p7 H7 s7 e7 => ?_⟩
          refine ⟨_, rfl, _, _, rfl, .tup (rD (wr d)), row_is e7, row_is (s7 _ _ g3), row_dep _, row_wid (by omega), fun H8 s8 => ⟨_, rfl, iteF ?_⟩⟩
          have s68 := s7.trans s8
          refine ⟨_, rfl, _, rfl, d, g1.mono s68 d v, f2, f3, by omega, hd, fun p9 H9 s9 e9 => ?_⟩
          refine ⟨_, rfl, _, rfl, d, g1.mono (s68.trans s9) d v, f2, f3, by omega, f4, fun p10 H10 s10 e10 => ?_⟩
          refine ⟨_, _, rfl, .tup (rD (wr d ++ sl (wr d))), row_is (s10 _ _ e9), row_is e10, row_dep _, row_wid (by rw [List.length_append, sl_len]; omega), fun H11 s11 => ⟨_, rfl, iteF ?_⟩⟩
          have t11 := s68.trans (s9.trans (s10.trans s11))
          refine ⟨_, rfl, _, rfl, _, rfl, wr d, ⟨p2, rfl, t11 _ _ g3⟩, fun p12 H12 s12 e12 => ?_⟩
          have t12 := t11.trans s12
          refine catV (t12 _ _ g3) e12 (by rw [rv_len, rv_len, sl_len]; omega) fun p13 H13 s13 e13 => ?_
          rw [← rv_app] at e13
          have byr : byt (wr d ++ sl (wr d)) := byt_app hby (sl_byt _)
          obtain ⟨j1, j2⟩ := row_judg e13 (by rw [List.length_append, sl_len]; omega)
          refine ⟨_, rfl, _, [d], j1, j2, .inr ⟨_, rfl, byr, by rw [List.length_append, sl_len]; omega, by rw [un_seal, er]⟩, fun p14 us H14 s14 e14 i14 => ?_⟩
          have t14 := t12.trans (s13.trans s14)
          refine ⟨_, rfl, sz_one, fun p15 e15 => ?_⟩
          have s15 := Same.new (o := .tup [v]) e15
          refine ⟨_, _, rfl, .tup [d], ⟨p14, us, rfl, s15 _ _ e14, i14.mono s15 [d] us⟩, ⟨p15, [v], rfl, upd_same, v, [], rfl, g1.mono (t14.trans s15) d v, rfl⟩, (by show max (dep d) 0 + 1 ≤ 24; omega), ?_, fun H16 s16 => ⟨_, rfl, iteF ?_⟩⟩
          · show (true && (wid 100000 d && true)) = true
            rw [wid_le (show (wr d).length ≤ 100000 by omega) d (rd_good er).2.1]
            rfl
          have t16 := t14.trans (s15.trans s16)
          obtain ⟨k1, k2⟩ := row_judg (t16 _ _ g3) (by omega)
          refine ⟨_, rfl, _, rfl, _, [], k1, k2, .inr ⟨_, rfl, hby, by omega, (un_wr f2 hd).symm⟩, fun p17 us17 H17 s17 e17 i17 => ?_⟩
          obtain rfl := (show us17 = [] from i17)
          have t17 := t16.trans s17
          refine ⟨szl (by decide), fun z hz => ⟨_, _, .tup (SqT.of (Same.new hz _ _ e17)) .nil, .tup (SqT.of upd_same) .nil, rfl, rfl, _, rfl, iteF ?_⟩⟩
          have t18 := t17.trans (Same.new (o := .tup []) hz)
          exact ⟨wr d, p2, v, .ref p4, rfl, b5.trans (.of (s6.trans t18)), h5.same (s6.trans t18), t18 _ _ g3, hby, f5⟩
        · rw [decide_eq_false hd]
          exact iteF ⟨wr d, p2, v, .ref p4, rfl, b5.trans (.of s6), h5.same s6, s6 _ _ e3'', hby, f5⟩
      · rintro σ H7 ⟨r, p, w1, w3, rfl, b7, h7, e7, hby7, hl7⟩
        refine ⟨(4 : Int), rfl, by decide, by decide, ?_⟩
        refine for_it walk_range (fun i σ H' => ∃ (r : List Nat) (p : Addr) (w1 w3 : V) (v4 : Option V), σ = [some (.ref h), some w1, some (.ref p), some w3, v4] ∧ But h H H' ∧ HandAt H' h a ∧ H' p = some (.tup (rv r)) ∧ byt r ∧ r.length ≤ 20000 + i)
          ⟨r, p, w1, w3, none, rfl, b7, h7, e7, hby7, hl7⟩ (fun _ _ _ _ _ => trivial) (fun i x σ H8 H9 hi p1 yv => ?_) (fun σ H8 p1 => ?_)
        · obtain ⟨r, p, w1, w3, v4, rfl, b8, h8, e8, hby8, hl8⟩ := p1
          obtain ⟨rfl, rfl⟩ := yv
          have hi4 : i < 4 := hi
          refine ⟨_, rfl, _, rfl, _, _, rfl, h, a, r, rfl, h8, ⟨p, rfl, e8⟩, hby8, by omega, fun v9 H9 b9 h9 bent => ?_⟩
          obtain ⟨r9, ⟨p9, rfl, e9⟩, hby9, hl9⟩ := bent
          have hl9' : r9.length ≤ 20010 := by omega
          have fit := rdA_fit (r := r9) (by omega)
          refine ⟨_, rfl, _, rfl, r9, ⟨p9, rfl, e9⟩, hby9, by omega, fun q1 G1 t1 z1 => ?_⟩
          refine ⟨_, rfl, _, rfl, r9, ⟨p9, rfl, t1 _ _ e9⟩, by omega, fun q2 G2 t2 z2 => ?_⟩
          refine ⟨_, _, rfl, rdA (rd r9), (z1.mono t2).is, z2.is, fit.1, fit.2, fun G3 t3 => ⟨_, rfl, iteF ?_⟩⟩
          have u3 := t1.trans (t2.trans t3)
          refine ⟨_, rfl, _, rfl, r9, ⟨p9, rfl, u3 _ _ e9⟩, hby9, by omega, fun G4 t4 => ?_⟩
          refine ⟨_, rfl, _, rfl, r9, ⟨p9, rfl, (u3.trans t4) _ _ e9⟩, ?_⟩
          refine ⟨_, _, rfl, .int (mk r9 : Nat), rfl, rfl, Nat.zero_le _, rfl, fun G5 t5 => ⟨_, rfl, iteF ?_⟩⟩
          have u5 := u3.trans (t4.trans t5)
          refine ⟨_, rfl, _, rfl, r9, ⟨p9, rfl, u5 _ _ e9⟩, by omega, fun q6 G6 t6 z6 => ?_⟩
          have u6 := u5.trans t6
          refine ⟨_, rfl, _, rfl, _, rfl, r9, ⟨p9, rfl, u6 _ _ e9⟩, fun p7 G7 t7 e7' => ?_⟩
          have u7 := u6.trans t7
          refine catV (u7 _ _ e9) e7' (by rw [rv_len, rv_len, sl_len]; omega) fun p8 G8 t8 e8' => ?_
          rw [← rv_app] at e8'
          have byr : byt (r9 ++ sl r9) := byt_app hby9 (sl_byt _)
          obtain ⟨j1, j2⟩ := row_judg e8' (by rw [List.length_append, sl_len]; omega)
          refine ⟨_, rfl, _, un (r9 ++ sl r9), j1, j2, .inr ⟨_, rfl, byr, by rw [List.length_append, sl_len]; omega, rfl⟩, fun p10 us G10 t10 e10 i10 => ?_⟩
          rw [un_seal] at i10
          have u10 := u7.trans (t8.trans t10)
          have z10 := z6.mono (t7.trans (t8.trans t10))
          cases er : rd r9 with
          | error ex =>
            rw [er] at z10 i10
            obtain rfl := (show us = [] from i10)
            refine ⟨_, rfl, q6, _, 0, .str "bad", rfl, rfl, SqT.of z10, rfl, rfl, _, rfl, iteF ⟨szl (by decide), fun z hz => ?_⟩⟩
            have t11 := Same.new (o := .tup []) hz
            refine ⟨_, _, rfl, .tup [], ⟨p10, [], rfl, t11 _ _ e10, rfl⟩, ⟨z, [], rfl, upd_same, rfl⟩, by decide, rfl, fun G12 t12 => ⟨_, rfl, iteF ?_⟩⟩
            have u12 := u10.trans (t11.trans t12)
            exact ⟨r9, p9, w1, .ref q6, _, rfl, b8.trans (b9.trans (.of u12)), h9.same u12, u12 _ _ e9, hby9, by omega⟩
          | ok d9 =>
            rw [er] at z10 i10
            obtain ⟨w9, z10, hw9⟩ := z10
            refine ⟨_, rfl, q6, _, 0, .str "told", rfl, rfl, SqT.of z10, rfl, rfl, _, rfl, iteT ⟨_, rfl, q6, _, 1, w9, rfl, rfl, SqT.of z10, rfl, sz_one, fun z hz => ?_⟩⟩
            have t11 := Same.new (o := .tup [w9]) hz
            have gd := rd_good er
            refine ⟨_, _, rfl, .tup [d9], ⟨p10, us, rfl, t11 _ _ e10, i10.mono t11 [d9] us⟩, ⟨z, [w9], rfl, upd_same, w9, [], rfl, hw9.mono t11 d9 w9, rfl⟩, (by show max (dep d9) 0 + 1 ≤ 24; omega), ?_, fun G12 t12 => ⟨_, rfl, iteF ?_⟩⟩
            · show (true && (wid 100000 d9 && true)) = true
              rw [wid_le (show r9.length ≤ 100000 by omega) d9 gd.2.1]
              rfl
            have u12 := u10.trans (t11.trans t12)
            exact ⟨r9, p9, w1, .ref q6, _, rfl, b8.trans (b9.trans (.of u12)), h9.same u12, u12 _ _ e9, hby9, by omega⟩
        · obtain ⟨r, p, w1, w3, v4, rfl, b8, h8, e8, hby8, hl8⟩ := p1
          refine ⟨sz_one, fun L hL => ?_⟩
          have t1 := Same.new (o := .lst [.int 1]) hL
          refine ⟨_, rfl, none, [], .oth (.lst upd_same) rfl, (fun us z => by cases z), .inl ⟨rfl, rfl⟩, fun p1 us1 G1 t2 e1' i1 => ?_⟩
          obtain rfl := (show us1 = [] from i1)
          refine ⟨szl (by decide), fun z hz => ⟨_, _, .tup (SqT.of (Same.new hz _ _ e1')) .nil, .tup (SqT.of upd_same) .nil, rfl, rfl, _, rfl, iteT ?_⟩⟩
          have t3 := t1.trans (t2.trans (Same.new (o := .tup []) hz))
          refine ⟨_, rfl, none, [], .oth .non rfl, (fun us z => by cases z), .inl ⟨rfl, rfl⟩, fun p2' us2 G2 t4 e2' i2 => ?_⟩
          obtain rfl := (show us2 = [] from i2)
          refine ⟨szl (by decide), fun z2 hz2 => ⟨_, _, .tup (SqT.of (Same.new hz2 _ _ e2')) .nil, .tup (SqT.of upd_same) .nil, rfl, rfl, ?_⟩⟩
          have t5 := t3.trans (t4.trans (Same.new (o := .tup []) hz2))
          exact q _ (b8.trans (.of t5)) (h8.same t5)
end
end Cl
set_option maxRecDepth 100000
set_option maxHeartbeats 4000000
/-! things that are no rows -/
namespace Cl
open PySem PySem.Spec PyProof.Rows L2 RZ
/-- kinds stay -/
structure KS (H H' : Hp) : Prop where
  l : ∀ b xs, H b = some (.lst xs) → ∃ ys, H' b = some (.lst ys)
  t : TSame H H'
  d : ∀ b ks, H b = some (.dK ks) → H' b = some (.dK ks)
theorem KS.of {H H' : Hp} (s : Same H H') : KS H H' := ⟨fun b xs e => ⟨xs, s _ _ e⟩, TSame.of s, fun b ks e => s _ _ e⟩
theorem KS.trans {H H1 H2 : Hp} (x : KS H H1) (y : KS H1 H2) : KS H H2 := ⟨fun b xs e => by
  obtain ⟨ys, e1⟩ := x.l b xs e
  exact y.l b ys e1, x.t.trans y.t, fun b ks e => y.d _ _ (x.d _ _ e)⟩
theorem Kd.ks {H H' : Hp} {v : V} {n : String} (s : KS H H') (k : Kd H v n) : Kd H' v n := by
  cases k with
  | non => exact .non
  | bl b => exact .bl b
  | int i => exact .int i
  | str x => exact .str x
  | lst e =>
    obtain ⟨ys, e1⟩ := s.l _ _ e
    exact .lst e1
  | tup e => exact .tup (s.t _ _ e)
  | dct e => exact .dct (s.d _ _ e)
theorem Th.ks {H H' : Hp} {v : V} {o : Option (List V)} (s : KS H H') (t : Th H v o) : Th H' v o := by
  cases t with
  | tup e => exact .tup (s.t _ _ e)
  | oth k h => exact .oth (k.ks s) h
theorem Judg.ks {H H' : Hp} {o : Option (List V)} (s : KS H H') (j : Judg H o) : Judg H' o := fun us e => ⟨(j us e).1, fun u hu => by
  obtain ⟨n, k⟩ := (j us e).2 u hu
  exact ⟨n, k.ks s⟩⟩
theorem KS.hand {H H' : Hp} {h a : Addr} (b : But h H H') (x : HandAt H h a) (y : HandAt H' h a) : KS H H' := by
  obtain ⟨cs, i, z, s, t, e1, e2, _⟩ := x
  obtain ⟨cs', i', z', s', t', e1', e2', _⟩ := y
  refine ⟨fun q xs e => ?_, b.t, fun q ks e => ?_⟩
  · by_cases hq : q = h
    · subst hq; exact ⟨_, e1'⟩
    · exact ⟨xs, b.k _ _ e hq⟩
  · by_cases hq : q = h
    · subst hq; rw [e1] at e; cases e
    · exact b.k _ _ e hq
/-- a thing of known kind that is no byte -/
def NB (H : Hp) (v : V) : Prop := (∃ k, Kd H v k) ∧ vin 0 255 v = false
/-- a thing that is no row -/
def NR (H : Hp) (v : V) : Prop := ∃ o, Th H v o ∧ Judg H o ∧ rowB o = false
theorem NB.ks {H H' : Hp} {v : V} (s : KS H H') (x : NB H v) : NB H' v := ⟨x.1.imp fun k y => y.ks s, x.2⟩
theorem NR.ks {H H' : Hp} {v : V} (s : KS H H') (x : NR H v) : NR H' v := by
  obtain ⟨o, h1, h2, h3⟩ := x
  exact ⟨o, h1.ks s, h2.ks s, h3⟩
theorem NR.nb {H : Hp} {v : V} (x : NR H v) (hr : ∃ p, v = .ref p) : NB H v := by
  obtain ⟨o, h1, h2, h3⟩ := x
  obtain ⟨p, rfl⟩ := hr
  obtain ⟨n, k, _⟩ := h1.kd
  exact ⟨⟨n, k⟩, rfl⟩
theorem NR.tup {H : Hp} {p : Addr} {v : V} (e : H p = some (.tup [v])) (x : NB H v) : NR H (.ref p) := by
  refine ⟨some [v], .tup e, fun us z => ?_, ?_⟩
  · obtain rfl := Option.some.inj z
    refine ⟨by show 1 ≤ 100000; decide, fun u hu => ?_⟩
    rcases List.mem_singleton.mp hu with rfl
    exact x.1
  · show (vin 0 255 v && true) = false
    rw [x.2]
    rfl
theorem NR.lst {H : Hp} {p : Addr} {us : List V} (e : H p = some (.lst us)) : NR H (.ref p) := ⟨none, .oth (.lst e) rfl, (fun us z => by cases z), rfl⟩
theorem NR.dct {H : Hp} {p : Addr} {ks : List (Key × V)} (e : H p = some (.dK ks)) : NR H (.ref p) := ⟨none, .oth (.dct e) rfl, (fun us z => by cases z), rfl⟩
def sp_deep : Sp := fun vs H Q _ => ∃ x, vs = [x] ∧ ∃ (h a : Addr), x = .ref h ∧ HandAt H h a ∧ ∀ v H', But h H H' → HandAt H' h a → NR H' v → Q v H'
section
variable {P : Program} {w : World} {K : PySem.W.Frag} {mg : Str → Option Value} {base : Heap} {f : Addr} {fd : FuncData}
theorem ok_deep (T : Txt K mg) (c__law_draw : Kn P w K mg base "_law_draw" 1 p__law_draw sp_draw) (F : Fun K "_law_deep" "_law_deep" s__law_deep f fd) : FnOk P w K mg base (L2.CX P w) 2 f fd p__law_deep sp_deep := by
  refine F.okX sc__law_deep (fun vs H Q E h => ?_) (fun cdv A outer s H vs Q E hr h => ?_)
  · obtain ⟨_, rfl, _⟩ := h
    rfl
  · obtain ⟨x, rfl, h, a, rfl, hh, q⟩ := h
    refine ⟨_, (pss_cons (ps_set (i := 1) sc__law_deep.nd rfl (Or.inl rfl) (pe_ix ix_list (pe_lst (pa_cons pe_non (pa_cons pe_str (pa_cons (pe_un un_neg pe_int) (pa_cons pe_dnewK pa_nil))))) (pc c__law_draw hr (by first | decide | omega) passL (pa_cons (pv 0) (pa_cons pe_int pa_nil))) (fun _ _ => rfl)))
 (pss_cons (ps_for (passes_of rfl) rfl (pi_range1 (by rfl) T.b_range (pa_cons (pe_op op_add pe_int (pc c__law_draw hr (by first | decide | omega) passL (pa_cons (pv 0) (pa_cons pe_int pa_nil)))) pa_nil)) (pg_name (i := 2) sc__law_deep.nd rfl (Or.inl rfl)) (pss_one (ps_set (i := 1) sc__law_deep.nd rfl (Or.inl rfl) (pe_ix ix_list (pe_lst (pa_cons (pe_tup (pa_cons (pv 1) pa_nil)) (pa_cons (pe_lst (pa_cons (pv 1) pa_nil)) (pa_cons (pe_slice sl_tupA (pe_tup (pa_cons (pv 1) (pa_cons (pv 1) pa_nil))) po_none (po_some pe_int)) (pa_cons (pe_disp (pps_cons pe_int (pv 1) pps_nil) (by rfl) (by rfl) (fun z => by cases z) (by decide)) pa_nil))))) (pc c__law_draw hr (by first | decide | omega) passL (pa_cons (pv 0) (pa_cons pe_int pa_nil))) (fun _ _ => rfl)))))
 (pss_one (ps_ret (pv 1))))), ?_⟩
    refine ⟨_, rfl, fun t ht => ⟨szl (by show 4 ≤ 1000000; decide), fun L hL => ?_⟩⟩
    have s1 := (Same.new (o := .dK []) ht).trans (Same.new (o := .lst [.non, .str "a", .int (-1), .ref t]) hL)
    have h1 := hh.same s1
    have nL := ((hh.same (Same.new (o := .dK []) ht)).apart hL).1
    refine ⟨_, rfl, _, _, rfl, h, a, 4, rfl, rfl, h1, by decide, by decide, fun d1 H2 hd1 b2 h2 => pick (b2.k _ _ upd_same nL) hd1 fun v hv => ?_⟩
    have k2 := KS.hand b2 h1 h2
    have nb : NB H2 v := by
      rcases List.mem_cons.mp hv with rfl | hv
      · exact ⟨⟨_, .non⟩, rfl⟩
      rcases List.mem_cons.mp hv with rfl | hv
      · exact ⟨⟨_, .str _⟩, rfl⟩
      rcases List.mem_cons.mp hv with rfl | hv
      · exact ⟨⟨_, .int _⟩, rfl⟩
      rcases List.mem_cons.mp hv with rfl | hv
      · exact ⟨⟨_, .dct (k2.d _ _ (Same.new hL _ _ upd_same))⟩, rfl⟩
      · cases hv
    refine ⟨_, rfl, _, _, rfl, h, a, 30, rfl, rfl, h2, by decide, by decide, fun d2 H3 hd2 b3 h3 => ⟨_, _, rfl, rfl, ?_⟩⟩
    have k3 := KS.hand b3 h2 h3
    have b03 := (But.of s1).trans (b2.trans b3)
    refine ⟨(1 + (d2 : Int)), rfl, by omega, by omega, ?_⟩
    rw [show (1 + (d2 : Int)).toNat = 1 + d2 by omega]
    refine for_it walk_range (fun i σ H' => ∃ (v : V) (v2 : Option V), σ = [some (.ref h), some v, v2] ∧ But h H H' ∧ HandAt H' h a ∧ NB H' v ∧ (i ≠ 0 → NR H' v))
      ⟨v, none, rfl, b03, h3, nb.ks k3, fun z => absurd rfl z⟩ (fun _ _ _ _ _ => trivial) (fun i x σ H4 H5 hi p1 yv => ?_) (fun σ H4 p1 => ?_)
    · obtain ⟨v, v2, rfl, b4, h4, nb, _⟩ := p1
      obtain ⟨rfl, rfl⟩ := yv
      refine ⟨_, rfl, sz_one, fun t1 e1 => ⟨_, rfl, sz_one, fun t2 e2 => ?_⟩⟩
      have u1 := Same.new (o := .tup [v]) e1
      have u2 := Same.new (o := .lst [v]) e2
      refine ⟨_, rfl, _, rfl, sz2, fun t3 e3 => ?_⟩
      have u3 := Same.new (o := .tup [v, v]) e3
      refine ⟨_, rfl, slV upd_same (cut_lo (n := 1)) fun t4 G4 u4 e4 => ?_⟩
      refine fun p hp => ?_
      refine ⟨_, rfl, upd_same, [(.inl 0, v)], rfl, by show 1 ≤ 15; decide, ?_⟩
      rw [upd_upd]
      have u5 : Same G4 (upd G4 p (.dK (mergeK [] [(.inl 0, v)]))) := Same.new hp
      have x5 : (upd G4 p (.dK (mergeK [] [(.inl 0, v)]))) p = some (.dK (mergeK [] [(.inl 0, v)])) := upd_same
      generalize upd G4 p (.dK (mergeK [] [(.inl 0, v)])) = G5 at u5 x5
      refine ⟨szl (by show 4 ≤ 1000000; decide), fun L2 hL2 => ?_⟩
      have u6 := Same.new (o := .lst [.ref t1, .ref t2, .ref t4, .ref p]) hL2
      have u35 := u3.trans (u4.trans u5)
      have u05 := u1.trans (u2.trans u35)
      have h6 := h4.same (u05.trans u6)
      have nL2 := ((h4.same u05).apart hL2).1
      refine ⟨_, rfl, _, _, rfl, h, a, 4, rfl, rfl, h6, by decide, by decide, fun d4 H6 hd4 b6 h7 => pick (b6.k _ _ upd_same nL2) hd4 fun w' hw' => ?_⟩
      have k6 := KS.hand b6 h6 h7
      have k56 : KS G5 H6 := (KS.of u6).trans k6
      have nb5 : NB G5 v := nb.ks (KS.of u05)
      have nr : NR G5 w' ∧ ∃ p, w' = .ref p := by
        rcases List.mem_cons.mp hw' with rfl | hw'
        · exact ⟨.tup ((u2.trans u35) _ _ upd_same) nb5, t1, rfl⟩
        rcases List.mem_cons.mp hw' with rfl | hw'
        · exact ⟨.lst (u35 _ _ upd_same), t2, rfl⟩
        rcases List.mem_cons.mp hw' with rfl | hw'
        · exact ⟨.tup (u5 _ _ e4) nb5, t4, rfl⟩
        rcases List.mem_cons.mp hw' with rfl | hw'
        · exact ⟨.dct x5, p, rfl⟩
        · cases hw'
      exact ⟨w', _, rfl, b4.trans ((But.of (u05.trans u6)).trans b6), h7, (nr.1.nb nr.2).ks k56, fun _ => nr.1.ks k56⟩
    · obtain ⟨v, v2, rfl, b4, h4, nb, nr⟩ := p1
      exact ⟨_, rfl, q v H4 b4 h4 (nr (by omega))⟩
end
end Cl
set_option maxRecDepth 100000
set_option maxHeartbeats 4000000
/-! deeds done to a disk -/
namespace Cl
open PySem PySem.Spec PyProof.Rows L2 RZ
inductive Dd where
  | wri (y : V) (o : Option (List V))
  | syn
  | cut (y : V) (o : Option (List V))
  | drp (y : V)
def DeedAt (H : Hp) (v : V) : Dd → Prop
  | .wri y o => ∃ p, v = .ref p ∧ H p = some (.tup [.str "write", y]) ∧ Th H y o ∧ Judg H o ∧ (rowB o = true → ∃ r, o = some (rv r) ∧ byt r ∧ r.length ≤ 90000)
  | .syn => ∃ p, v = .ref p ∧ H p = some (.tup [.str "sync"])
  | .cut y o => ∃ p, v = .ref p ∧ H p = some (.tup [.str "cut", y]) ∧ Th H y o ∧ Judg H o
  | .drp y => ∃ p, v = .ref p ∧ H p = some (.tup [.str "drop", y]) ∧ ∃ k, Kd H y k
theorem DeedAt.ks {H H' : Hp} {v : V} {dd : Dd} (s : KS H H') (x : DeedAt H v dd) : DeedAt H' v dd := by
  cases dd with
  | wri y o =>
    obtain ⟨p, e, h1, h2, h3, h4⟩ := x
    exact ⟨p, e, s.t _ _ h1, h2.ks s, h3.ks s, h4⟩
  | syn =>
    obtain ⟨p, e, h1⟩ := x
    exact ⟨p, e, s.t _ _ h1⟩
  | cut y o =>
    obtain ⟨p, e, h1, h2, h3⟩ := x
    exact ⟨p, e, s.t _ _ h1, h2.ks s, h3.ks s⟩
  | drp y =>
    obtain ⟨p, e, h1, k, h2⟩ := x
    exact ⟨p, e, s.t _ _ h1, k, h2.ks s⟩
def toR : Option (List V) → List Nat
  | some us => us.map tn
  | none => []
theorem toR_rv (r : List Nat) : toR (some (rv r)) = r := by
  show ((r.map fun (n : Nat) => V.int (n : Int)).map tn) = r
  rw [List.map_map]
  have : (tn ∘ fun (n : Nat) => V.int (n : Int)) = id := by
    funext n
    exact Int.toNat_natCast n
  rw [this, List.map_id]
abbrev ansT (d : D) : D := .tup [.str [116, 111, 108, 100], d]
abbrev ansR (s : List Nat) : D := .tup [.str [114, 101, 102, 117, 115, 101, 100], .str s]
abbrev sRow : List Nat := [114, 111, 119]
abbrev sCut : List Nat := [99, 117, 116]
abbrev sNum : List Nat := [110, 117, 109, 98, 101, 114]
/-- what a deed answers, and the rows and the mark it leaves -/
def step (rs : List (List Nat)) (n : Nat) : Dd → D × List (List Nat) × Nat
  | .wri y o => if rowB o = true then (ansT (.int (rs.length : Int)), rs ++ [toR o], n) else (ansR sRow, rs, n)
  | .syn => (ansT (.int ((rs.length : Int) - (n : Int))), rs, rs.length)
  | .cut y o => if cutB o (rs.drop n) = true then (ansT .non, rs.take n ++ cutR o (rs.drop n), rs.length) else (ansR sCut, rs, n)
  | .drp y => if vin 0 (rs.length : Int) y = true then (ansT .non, rs.take (tn y), min n (tn y)) else (ansR sNum, rs, n)
/-- all but c and L stays; kinds stay -/
structure FrD (c L : Addr) (H H' : Hp) : Prop where
  k : ∀ b o, H b = some o → b ≠ c → b ≠ L → H' b = some o
  s : KS H H'
theorem FrD.of {c L : Addr} {H H' : Hp} (s : Same H H') : FrD c L H H' := ⟨fun b o h _ _ => s b o h, KS.of s⟩
theorem KS.but {c C dx : Addr} {fs : List (Str × V)} {H H' : Hp} (b : But c H H') (e : H c = some (.ins C dx fs)) : KS H H' := by
  refine ⟨fun q xs h => ⟨xs, b.k _ _ h fun z => ?_⟩, b.t, fun q ks h => b.k _ _ h fun z => ?_⟩
  · rw [z, e] at h; cases h
  · rw [z, e] at h; cases h
theorem KS.lst {H : Hp} {p : Addr} {xs ys : List V} (h : H p = some (.lst xs)) : KS H (upd H p (.lst ys)) := by
  refine ⟨fun q zs e => ?_, TSame.lst h, fun q ks e => ?_⟩
  · by_cases hq : q = p
    · exact ⟨ys, by rw [hq, upd_same]⟩
    · exact ⟨zs, by rw [upd_ne hq]; exact e⟩
  · have : q ≠ p := fun z => by rw [z, h] at e; cases e
    rw [upd_ne this]
    exact e
theorem is_told {H : Hp} {p : Addr} {v : V} {d : D} (e : H p = some (.tup [.str "told", v])) (h : Is H v d) : Is H (.ref p) (ansT d) := ⟨p, _, rfl, e, _, _, rfl, rfl, _, _, rfl, h, rfl⟩
def sp_called (K : PySem.W.Frag) : Sp := fun vs H Q _ => ∃ x y, vs = [x, y] ∧ ∃ (c dx L : Addr) (us : List V) (rs : List (List Nat)) (n : Nat) (dd : Dd), x = .ref c ∧ DkAt K H c dx L us n ∧ Rows H us rs ∧ Fit rs ∧ n ≤ us.length ∧ DeedAt H y dd ∧
  ∀ p H' L' us', FrD c L H H' → (L' = L ∨ H L' = none) → DkAt K H' c dx L' us' (step rs n dd).2.2 → Rows H' us' (step rs n dd).2.1 → Is H' (.ref p) (step rs n dd).1 → Q (.ref p) H'
section
variable {P : Program} {w : World} {K : PySem.W.Frag} {mg : Str → Option Value} {base : Heap} {f : Addr} {fd : FuncData}
theorem ok_called (T : Txt K mg) (c_Disk_write : Km P w K mg base (cc K "Disk") "write" 3 p_Disk_write (sp_write K)) (c_Disk_sync : Km P w K mg base (cc K "Disk") "sync" 1 p_Disk_sync (sp_sync K))
    (c_Disk_cut : Km P w K mg base (cc K "Disk") "cut" 3 p_Disk_cut (sp_cut K)) (c_Disk_drop : Km P w K mg base (cc K "Disk") "drop" 4 p_Disk_drop (sp_drop K))
    (F : Fun K "_law_called" "_law_called" s__law_called f fd) : FnOk P w K mg base (L2.CX P w) 5 f fd p__law_called (sp_called K) := by
  refine F.okX sc__law_called (fun vs H Q E h => ?_) (fun cdv A outer s H vs Q E hr h => ?_)
  · obtain ⟨_, _, rfl, _⟩ := h
    rfl
  · obtain ⟨x, y, rfl, c, dx, L, us, rs, n, dd, rfl, hd, hrs, hf, hn, deed, q⟩ := h
    refine ⟨_, (pss_one (ps_try_many rfl rfl takes0 (fun W pn xe tk po => (pss_cons (ps_if (pt_cmpR op_eq (pe_ix (r := rIxT K) ix_tup (pv 1) pe_int (fun _ _ => rfl)) pe_str (nomark _)) (pss_one (ps_ret (pe_tup (pa_cons pe_str (pa_cons (pm c_Disk_write T.clD hr (by first | decide | omega) (passAll tk) (pv 0) (pa_cons (pe_ix (r := rIxT K) ix_tup (pv 1) pe_int (fun _ _ => rfl)) pa_nil)) pa_nil))))) pss_nil)
 (pss_cons (ps_if (pt_cmpR op_eq (pe_ix (r := rIxT K) ix_tup (pv 1) pe_int (fun _ _ => rfl)) pe_str (nomark _)) (pss_one (ps_ret (pe_tup (pa_cons pe_str (pa_cons (pm0 c_Disk_sync T.clD hr (by first | decide | omega) passL (pv 0)) pa_nil))))) pss_nil)
 (pss_cons (ps_if (pt_cmpR op_eq (pe_ix (r := rIxT K) ix_tup (pv 1) pe_int (fun _ _ => rfl)) pe_str (nomark _)) (pss_one (ps_ret (pe_tup (pa_cons pe_str (pa_cons (pm c_Disk_cut T.clD hr (by first | decide | omega) (passAll tk) (pv 0) (pa_cons (pe_ix (r := rIxT K) ix_tup (pv 1) pe_int (fun _ _ => rfl)) pa_nil)) pa_nil))))) pss_nil)
 (pss_one (ps_ret (pe_tup (pa_cons pe_str (pa_cons (pm c_Disk_drop T.clD hr (by first | decide | omega) (passAll tk) (pv 0) (pa_cons (pe_ix (r := rIxT K) ix_tup (pv 1) pe_int (fun _ _ => rfl)) pa_nil)) pa_nil))))))))) (.cons (nmG T.e_NoRow.g) (fun a oe cls d pn hz hf => (pss_one (ps_ret (pe_tup (pa_cons pe_str (pa_cons pe_str pa_nil)))))) (.cons (nmG T.e_NoCut.g) (fun a oe cls d pn hz hf => (pss_one (ps_ret (pe_tup (pa_cons pe_str (pa_cons pe_str pa_nil)))))) (.cons (nmG T.e_NoNumber.g) (fun a oe cls d pn hz hf => (pss_one (ps_ret (pe_tup (pa_cons pe_str (pa_cons pe_str pa_nil)))))) (.cons (nmG T.g_ForestError) (fun a oe cls d pn hz hf => (pss_one (ps_ret (pe_tup (pa_cons pe_str (pa_cons pe_str pa_nil)))))) .nil)))))), ?_⟩
    have hlen := hrs.len
    have hfn := hf.n
    cases dd with
    | wri y o =>
      obtain ⟨p, rfl, hp, th, jg, good⟩ := deed
      refine ⟨_, rfl, p, _, 0, .str "write", rfl, rfl, SqT.of hp, rfl, rfl, _, rfl, ?_⟩
      rw [decide_eq_true rfl]
      refine iteT ⟨_, rfl, c, dx, _, rfl, hd.o, rfl, _, rfl, p, _, 1, y, rfl, rfl, SqT.of hp, rfl, _, _, rfl, c, dx, L, us, n, o, rfl, hd, by omega, th, jg, fun hb H1 s1 => ?_, fun hb H1 s1 σ => ?_⟩
      · have eS : step rs n (.wri y o) = (ansT (.int (rs.length : Int)), rs ++ [toR o], n) := if_pos hb
        rw [eS] at q
        have d1 := hd.same s1
        obtain ⟨r, rfl, hby, hl⟩ := good hb
        obtain ⟨ra, rfl, hra⟩ : ∃ a, y = .ref a ∧ H a = some (.tup (rv r)) := by
          cases th with
          | tup e => exact ⟨_, rfl, e⟩
        rw [toR_rv] at q
        have t2 := TSame.lst (o := .lst (us ++ [.ref ra])) d1.l
        refine ⟨sz2, fun z hz => ?_⟩
        have s3 := Same.new (o := .tup [.str "told", .int (us.length : Int)]) hz
        have o2 : (upd H1 L (.lst (us ++ [.ref ra]))) c = some (dko K dx (.ref L) (.int (n : Int))) := by
          rw [upd_ne (Ne.symm hd.ne)]
          exact d1.o
        refine q z _ L (us ++ [.ref ra]) ⟨fun b o h nc nL => s3 _ _ (by rw [upd_ne nL]; exact s1 _ _ h), ((KS.of s1).trans (KS.lst d1.l)).trans (KS.of s3)⟩ (.inl rfl) ⟨s3 _ _ o2, s3 _ _ upd_same⟩ ?_ (is_told upd_same ?_)
        · refine (((hrs.mono s1).tmono t2).mono s3).app ⟨rfl, fun i u e => ?_⟩
          cases i with
          | zero =>
            obtain rfl := Option.some.inj e
            exact ⟨r, rfl, ra, rfl, s3 _ _ (t2 _ _ (s1 _ _ hra))⟩
          | succ i => cases e
        · show V.int (us.length : Int) = V.int (rs.length : Int)
          rw [hlen]
      · have eS : step rs n (.wri y o) = (ansR sRow, rs, n) := if_neg (by rw [hb]; decide)
        rw [eS] at q
        refine ⟨true, T.m_NoRow_NoRow, fun _ a ha => ?_, fun z => by cases z⟩
        refine ⟨sz2, fun z hz => ?_⟩
        have s3 := s1.trans (Same.new (o := .tup [.str "refused", .str "row"]) hz)
        exact q z _ L us (.of s3) (.inl rfl) (hd.same s3) (hrs.mono s3) ⟨z, _, rfl, upd_same, _, _, rfl, rfl, _, _, rfl, rfl, rfl⟩
    | syn =>
      obtain ⟨p, rfl, hp⟩ := deed
      refine ⟨_, rfl, p, _, 0, .str "sync", rfl, rfl, SqT.of hp, rfl, rfl, _, rfl, ?_⟩
      refine iteF ⟨_, rfl, p, _, 0, .str "sync", rfl, rfl, SqT.of hp, rfl, rfl, _, rfl, ?_⟩
      rw [decide_eq_true rfl]
      refine iteT ⟨_, rfl, c, dx, _, rfl, hd.o, rfl, _, rfl, c, dx, L, us, n, rfl, hd, sz2, fun z hz => ?_⟩
      have b1 : But c H (upd H c (dko K dx (.ref L) (.int (us.length : Int)))) := (But.refl _ _).put (fun xs z => by rw [hd.o] at z; cases z)
      have s3 := Same.new (o := .tup [.str "told", .int ((us.length : Int) - (n : Int))]) hz
      refine q z _ L us ⟨fun b o h nc _ => s3 _ _ (by rw [upd_ne nc]; exact h), (KS.but b1 hd.o).trans (KS.of s3)⟩ (.inl rfl) ⟨s3 _ _ (by rw [upd_same, hlen]; rfl), s3 _ _ (by rw [upd_ne hd.ne]; exact hd.l)⟩ ((hrs.tmono b1.t).mono s3) (is_told upd_same ?_)
      show V.int ((us.length : Int) - (n : Int)) = V.int ((rs.length : Int) - (n : Int))
      rw [hlen]
    | cut y o =>
      obtain ⟨p, rfl, hp, th, jg⟩ := deed
      refine ⟨_, rfl, p, _, 0, .str "cut", rfl, rfl, SqT.of hp, rfl, rfl, _, rfl, ?_⟩
      refine iteF ⟨_, rfl, p, _, 0, .str "cut", rfl, rfl, SqT.of hp, rfl, rfl, _, rfl, ?_⟩
      refine iteF ⟨_, rfl, p, _, 0, .str "cut", rfl, rfl, SqT.of hp, rfl, rfl, _, rfl, ?_⟩
      rw [decide_eq_true rfl]
      refine iteT ⟨_, rfl, c, dx, _, rfl, hd.o, rfl, _, rfl, p, _, 1, y, rfl, rfl, SqT.of hp, rfl, _, _, rfl, c, dx, L, us, rs, n, o, rfl, hd, hrs, hf, hn, th, jg, fun hb M us' H1 b1 hM d1 r1 => ?_, fun hb H1 s1 σ => ?_⟩
      · have eS : step rs n (.cut y o) = (ansT .non, rs.take n ++ cutR o (rs.drop n), rs.length) := if_pos hb
        rw [eS] at q
        refine ⟨sz2, fun z hz => ?_⟩
        have s3 := Same.new (o := .tup [.str "told", .non]) hz
        exact q z _ M us' ⟨fun b o h nc _ => s3 _ _ (b1.k _ _ h nc), (KS.but b1 hd.o).trans (KS.of s3)⟩ (.inr hM) (d1.same s3) (r1.mono s3) (is_told upd_same rfl)
      · have eS : step rs n (.cut y o) = (ansR sCut, rs, n) := if_neg (by rw [hb]; decide)
        rw [eS] at q
        refine ⟨false, T.m_NoCut_NoRow, (fun z => by cases z), fun _ => ⟨true, T.m_NoCut_NoCut, fun _ a ha => ?_, fun z => by cases z⟩⟩
        refine ⟨sz2, fun z hz => ?_⟩
        have s3 := s1.trans (Same.new (o := .tup [.str "refused", .str "cut"]) hz)
        exact q z _ L us (.of s3) (.inl rfl) (hd.same s3) (hrs.mono s3) ⟨z, _, rfl, upd_same, _, _, rfl, rfl, _, _, rfl, rfl, rfl⟩
    | drp y =>
      obtain ⟨p, rfl, hp, k, hk⟩ := deed
      refine ⟨_, rfl, p, _, 0, .str "drop", rfl, rfl, SqT.of hp, rfl, rfl, _, rfl, ?_⟩
      refine iteF ⟨_, rfl, p, _, 0, .str "drop", rfl, rfl, SqT.of hp, rfl, rfl, _, rfl, ?_⟩
      refine iteF ⟨_, rfl, p, _, 0, .str "drop", rfl, rfl, SqT.of hp, rfl, rfl, _, rfl, ?_⟩
      refine iteF ⟨_, rfl, c, dx, _, rfl, hd.o, rfl, _, rfl, p, _, 1, y, rfl, rfl, SqT.of hp, rfl, _, _, rfl, c, dx, L, us, n, rfl, hd, hn, ⟨k, hk⟩, fun hb M hM => ?_, fun hb σ => ?_⟩
      · rw [hlen] at hb
        have eS : step rs n (.drp y) = (ansT .non, rs.take (tn y), min n (tn y)) := if_pos hb
        rw [eS] at q
        have s1 := Same.new (o := .lst (us.take (tn y))) hM
        have o1 := s1 _ _ hd.o
        have b1 : But c H (upd (upd H M (.lst (us.take (tn y)))) c (dko K dx (.ref M) (.int ((min n (tn y) : Nat) : Int)))) := (But.of s1).put (fun xs z => by rw [hd.o] at z; cases z)
        have nM : M ≠ c := fun z => by rw [z, hd.o] at hM; cases hM
        have l1 : (upd (upd H M (.lst (us.take (tn y)))) c (dko K dx (.ref M) (.int ((min n (tn y) : Nat) : Int)))) M = some (.lst (us.take (tn y))) := by rw [upd_ne nM, upd_same]
        refine ⟨sz2, fun z hz => ?_⟩
        have s3 := Same.new (o := .tup [.str "told", .non]) hz
        exact q z _ M _ ⟨fun b o h nc _ => s3 _ _ (b1.k _ _ h nc), (KS.but b1 hd.o).trans (KS.of s3)⟩ (.inr hM) ⟨s3 _ _ upd_same, s3 _ _ l1⟩ (((hrs.take (tn y)).tmono b1.t).mono s3) (is_told upd_same rfl)
      · rw [hlen] at hb
        have eS : step rs n (.drp y) = (ansR sNum, rs, n) := if_neg (by rw [hb]; decide)
        rw [eS] at q
        refine ⟨false, T.m_NoNumber_NoRow, (fun z => by cases z), fun _ => ⟨false, T.m_NoNumber_NoCut, (fun z => by cases z), fun _ => ⟨true, T.m_NoNumber_NoNumber, fun _ a ha => ?_, fun z => by cases z⟩⟩⟩
        refine ⟨sz2, fun z hz => ?_⟩
        have s3 := (Same.new (o := .tup [.str "refused", .str "number"]) hz)
        exact q z _ L us (.of s3) (.inl rfl) (hd.same s3) (hrs.mono s3) ⟨z, _, rfl, upd_same, _, _, rfl, rfl, _, _, rfl, rfl, rfl⟩
end
end Cl
set_option maxRecDepth 100000
set_option maxHeartbeats 4000000
/-! deeds done to an account -/
namespace Cl
open PySem PySem.Spec PyProof.Rows L2 RZ
structure AcAt (H : Hp) (A M : Addr) (us : List V) (n : Nat) : Prop where
  o : H A = some (.lst [.ref M, .int (n : Int)])
  m : H M = some (.lst us)
theorem AcAt.same {H H' : Hp} {A M : Addr} {us : List V} {n : Nat} (s : Same H H') (x : AcAt H A M us n) : AcAt H' A M us n := ⟨s _ _ x.o, s _ _ x.m⟩
theorem AcAt.ne {H : Hp} {A M : Addr} {us : List V} {n : Nat} {rs : List (List Nat)} (x : AcAt H A M us n) (r : Rows H us rs) : M ≠ A := fun z => by
  have h1 := x.m
  rw [z, x.o] at h1
  injection h1 with h1
  injection h1 with h1
  obtain ⟨r1, _, a, e, _⟩ := r.at_ 1 (.int (n : Int)) (by rw [← h1]; rfl)
  cases e
def sp_did : Sp := fun vs H Q _ => ∃ x y, vs = [x, y] ∧ ∃ (A M : Addr) (us : List V) (rs : List (List Nat)) (n : Nat) (dd : Dd), x = .ref A ∧ AcAt H A M us n ∧ Rows H us rs ∧ Fit rs ∧ n ≤ us.length ∧ DeedAt H y dd ∧
  ∀ p H' M' us', FrD A A H H' → (M' = M ∨ H M' = none) → AcAt H' A M' us' (step rs n dd).2.2 → Rows H' us' (step rs n dd).2.1 → Is H' (.ref p) (step rs n dd).1 → Q (.ref p) H'
section
variable {P : Program} {w : World} {K : PySem.W.Frag} {mg : Str → Option Value} {base : Heap} {f : Addr} {fd : FuncData}
theorem ok_did (T : Txt K mg) (c__law_number : Kn P w K mg base "_law_number" 1 p__law_number sp_number)
    (F : Fun K "_law_did" "_law_did" s__law_did f fd) : FnOk P w K mg base (L2.CX P w) 2 f fd p__law_did sp_did := by
  refine F.okX sc__law_did (fun vs H Q E h => ?_) (fun cdv A outer s H vs Q E hr h => ?_)
  · obtain ⟨_, _, rfl, _⟩ := h
    rfl
  · obtain ⟨x, y, rfl, A, M, us, rs, n, dd, rfl, hA, hrs, hf, hn, deed, q⟩ := h
    refine ⟨_, (pss_cons (ps_set (i := 2) sc__law_did.nd rfl (Or.inl rfl) (pe_ix ix_list (pv 0) pe_int (fun _ _ => rfl)))
 (pss_cons (ps_if (pt_cmpR op_eq (pe_ix ix_tup (pv 1) pe_int (fun _ _ => rfl)) pe_str (nomark _)) (pss_cons (ps_if (PW.pt (pw_or (pt_not (pt_val (pe_callB call_isi (by rfl) T.b_isinstance (by decide +kernel) (pa_cons (pe_ix ix_tup (pv 1) pe_int (fun _ _ => rfl)) (pa_cons (pe_bltn (by rfl) T.b_tuple (by decide +kernel) (v := .ty "tuple") rfl) pa_nil))))) (pw_or1 (pt_not (pt_val (pe_callB (cr_all rfl) (by rfl) T.b_all (by decide +kernel) (pa_cons (pe_lc (own := [("_law_byte", 3)]) (g := gName 3) rfl sc__law_did.nd (pi_tup (pe_ix ix_tup (pv 1) pe_int (fun _ _ => rfl))) (blkOk_by (N := N__law_did) (sc := defScope s__law_did) (by decide +kernel)) (fun _ _ _ _ _ => (pg_name (i := 3) sc__law_did.nd rfl (Or.inl rfl))) (fun _ _ _ _ _ => pts_nil) (fun _ _ _ _ _ => (pc c__law_number hr (by first | decide | omega) passL (pa_cons (pv 3) (pa_cons pe_int (pa_cons pe_int pa_nil)))))) pa_nil))))))) (pss_one (ps_ret (pe_tup (pa_cons pe_str (pa_cons pe_str pa_nil))))) pss_nil)
 (pss_cons (ps_asg (pe_op op_cat (pv 2) (pe_lst (pa_cons (pe_ix ix_tup (pv 1) pe_int (fun _ _ => rfl)) pa_nil))) (pg_sub (pv 0) pe_int set_list))
 (pss_one (ps_ret (pe_tup (pa_cons pe_str (pa_cons (pe_callB call_len_seq (by rfl) T.b_len (by decide +kernel) (pa_cons (pv 2) pa_nil)) pa_nil))))))) pss_nil)
 (pss_cons (ps_if (pt_cmpR op_eq (pe_ix ix_tup (pv 1) pe_int (fun _ _ => rfl)) pe_str (nomark _)) (pss_cons (ps_set (i := 4) sc__law_did.nd rfl (Or.inl rfl) (pe_op op_sub (pe_callB call_len_seq (by rfl) T.b_len (by decide +kernel) (pa_cons (pv 2) pa_nil)) (pe_ix ix_list (pv 0) pe_int (fun _ _ => rfl))))
 (pss_cons (ps_asg (pe_callB call_len_seq (by rfl) T.b_len (by decide +kernel) (pa_cons (pv 2) pa_nil)) (pg_sub (pv 0) pe_int set_list))
 (pss_one (ps_ret (pe_tup (pa_cons pe_str (pa_cons (pv 4) pa_nil))))))) pss_nil)
 (pss_cons (ps_if (pt_cmpR op_eq (pe_ix ix_tup (pv 1) pe_int (fun _ _ => rfl)) pe_str (nomark _)) (pss_cons (ps_if (pt_not (pt_val (pc c__law_number hr (by first | decide | omega) passL (pa_cons (pe_ix ix_tup (pv 1) pe_int (fun _ _ => rfl)) (pa_cons pe_int (pa_cons (pe_callB call_len_seq (by rfl) T.b_len (by decide +kernel) (pa_cons (pv 2) pa_nil)) pa_nil)))))) (pss_one (ps_ret (pe_tup (pa_cons pe_str (pa_cons pe_str pa_nil))))) pss_nil)
 (pss_cons (ps_asg (pe_slice sl_list (pv 2) po_none (po_some (pe_ix ix_tup (pv 1) pe_int (fun _ _ => rfl)))) (pg_sub (pv 0) pe_int set_list))
 (pss_cons (ps_asg (pe_callB (call_min2 rfl) (by rfl) T.b_min (by decide +kernel) (pa_cons (pe_ix ix_list (pv 0) pe_int (fun _ _ => rfl)) (pa_cons (pe_ix ix_tup (pv 1) pe_int (fun _ _ => rfl)) pa_nil))) (pg_sub (pv 0) pe_int set_list))
 (pss_one (ps_ret (pe_tup (pa_cons pe_str (pa_cons pe_non pa_nil)))))))) pss_nil)
 (pss_cons (ps_set (i := 5) sc__law_did.nd rfl (Or.inl rfl) (pe_slice sl_list (pv 2) (po_some (pe_ix ix_list (pv 0) pe_int (fun _ _ => rfl))) po_none))
 (pss_cons (ps_if (PW.pt (pw_or (pt_not (pt_val (pe_callB call_isi (by rfl) T.b_isinstance (by decide +kernel) (pa_cons (pe_ix ix_tup (pv 1) pe_int (fun _ _ => rfl)) (pa_cons (pe_bltn (by rfl) T.b_tuple (by decide +kernel) (v := .ty "tuple") rfl) pa_nil))))) (pw_or1 (pt_cmpR op_ne (pe_callB call_len_seq (by rfl) T.b_len (by decide +kernel) (pa_cons (pe_ix ix_tup (pv 1) pe_int (fun _ _ => rfl)) pa_nil)) (pe_callB call_len_seq (by rfl) T.b_len (by decide +kernel) (pa_cons (pv 5) pa_nil)) (nomark _))))) (pss_one (ps_ret (pe_tup (pa_cons pe_str (pa_cons pe_str pa_nil))))) pss_nil)
 (pss_cons (ps_if (pt_not (pt_val (pe_callB (cr_all rfl) (by rfl) T.b_all (by decide +kernel) (pa_cons (pe_lc (own := [("_law_many", 6), ("_law_line", 7)]) (g := gTup K 2 (gCons (gName 6) (gCons (gName 7) gNil))) rfl sc__law_did.nd (pi_zipM (by rfl) T.b_zip (pa_cons (pe_ix ix_tup (pv 1) pe_int (fun _ _ => rfl)) (pa_cons (pv 5) pa_nil))) (blkOk_by (N := N__law_did) (sc := defScope s__law_did) (by decide +kernel)) (fun _ _ _ _ _ => (pg_tup rfl (pgs_cons (pg_name (i := 6) sc__law_did.nd rfl (Or.inl rfl)) (pgs_cons (pg_name (i := 7) sc__law_did.nd rfl (Or.inl rfl)) pgs_nil)))) (fun _ _ _ _ _ => pts_nil) (fun _ _ _ _ _ => (pc c__law_number hr (by first | decide | omega) passL (pa_cons (pv 6) (pa_cons pe_int (pa_cons (pe_callB (id := "len") (r := rLenQ K) call_lenQ (by rfl) T.b_len (by decide +kernel) (pa_cons (pv 7) pa_nil)) pa_nil)))))) pa_nil)))) (pss_one (ps_ret (pe_tup (pa_cons pe_str (pa_cons pe_str pa_nil))))) pss_nil)
 (pss_cons (ps_asg (pe_op op_cat (pe_slice sl_list (pv 2) po_none (po_some (pe_ix ix_list (pv 0) pe_int (fun _ _ => rfl)))) (pe_lc (own := [("_law_many", 6), ("_law_line", 7)]) (g := gTup K 2 (gCons (gName 6) (gCons (gName 7) gNil))) rfl sc__law_did.nd (pi_zipM (by rfl) T.b_zip (pa_cons (pe_ix ix_tup (pv 1) pe_int (fun _ _ => rfl)) (pa_cons (pv 5) pa_nil))) (blkOk_by (N := N__law_did) (sc := defScope s__law_did) (by decide +kernel)) (fun _ _ _ _ _ => (pg_tup rfl (pgs_cons (pg_name (i := 6) sc__law_did.nd rfl (Or.inl rfl)) (pgs_cons (pg_name (i := 7) sc__law_did.nd rfl (Or.inl rfl)) pgs_nil)))) (fun _ _ _ _ _ => pts_nil) (fun _ _ _ _ _ => (pe_slice (r := rSlA K) sl_tupA (pv 7) po_none (po_some (pv 6)))))) (pg_sub (pv 0) pe_int set_list))
 (pss_cons (ps_asg (pe_callB call_len_seq (by rfl) T.b_len (by decide +kernel) (pa_cons (pv 2) pa_nil)) (pg_sub (pv 0) pe_int set_list))
 (pss_one (ps_ret (pe_tup (pa_cons pe_str (pa_cons pe_non pa_nil)))))))))))))), ?_⟩
    have hlen := hrs.len
    have hfn := hf.n
    have nMA := hA.ne hrs
    refine ⟨_, rfl, A, _, 0, _, rfl, rfl, SqL.of hA.o, rfl, ?_⟩
    cases dd with
    | wri y o =>
      obtain ⟨p, rfl, hp, th, jg, good⟩ := deed
      refine ⟨_, rfl, p, _, 0, .str "write", rfl, rfl, SqT.of hp, rfl, rfl, _, rfl, ?_⟩
      rw [decide_eq_true rfl]
      obtain ⟨kn, kk, ks⟩ := th.kd
      have bad : rowB o = false → ∀ H1, Same H H1 → ∀ z, H1 z = none → Q (.ref z) (upd H1 z (.tup [.str "refused", .str "row"])) := fun hb H1 s1 z hz => by
        have eS : step rs n (.wri y o) = (ansR sRow, rs, n) := if_neg (by rw [hb]; decide)
        rw [eS] at q
        have s3 := s1.trans (Same.new (o := .tup [.str "refused", .str "row"]) hz)
        exact q z _ M us (.of s3) (.inl rfl) (hA.same s3) (hrs.mono s3) ⟨z, _, rfl, upd_same, _, _, rfl, rfl, _, _, rfl, rfl, rfl⟩
      refine iteT ⟨_, rfl, p, _, 1, y, rfl, rfl, SqT.of hp, rfl, _, .ty "tuple", _, .type "tuple", _, rfl, .ty _, kk.ty, kk.isTup, _, rfl, ?_⟩
      rw [ks]
      cases o with
      | none => exact iteT (iteT ⟨sz2, bad rfl H (Same.refl _)⟩)
      | some ys =>
        obtain ⟨ra, rfl, hra⟩ : ∃ a, y = .ref a ∧ H a = some (.tup ys) := by
          cases th with
          | tup e => exact ⟨_, rfl, e⟩
        have jj := jg ys rfl
        refine iteF ⟨_, rfl, p, _, 1, .ref ra, rfl, rfl, SqT.of hp, rfl, ra, rfl, ⟨ys, SqT.of hra⟩, lc1 walk_tup (ys.map fun u => V.bl (vin 0 255 u)) (by rw [List.length_map]) jj.1 (fun H' s => SqT.of (s _ _ hra)) (fun i x H2 H3 yy Q' hi s2 yv hy => ?_) fun D H2 hD s2 hd => ?_⟩
        · obtain ⟨rfl, hx⟩ := yv
          rw [List.getElem?_map, hx] at hy
          obtain rfl := Option.some.inj hy
          obtain ⟨kd, hk⟩ := jj.2 x (List.mem_of_getElem? hx)
          exact ⟨Same.refl _, fun q' => ⟨_, rfl, _, _, _, rfl, ⟨kd, hk.mono s2⟩, q' _ (Same.refl _)⟩⟩
        · refine ⟨D, ys.map fun u => vin 0 255 u, rfl, SqL.of (by rw [hd, map_bl]), _, rfl, ?_⟩
          rw [all_map]
          cases hb : ys.all fun u => vin 0 255 u with
          | false => exact iteT ⟨sz2, bad hb H2 s2⟩
          | true =>
            have hb' : rowB (some ys) = true := hb
            have eS : step rs n (.wri (.ref ra) (some ys)) = (ansT (.int (rs.length : Int)), rs ++ [toR (some ys)], n) := if_pos hb'
            rw [eS] at q
            obtain ⟨r, er, hby, hl⟩ := good hb'
            obtain rfl := Option.some.inj er
            rw [toR_rv] at q
            refine iteF ⟨_, rfl, _, rfl, p, _, 1, .ref ra, rfl, rfl, SqT.of (s2 _ _ hp), rfl, sz_one, fun l hl2 => ?_⟩
            have s3 := s2.trans (Same.new (o := .lst [.ref ra]) hl2)
            refine ⟨M, l, us, [.ref ra], rfl, rfl, s3 _ _ hA.m, upd_same, szl (by show us.length + 1 ≤ 1000000; omega), fun m hm => ?_⟩
            have s4 := s3.trans (Same.new (o := .lst (us ++ [.ref ra])) hm)
            have nmA : m ≠ A := fun z => by rw [z, s3 _ _ hA.o] at hm; cases hm
            have hm4 : (upd (upd H2 l (.lst [.ref ra])) m (.lst (us ++ [.ref ra]))) m = some (.lst (us ++ [.ref ra])) := upd_same
            have hmH : H m = none := s3.free hm
            generalize upd (upd H2 l (.lst [.ref ra])) m (.lst (us ++ [.ref ra])) = H4 at s4 hm4
            refine ⟨_, rfl, A, _, _, _, rfl, rfl, s4 _ _ hA.o, rfl, ?_⟩
            have t5 := TSame.lst (o := .lst [.ref m, .int (n : Int)]) (s4 _ _ hA.o)
            have k5 : KS H (upd H4 A (.lst [.ref m, .int (n : Int)])) := (KS.of s4).trans (KS.lst (s4 _ _ hA.o))
            have m5 : (upd H4 A (.lst [.ref m, .int (n : Int)])) M = some (.lst us) := by rw [upd_ne nMA]; exact s4 _ _ hA.m
            refine ⟨_, rfl, M, _, rfl, .inl (SqL.of m5), sz2, fun z hz => ?_⟩
            have s6 := Same.new (o := .tup [.str "told", .int (us.length : Int)]) hz
            refine q z _ m _ ⟨fun b o h nb _ => s6 _ _ (by show upd H4 A _ b = _; rw [upd_ne nb]; exact s4 _ _ h), k5.trans (KS.of s6)⟩ (.inr hmH) ⟨s6 _ _ upd_same, s6 _ _ (by show upd H4 A _ m = _; rw [upd_ne nmA]; exact hm4)⟩ ?_ (is_told upd_same ?_)
            · refine (((hrs.mono s4).tmono t5).mono s6).app ⟨rfl, fun i u e => ?_⟩
              cases i with
              | zero =>
                obtain rfl := Option.some.inj e
                exact ⟨r, rfl, ra, rfl, s6 _ _ (t5 _ _ (s4 _ _ hra))⟩
              | succ i => cases e
            · show V.int (us.length : Int) = V.int (rs.length : Int)
              rw [hlen]
    | syn =>
      obtain ⟨p, rfl, hp⟩ := deed
      refine ⟨_, rfl, p, _, 0, .str "sync", rfl, rfl, SqT.of hp, rfl, rfl, _, rfl, ?_⟩
      refine iteF ⟨_, rfl, p, _, 0, .str "sync", rfl, rfl, SqT.of hp, rfl, rfl, _, rfl, ?_⟩
      rw [decide_eq_true rfl]
      refine iteT ⟨_, rfl, M, _, rfl, .inl (SqL.of hA.m), _, rfl, A, _, 1, _, rfl, rfl, SqL.of hA.o, rfl, _, _, rfl, rfl, ?_⟩
      refine ⟨_, rfl, M, _, rfl, .inl (SqL.of hA.m), _, rfl, A, _, _, _, rfl, rfl, hA.o, rfl, ?_⟩
      have t5 := TSame.lst (o := .lst [.ref M, .int (us.length : Int)]) hA.o
      refine ⟨_, rfl, sz2, fun z hz => ?_⟩
      have s6 := Same.new (o := .tup [.str "told", .int ((us.length : Int) - (n : Int))]) hz
      refine q z _ M us ⟨fun b o h nb _ => s6 _ _ (by show upd H A _ b = _; rw [upd_ne nb]; exact h), (KS.lst hA.o).trans (KS.of s6)⟩ (.inl rfl) ⟨s6 _ _ (by rw [show (step rs n .syn).2.2 = us.length from hlen.symm]; exact upd_same), s6 _ _ (by show upd H A _ M = _; rw [upd_ne nMA]; exact hA.m)⟩ ((hrs.tmono t5).mono s6) (is_told upd_same ?_)
      show V.int ((us.length : Int) - (n : Int)) = V.int ((rs.length : Int) - (n : Int))
      rw [hlen]
    | drp y =>
      obtain ⟨p, rfl, hp, k, hk⟩ := deed
      refine ⟨_, rfl, p, _, 0, .str "drop", rfl, rfl, SqT.of hp, rfl, rfl, _, rfl, ?_⟩
      refine iteF ⟨_, rfl, p, _, 0, .str "drop", rfl, rfl, SqT.of hp, rfl, rfl, _, rfl, ?_⟩
      refine iteF ⟨_, rfl, p, _, 0, .str "drop", rfl, rfl, SqT.of hp, rfl, rfl, _, rfl, ?_⟩
      rw [decide_eq_true rfl]
      refine iteT ⟨_, rfl, p, _, 1, y, rfl, rfl, SqT.of hp, rfl, _, rfl, M, _, rfl, .inl (SqL.of hA.m), _, _, _, rfl, ⟨k, hk⟩, _, rfl, ?_⟩
      show if (!vin 0 (us.length : Int) y) = true then _ else _
      cases hb : vin 0 (us.length : Int) y with
      | false =>
        rw [hlen] at hb
        have eS : step rs n (.drp y) = (ansR sNum, rs, n) := if_neg (by rw [hb]; decide)
        rw [eS] at q
        refine iteT ⟨sz2, fun z hz => ?_⟩
        have s3 := (Same.new (o := .tup [.str "refused", .str "number"]) hz)
        exact q z _ M us (.of s3) (.inl rfl) (hA.same s3) (hrs.mono s3) ⟨z, _, rfl, upd_same, _, _, rfl, rfl, _, _, rfl, rfl, rfl⟩
      | true =>
        obtain ⟨i, rfl, h0, h1⟩ := vin_int hb
        obtain ⟨m, rfl⟩ : ∃ m : Nat, i = (m : Int) := ⟨i.toNat, by omega⟩
        rw [hlen] at hb
        have e2 : tn (V.int (m : Int)) = m := Int.toNat_natCast m
        have eS0 : step rs n (.drp (.int (m : Int))) = (ansT .non, rs.take (tn (.int (m : Int))), min n (tn (.int (m : Int)))) := if_pos hb
        have eS : step rs n (.drp (.int (m : Int))) = (ansT .non, rs.take m, min n m) := by rw [eS0, e2]
        rw [eS] at q
        refine iteF ⟨_, rfl, _, rfl, p, _, 1, .int (m : Int), rfl, rfl, SqT.of hp, rfl, _, rfl, M, _, rfl, SqL.of hA.m, fun W hW => ?_⟩
        rw [cut_lo]
        have s1 := Same.new (o := .lst (us.take m)) hW
        have w1 : (upd H W (.lst (us.take m))) W = some (.lst (us.take m)) := upd_same
        have nWA : W ≠ A := fun z => by rw [z, hA.o] at hW; cases hW
        generalize upd H W (.lst (us.take m)) = H1 at s1 w1
        refine ⟨_, rfl, A, _, _, _, rfl, rfl, s1 _ _ hA.o, rfl, ?_⟩
        have t2 := TSame.lst (o := .lst [.ref W, .int (n : Int)]) (s1 _ _ hA.o)
        have k2 : KS H1 (upd H1 A (.lst [.ref W, .int (n : Int)])) := KS.lst (s1 _ _ hA.o)
        have x2 : (upd H1 A (.lst [.ref W, .int (n : Int)])) A = some (.lst [.ref W, .int (n : Int)]) := upd_same
        have y2 : ∀ b o, H1 b = some o → b ≠ A → (upd H1 A (.lst [.ref W, .int (n : Int)])) b = some o := fun b o h nb => by rw [upd_ne nb]; exact h
        show tSeq _ _ _ _ (upd H1 A (.lst [.ref W, .int (n : Int)]))
        generalize upd H1 A (.lst [.ref W, .int (n : Int)]) = H2 at t2 k2 x2 y2
        refine ⟨_, rfl, A, _, 1, _, rfl, rfl, SqL.of x2, rfl, _, rfl, p, _, 1, .int (m : Int), rfl, rfl, SqT.of (t2 _ _ (s1 _ _ hp)), rfl, _, _, rfl, _, rfl, A, _, _, _, rfl, rfl, x2, rfl, ?_⟩
        have e : V.int (if (m : Int) < (n : Int) then (m : Int) else (n : Int)) = .int ((min n m : Nat) : Int) := by
          by_cases g : m < n
          · rw [if_pos (by omega), Nat.min_eq_right (by omega)]
          · rw [if_neg (by omega), Nat.min_eq_left (by omega)]
        refine ⟨sz2, fun z hz => ?_⟩
        have s6 := Same.new (o := .tup [.str "told", .non]) hz
        refine q z _ W _ ⟨fun b o h nb _ => s6 _ _ (by show upd H2 A _ b = _; rw [upd_ne nb]; exact y2 _ _ (s1 _ _ h) nb), ((KS.of s1).trans k2).trans ((KS.lst x2).trans (KS.of s6))⟩ (.inr hW) ⟨s6 _ _ (by rw [← e]; exact upd_same), s6 _ _ (by show upd H2 A _ W = _; rw [upd_ne nWA]; exact y2 _ _ w1 nWA)⟩
          (((((hrs.mono s1).take m).tmono t2).tmono (TSame.lst x2)).mono s6) (is_told upd_same rfl)
    | cut y o =>
      obtain ⟨p, rfl, hp, th, jg⟩ := deed
      refine ⟨_, rfl, p, _, 0, .str "cut", rfl, rfl, SqT.of hp, rfl, rfl, _, rfl, ?_⟩
      refine iteF ⟨_, rfl, p, _, 0, .str "cut", rfl, rfl, SqT.of hp, rfl, rfl, _, rfl, ?_⟩
      refine iteF ⟨_, rfl, p, _, 0, .str "cut", rfl, rfl, SqT.of hp, rfl, rfl, _, rfl, ?_⟩
      refine iteF ⟨_, rfl, _, rfl, A, _, 1, _, rfl, rfl, SqL.of hA.o, rfl, _, rfl, ?_⟩
      refine noP ?_
      refine ⟨M, _, rfl, SqL.of hA.m, fun W hW => ?_⟩
      rw [cut_hi]
      have s1 : Same H (upd H W (.lst (us.drop n))) := Same.new hW
      have hW1 : (upd H W (.lst (us.drop n))) W = some (.lst (us.drop n)) := upd_same
      generalize upd H W (.lst (us.drop n)) = H1 at s1 hW1
      have hdl : (us.drop n).length = (rs.drop n).length := by rw [List.length_drop, List.length_drop, hlen]
      have no : cutB o (rs.drop n) = false → ∀ H2, Same H1 H2 → ∀ z, H2 z = none → Q (.ref z) (upd H2 z (.tup [.str "refused", .str "cut"])) := fun hb H2 s2 z hz => by
        have eS : step rs n (.cut y o) = (ansR sCut, rs, n) := if_neg (by rw [hb]; decide)
        rw [eS] at q
        have s3 := (s1.trans s2).trans (Same.new (o := .tup [.str "refused", .str "cut"]) hz)
        exact q z _ M us (.of s3) (.inl rfl) (hA.same s3) (hrs.mono s3) ⟨z, _, rfl, upd_same, _, _, rfl, rfl, _, _, rfl, rfl, rfl⟩
      obtain ⟨kn, kk, ks⟩ := th.kd
      refine ⟨_, rfl, p, _, 1, y, rfl, rfl, SqT.of (s1 _ _ hp), rfl, _, .ty "tuple", _, .type "tuple", _, rfl, .ty _, (kk.mono s1).ty, kk.isTup, _, rfl, ?_⟩
      rw [ks]
      cases o with
      | none => exact iteT (iteT ⟨sz2, no rfl H1 (Same.refl _)⟩)
      | some ks' =>
        obtain ⟨a, rfl, ha⟩ : ∃ a, y = .ref a ∧ H a = some (.tup ks') := by
          cases th with
          | tup e => exact ⟨_, rfl, e⟩
        have ha1 := s1 _ _ ha
        have hjk := jg ks' rfl
        refine iteF ⟨_, rfl, p, _, 1, .ref a, rfl, rfl, SqT.of (s1 _ _ hp), rfl, a, _, rfl, .inr (SqT.of ha1), _, rfl, W, _, rfl, .inl (SqL.of hW1), rfl, _, rfl, ?_⟩
        show if (!decide (V.int (ks'.length : Int) = V.int ((us.drop n).length : Int))) = true then _ else _
        by_cases hk : ks'.length = (us.drop n).length
        rotate_left
        · rw [decide_eq_false (by intro z; injection z with z; omega)]
          refine iteT ⟨sz2, no ?_ H1 (Same.refl _)⟩
          show (decide (ks'.length = (rs.drop n).length) && _) = false
          rw [decide_eq_false (by omega), Bool.false_and]
        rw [decide_eq_true (by rw [hk])]
        have hr1 := (hrs.mono s1).drop n
        have hd1 : (us.drop n).length ≤ 10000 := by rw [List.length_drop]; omega
        have hbl : ((List.zip ks' (rs.drop n)).map fun p => V.bl (vin 0 (p.2.length : Int) p.1)).length = ks'.length := by
          rw [List.length_map, List.length_zip]
          omega
        refine iteF ⟨_, rfl, p, _, 1, .ref a, rfl, rfl, SqT.of (s1 _ _ hp), rfl, _, rfl, a, W, ks', _, rfl, SqT.of ha1, SqL.of hW1, lc2 (walk_zipM rfl hk) (by decide) ((List.zip ks' (rs.drop n)).map fun p => V.bl (vin 0 (p.2.length : Int) p.1)) hbl.symm (by omega) (fun H' s => ⟨SqT.of (s _ _ ha1), SqL.of (s _ _ hW1)⟩) (fun k x z H2 yy Q' hk2 s2 ex ez ey q' => ?_) fun D H2 hD s2 hdl2 => ?_⟩
        · obtain ⟨r, er, har⟩ := hr1.at_ k z ez
          obtain ⟨b, rfl, hb⟩ := har.mono (TSame.of s2)
          rw [List.getElem?_map, zip_at ex er] at ey
          obtain rfl := Option.some.inj ey
          obtain ⟨kd, hkd⟩ := (hjk.2 x (List.mem_of_getElem? ex))
          refine ⟨_, rfl, _, rfl, b, _, rfl, .inr (SqT.of hb), _, _, _, rfl, ⟨kd, hkd.mono (s1.trans s2)⟩, ?_⟩
          rw [rv_len]
          exact q' H2 (Same.refl _)
        · refine ⟨D, (List.zip ks' (rs.drop n)).map fun p => vin 0 (p.2.length : Int) p.1, rfl, SqL.of (by rw [hdl2, List.map_map]; rfl), _, rfl, ?_⟩
          have ea : ((List.zip ks' (rs.drop n)).map fun p => vin 0 (p.2.length : Int) p.1).all id = (List.zip ks' (rs.drop n)).all fun p => vin 0 (p.2.length : Int) p.1 := by
            rw [List.all_map]
            rfl
          rw [ea]
          have ec : cutB (some ks') (rs.drop n) = (List.zip ks' (rs.drop n)).all fun p => vin 0 (p.2.length : Int) p.1 := by
            show (decide (ks'.length = (rs.drop n).length) && _) = _
            rw [decide_eq_true (by omega), Bool.true_and]
          cases hall : (List.zip ks' (rs.drop n)).all fun p => vin 0 (p.2.length : Int) p.1 with
          | false => exact iteT ⟨sz2, no (by rw [ec, hall]) H2 s2⟩
          | true =>
            have hcb : cutB (some ks') (rs.drop n) = true := by rw [ec, hall]
            have eS : step rs n (.cut (.ref a) (some ks')) = (ansT .non, rs.take n ++ cutR (some ks') (rs.drop n), rs.length) := if_pos hcb
            rw [eS] at q
            have s12 := s1.trans s2
            refine iteF ⟨_, rfl, _, rfl, A, _, 1, _, rfl, rfl, SqL.of (s12 _ _ hA.o), rfl, _, rfl, M, _, rfl, SqL.of (s12 _ _ hA.m), fun P hP => ?_⟩
            rw [cut_lo]
            have s3 : Same H2 (upd H2 P (.lst (us.take n))) := Same.new hP
            have hP3 : (upd H2 P (.lst (us.take n))) P = some (.lst (us.take n)) := upd_same
            generalize upd H2 P (.lst (us.take n)) = H3 at s3 hP3
            have s13 := s12.trans s3
            refine ⟨_, rfl, p, _, 1, .ref a, rfl, rfl, SqT.of (s13 _ _ hp), rfl, _, rfl, a, W, ks', _, rfl, SqT.of (s13 _ _ ha), SqL.of ((s2.trans s3) _ _ hW1), lc2g (walk_zipM rfl hk) (by decide) (fun k H acc => acc.length = k ∧ ∀ (i : Nat) (u : V), acc[i]? = some u → ∃ r, (cutR (some ks') (rs.drop n))[i]? = some r ∧ RowAt H u r)
              (fun H => ⟨rfl, fun i u e => by cases e⟩) (fun k H H' acc t ⟨l, g⟩ => ⟨l, fun i u e => (g i u e).imp fun r ⟨x1, x2⟩ => ⟨x1, x2.mono t⟩⟩) (fun k H acc g => g.1) (by omega) (fun H' s => ⟨SqT.of (s _ _ (s13 _ _ ha)), SqL.of (s _ _ ((s2.trans s3) _ _ hW1))⟩)
              (fun k x z H4 acc Q' hk2 s4 ex ez pk q' => ?_) fun D2 H4 acc hD2 s4 hdl4 pk => ?_⟩
            · obtain ⟨r, er, har⟩ := hr1.at_ k z ez
              obtain ⟨b, rfl, hb⟩ := har.mono (TSame.of (s2.trans (s3.trans s4)))
              have hv := List.all_eq_true.mp hall (x, r) (List.mem_of_getElem? (zip_at ex er))
              obtain ⟨iv, rfl, v1, v2⟩ := vin_int hv
              obtain ⟨m, rfl⟩ : ∃ m : Nat, iv = (m : Int) := ⟨iv.toNat, by omega⟩
              refine ⟨_, rfl, _, rfl, _, rfl, slV hb cut_lo fun p H5 s5 hp => q' H5 _ s5 ⟨by rw [List.length_append, pk.1]; rfl, fun i u e => ?_⟩⟩
              by_cases g : i < k
              · rw [List.getElem?_append_left (by rw [pk.1]; exact g)] at e
                obtain ⟨r2, x1, x2⟩ := pk.2 i u e
                exact ⟨r2, x1, x2.mono (TSame.of s5)⟩
              · rw [List.getElem?_append_right (by rw [pk.1]; omega), pk.1] at e
                have : i = k := by
                  by_cases g2 : i - k = 0
                  · omega
                  · obtain ⟨j, hj⟩ : ∃ j, i - k = j + 1 := ⟨i - k - 1, by omega⟩
                    rw [hj] at e
                    cases e
                subst this
                rw [Nat.sub_self] at e
                obtain rfl := Option.some.inj e
                refine ⟨r.take m, ?_, p, rfl, by rw [hp, rv_take]⟩
                show ((List.zip ks' (rs.drop n)).map fun p => p.2.take (tn p.1))[i]? = _
                rw [List.getElem?_map, zip_at ex er]
                show some (r.take (Int.toNat (m : Int))) = _
                rw [Int.toNat_natCast]
            · have s14 := s13.trans s4
              have hlt : (us.take n).length ≤ 10000 := by rw [List.length_take]; omega
              have hla : acc.length ≤ 10000 := by rw [pk.1]; omega
              refine ⟨P, D2, _, _, rfl, rfl, s4 _ _ hP3, hdl4, szl (by omega), fun m hm => ?_⟩
              have s5 : Same H4 (upd H4 m (.lst (us.take n ++ acc))) := Same.new hm
              have hm5 : (upd H4 m (.lst (us.take n ++ acc))) m = some (.lst (us.take n ++ acc)) := upd_same
              have hmH : H m = none := s14.free hm
              have nmA : m ≠ A := fun z => by
                rw [z, hA.o] at hmH
                cases hmH
              generalize upd H4 m (.lst (us.take n ++ acc)) = H5 at s5 hm5
              have s15 := s14.trans s5
              have hA5 := hA.same s15
              have hacc : Rows H4 acc (cutR (some ks') (rs.drop n)) := by
                refine ⟨?_, pk.2⟩
                show _ = ((List.zip ks' (rs.drop n)).map fun p => p.2.take (tn p.1)).length
                rw [pk.1, List.length_map, List.length_zip]
                omega
              have hR : Rows H4 (us.take n ++ acc) (rs.take n ++ cutR (some ks') (rs.drop n)) := ((hrs.mono s14).take n).app hacc
              refine ⟨_, rfl, A, _, _, _, rfl, rfl, hA5.o, rfl, ?_⟩
              have t6 := TSame.lst (o := .lst [.ref m, .int (n : Int)]) hA5.o
              have k6 : KS H5 (upd H5 A (.lst [.ref m, .int (n : Int)])) := KS.lst hA5.o
              have x6 : (upd H5 A (.lst [.ref m, .int (n : Int)])) A = some (.lst [.ref m, .int (n : Int)]) := upd_same
              have y6 : ∀ b o, H5 b = some o → b ≠ A → (upd H5 A (.lst [.ref m, .int (n : Int)])) b = some o := fun b o h nb => by rw [upd_ne nb]; exact h
              show tSeq _ _ _ _ (upd H5 A (.lst [.ref m, .int (n : Int)]))
              generalize upd H5 A (.lst [.ref m, .int (n : Int)]) = H6 at t6 k6 x6 y6
              have m6 := y6 _ _ hA5.m nMA
              refine ⟨_, rfl, M, _, rfl, .inl (SqL.of m6), _, rfl, A, _, _, _, rfl, rfl, x6, rfl, ?_⟩
              refine ⟨sz2, fun z hz => ?_⟩
              have s8 := Same.new (o := .tup [.str "told", .non]) hz
              refine q z _ m _ ⟨fun b o h nb _ => s8 _ _ (by show upd H6 A _ b = _; rw [upd_ne nb]; exact y6 _ _ (s15 _ _ h) nb), ((KS.of s15).trans k6).trans ((KS.lst x6).trans (KS.of s8))⟩ (.inr hmH) ⟨s8 _ _ (by rw [← hlen]; exact upd_same), s8 _ _ (by show upd H6 A _ m = _; rw [upd_ne nmA]; exact y6 _ _ hm5 nmA)⟩
                (((((hR.mono s5).tmono t6)).tmono (TSame.lst x6)).mono s8) (is_told upd_same rfl)
end
end Cl
set_option maxRecDepth 100000
set_option maxHeartbeats 4000000
/-! a disk and its account -/
namespace Cl
open PySem PySem.Spec PyProof.Rows L2 RZ
def rowsD : List (List Nat) → List D
  | [] => []
  | r :: rs => .tup (rD r) :: rowsD rs
theorem Rows.is {H : Hp} : ∀ {rs : List (List Nat)} {us : List V}, Rows H us rs → IsL H us (rowsD rs)
  | [], us, x => List.eq_nil_of_length_eq_zero x.len
  | r :: rs, us, x => by
    cases us with
    | nil => cases x.len
    | cons u us =>
      obtain ⟨r', e1, e2⟩ := x.at_ 0 u rfl
      obtain rfl := Option.some.inj e1
      refine ⟨u, us, rfl, e2.is, Rows.is ⟨Nat.succ.inj x.len, fun i v e => x.at_ (i + 1) v e⟩⟩
theorem rowsD_dep : ∀ rs : List (List Nat), deps (rowsD rs) ≤ 1
  | [] => Nat.zero_le _
  | r :: rs => by
    show max (deps (rD r) + 1) (deps (rowsD rs)) ≤ 1
    rw [deps_rD]
    have := rowsD_dep rs
    omega
theorem rowsD_len : ∀ rs : List (List Nat), (rowsD rs).length = rs.length
  | [] => rfl
  | r :: rs => by
    show (rowsD rs).length + 1 = rs.length + 1
    rw [rowsD_len rs]
theorem rowsD_wid : ∀ {rs : List (List Nat)}, (∀ r ∈ rs, byt r ∧ r.length ≤ 100000) → wids 100000 (rowsD rs) = true
  | [], _ => rfl
  | r :: rs, h => by
    show (wid 100000 (.tup (rD r)) && wids 100000 (rowsD rs)) = true
    rw [row_wid (h r List.mem_cons_self).2, rowsD_wid fun q hq => h q (List.mem_cons_of_mem _ hq)]
    rfl
theorem un_wid {r : List Nat} {d : D} (h : un r = [d]) (hl : r.length ≤ 100000) : wid 100000 d = true := by
  unfold un at h
  by_cases g : r.length < 4 ∨ sl (r.take (r.length - 4)) ≠ r.drop (r.length - 4)
  · rw [if_pos g] at h; cases h
  · rw [if_neg g] at h
    cases e : rd (r.take (r.length - 4)) with
    | error x => rw [e] at h; cases h
    | ok x =>
      rw [e] at h
      injection h with h
      subst h
      exact wid_le (by rw [List.length_take]; omega) _ (rd_good e).2.1
theorem kp_good : ∀ {rs : List (List Nat)}, (∀ r ∈ rs, byt r ∧ r.length ≤ 100000) → deps (kp rs) ≤ 20 ∧ wids 100000 (kp rs) = true ∧ (kp rs).length ≤ rs.length
  | [], _ => ⟨Nat.zero_le _, rfl, Nat.le_refl _⟩
  | r :: rs, h => by
    obtain ⟨i1, i2, i3⟩ := kp_good fun q hq => h q (List.mem_cons_of_mem _ hq)
    rw [kp_cons]
    rcases un_le r with e | ⟨d, e⟩
    · rw [e]
      exact ⟨Nat.zero_le _, rfl, Nat.zero_le _⟩
    · rw [e]
      refine ⟨?_, ?_, ?_⟩
      · show max (dep d) (deps (kp rs)) ≤ 20
        have := (un_vd e).2
        omega
      · show (wid 100000 d && wids 100000 (kp rs)) = true
        rw [un_wid e (h r List.mem_cons_self).2, i2]
        rfl
      · show (kp rs).length + 1 ≤ rs.length + 1
        omega
def sp_isdisk (K : PySem.W.Frag) : Sp := fun vs H Q _ => ∃ x y, vs = [x, y] ∧ ∃ (c dx L A M : Addr) (us us2 : List V) (rs : List (List Nat)) (n : Nat), x = .ref c ∧ y = .ref A ∧ DkAt K H c dx L us n ∧ Rows H us rs ∧ AcAt H A M us2 n ∧ Rows H us2 rs ∧ Fit rs ∧ ∀ H', Same H H' → Q (.bl true) H'
section
variable {P : Program} {w : World} {K : PySem.W.Frag} {mg : Str → Option Value} {base : Heap} {f : Addr} {fd : FuncData}
theorem ok_isdisk (T : Txt K mg) (c__law_is : Kn P w K mg base "_law_is" 25 p__law_is (sp_same 24)) (c_Disk_blocks : Km P w K mg base (cc K "Disk") "blocks" 1 p_Disk_blocks (sp_blocks K)) (c_Disk_synced : Km P w K mg base (cc K "Disk") "synced" 1 p_Disk_synced (sp_synced K))
    (c_kept_parcels : Kn P w K mg base "kept_parcels" 49 p_kept_parcels sp_parcels_in) (c__law_kept_due : Kn P w K mg base "_law_kept_due" 25 p__law_kept_due sp_parcels_in)
    (F : Fun K "_law_is_disk" "_law_is_disk" s__law_is_disk f fd) : FnOk P w K mg base (L2.CX P w) 50 f fd p__law_is_disk (sp_isdisk K) := by
  refine F.okX sc__law_is_disk (fun vs H Q E h => ?_) (fun cdv A outer s H vs Q E hr h => ?_)
  · obtain ⟨_, _, rfl, _⟩ := h
    rfl
  · obtain ⟨x, y, rfl, c, dx, L, A, M, us, us2, rs, n, rfl, rfl, hd, hr1, hA, hr2, hf, q⟩ := h
    refine ⟨_, (pss_cons (ps_if (pt_not (pt_val (pc c__law_is hr (by first | decide | omega) passL (pa_cons (pe_tup (pa_cons (pm0 c_Disk_blocks T.clD hr (by first | decide | omega) passL (pv 0)) (pa_cons (pm0 c_Disk_synced T.clD hr (by first | decide | omega) passL (pv 0)) pa_nil))) (pa_cons (pe_tup (pa_cons (pe_ix ix_list (pv 1) pe_int (fun _ _ => rfl)) (pa_cons (pe_ix ix_list (pv 1) pe_int (fun _ _ => rfl)) pa_nil))) pa_nil))))) (pss_one (ps_ret pe_bl)) pss_nil)
 (pss_one (ps_ret (pc c__law_is hr (by first | decide | omega) passL (pa_cons (pc c_kept_parcels hr (by first | decide | omega) passL (pa_cons (pe_ix ix_list (pv 1) pe_int (fun _ _ => rfl)) pa_nil)) (pa_cons (pc c__law_kept_due hr (by first | decide | omega) passL (pa_cons (pe_ix ix_list (pv 1) pe_int (fun _ _ => rfl)) pa_nil)) pa_nil)))))), ?_⟩
    have hfn := hf.n
    refine ⟨_, rfl, c, dx, _, rfl, hd.o, rfl, _, rfl, c, dx, L, us, n, rfl, hd, fun p hp => ?_⟩
    have s1 := Same.new (o := .lst us) hp
    have d1 := hd.same s1
    refine ⟨_, rfl, c, dx, _, rfl, d1.o, rfl, _, rfl, c, dx, L, us, n, rfl, d1, sz2, fun t ht => ?_⟩
    have s2 := Same.new (o := .tup [.ref p, .int (n : Int)]) ht
    have a2 := hA.same (s1.trans s2)
    refine ⟨_, rfl, A, _, 0, _, rfl, rfl, SqL.of a2.o, rfl, _, rfl, A, _, 1, _, rfl, rfl, SqL.of a2.o, rfl, sz2, fun t2 ht2 => ?_⟩
    have s3 := Same.new (o := .tup [.ref M, .int (n : Int)]) ht2
    have s13 := s1.trans (s2.trans s3)
    refine ⟨_, _, rfl, .tup [.lst (rowsD rs), .int (n : Int)], ⟨t, _, rfl, s3 _ _ upd_same, _, _, rfl, ⟨p, us, rfl, (s2.trans s3) _ _ upd_same, (hr1.mono s13).is⟩, _, _, rfl, rfl, rfl⟩,
      ⟨t2, _, rfl, upd_same, _, _, rfl, ⟨M, us2, rfl, s3 _ _ a2.m, (hr2.mono s13).is⟩, _, _, rfl, rfl, rfl⟩, ?_, ?_, fun H4 s4 => ⟨_, rfl, iteF ?_⟩⟩
    · show max (deps (rowsD rs) + 1) (max 0 0) + 1 ≤ 24
      have := rowsD_dep rs
      omega
    · show (true && ((decide ((rowsD rs).length ≤ 100000) && wids 100000 (rowsD rs)) && (true && true))) = true
      rw [rowsD_len, decide_eq_true (by omega), rowsD_wid hf.b]
      rfl
    have s14 := s13.trans s4
    have a4 := hA.same s14
    refine ⟨_, rfl, A, _, 0, _, rfl, rfl, SqL.of a4.o, rfl, _, rfl, M, us2, rs, rfl, a4.m, hr2.mono s14, hf, fun p5 us5 H5 s5 e5 i5 => ?_⟩
    have a5 := a4.same s5
    refine ⟨_, rfl, A, _, 0, _, rfl, rfl, SqL.of a5.o, rfl, _, rfl, M, us2, rs, rfl, a5.m, hr2.mono (s14.trans s5), hf, fun p6 us6 H6 s6 e6 i6 => ?_⟩
    obtain ⟨k1, k2, k3⟩ := kp_good hf.b
    refine ⟨_, _, rfl, .lst (kp rs), ⟨p5, us5, rfl, s6 _ _ e5, i5.mono s6 _ us5⟩, ⟨p6, us6, rfl, e6, i6⟩, (by show deps (kp rs) + 1 ≤ 24; omega), ?_, fun H7 s7 => q H7 (s14.trans (s5.trans (s6.trans s7)))⟩
    show (decide ((kp rs).length ≤ 100000) && wids 100000 (kp rs)) = true
    rw [decide_eq_true (by omega), k2]
    rfl
end
end Cl
set_option maxRecDepth 100000
set_option maxHeartbeats 4000000
/-! deeds drawn -/
namespace Cl
open PySem PySem.Spec PyProof.Rows L2 RZ
/-- an integer or a flag -/
def Sc (v : V) : Prop := (∃ i, v = .int i) ∨ ∃ b, v = .bl b
theorem Sc.kd {v : V} (s : Sc v) (H : Hp) : ∃ k, Kd H v k := by
  rcases s with ⟨i, rfl⟩ | ⟨b, rfl⟩
  · exact ⟨_, .int i⟩
  · exact ⟨_, .bl b⟩
/-- a thing to be judged -/
def TJ (H : Hp) (v : V) : Prop := ∃ o, Th H v o ∧ Judg H o
theorem TJ.tup {H : Hp} {p : Addr} {us : List V} (e : H p = some (.tup us)) (hl : us.length ≤ 100000) (hs : ∀ u ∈ us, Sc u) : TJ H (.ref p) := ⟨some us, .tup e, fun ws z => by
  obtain rfl := Option.some.inj z
  exact ⟨hl, fun u hu => (hs u hu).kd H⟩⟩
theorem TJ.ks {H H' : Hp} {v : V} (s : KS H H') (x : TJ H v) : TJ H' v := by
  obtain ⟨o, h1, h2⟩ := x
  exact ⟨o, h1.ks s, h2.ks s⟩
theorem NR.wri {H : Hp} {p : Addr} {v : V} (e : H p = some (.tup [.str "write", v])) (x : NR H v) : ∃ dd, DeedAt H (.ref p) dd := by
  obtain ⟨o, h1, h2, h3⟩ := x
  exact ⟨.wri v o, p, rfl, e, h1, h2, fun z => by rw [h3] at z; cases z⟩
theorem row_wri {H : Hp} {p q : Addr} {r : List Nat} (e : H p = some (.tup [.str "write", .ref q])) (e2 : H q = some (.tup (rv r))) (hb : byt r) (hl : r.length ≤ 90000) : ∃ dd, DeedAt H (.ref p) dd := by
  obtain ⟨j1, j2⟩ := row_judg e2 (by omega)
  exact ⟨.wri (.ref q) (some (rv r)), p, rfl, e, j1, j2, fun _ => ⟨r, rfl, hb, hl⟩⟩
def sp_ddeed : Sp := fun vs H Q _ => ∃ x y, vs = [x, y] ∧ ∃ (h a A M : Addr) (us : List V) (rs : List (List Nat)) (n : Nat), x = .ref h ∧ y = .ref A ∧ HandAt H h a ∧ AcAt H A M us n ∧ Rows H us rs ∧ Fit rs ∧ A ≠ h ∧ M ≠ h ∧ ∀ v dd H', But h H H' → HandAt H' h a → DeedAt H' v dd → Q v H'
theorem cutV_mem {ks : List V} {lo hi : Option Int} {x : V} (h : x ∈ cutV ks lo hi) : x ∈ ks := List.mem_of_mem_drop (List.mem_of_mem_take h)
theorem cutV_len (ks : List V) (lo hi : Option Int) : (cutV ks lo hi).length ≤ ks.length := by
  unfold cutV
  rw [List.length_take, List.length_drop]
  omega
section
variable {P : Program} {w : World} {K : PySem.W.Frag} {mg : Str → Option Value} {base : Heap} {f : Addr} {fd : FuncData}
theorem ok_ddeed (T : Txt K mg) (c__law_draw : Kn P w K mg base "_law_draw" 1 p__law_draw sp_draw) (c__law_parcel : Kn P w K mg base "_law_parcel" 4 p__law_parcel (sp_parc 2)) (c__law_sealed : Kn P w K mg base "_law_sealed" 24 p__law_sealed sp_law_sealed)
    (c__law_row : Kn P w K mg base "_law_row" 23 p__law_row (sp_row 21)) (c__law_deep : Kn P w K mg base "_law_deep" 2 p__law_deep sp_deep)
    (F : Fun K "_law_disk_deed" "_law_disk_deed" s__law_disk_deed f fd) : FnOk P w K mg base (L2.CX P w) 25 f fd p__law_disk_deed sp_ddeed := by
  refine F.okX sc__law_disk_deed (fun vs H Q E h => ?_) (fun cdv A outer s H vs Q E hr h => ?_)
  · obtain ⟨_, _, rfl, _⟩ := h
    rfl
  · obtain ⟨x, y, rfl, h, a, A, M, us, rs, n, rfl, rfl, hh, hA, hrs, hf, nA, nM, q⟩ := h
    refine ⟨_, (pss_cons (ps_set (i := 2) sc__law_disk_deed.nd rfl (Or.inl rfl) (pc c__law_draw hr (by first | decide | omega) passL (pa_cons (pv 0) (pa_cons pe_int pa_nil))))
 (pss_cons (ps_if (pt_cmpR op_lt (pv 2) pe_int (nomark _)) (pss_one (ps_ret (pe_tup (pa_cons pe_str (pa_cons (pe_ix ix_list (pe_lst (pa_cons (pc c__law_sealed hr (by first | decide | omega) passL (pa_cons (pc c__law_parcel hr (by first | decide | omega) passL (pa_cons (pv 0) (pa_cons pe_int pa_nil))) pa_nil)) (pa_cons (pc c__law_row hr (by first | decide | omega) passL (pa_cons (pc c__law_parcel hr (by first | decide | omega) passL (pa_cons (pv 0) (pa_cons pe_int pa_nil))) pa_nil)) (pa_cons (pe_tup pa_nil) pa_nil)))) (pc c__law_draw hr (by first | decide | omega) passL (pa_cons (pv 0) (pa_cons pe_int pa_nil))) (fun _ _ => rfl)) pa_nil))))) pss_nil)
 (pss_cons (ps_if (pt_cmpR op_eq (pv 2) pe_int (nomark _)) (pss_one (ps_ret (pe_tup (pa_cons pe_str (pa_cons (pe_ix ix_list (pe_lst (pa_cons pe_non (pa_cons pe_int (pa_cons (pe_lst (pa_cons pe_int pa_nil)) (pa_cons (pe_tup (pa_cons pe_int pa_nil)) (pa_cons (pe_tup (pa_cons (pe_un un_neg pe_int) pa_nil)) (pa_cons (pe_tup (pa_cons pe_bl pa_nil)) (pa_cons (pe_tup (pa_cons pe_str pa_nil)) (pa_cons (pc c__law_deep hr (by first | decide | omega) passL (pa_cons (pv 0) pa_nil)) pa_nil))))))))) (pc c__law_draw hr (by first | decide | omega) passL (pa_cons (pv 0) (pa_cons pe_int pa_nil))) (fun _ _ => rfl)) pa_nil))))) pss_nil)
 (pss_cons (ps_if (pt_cmpR op_eq (pv 2) pe_int (nomark _)) (pss_one (ps_ret (pe_tup (pa_cons pe_str pa_nil)))) pss_nil)
 (pss_cons (ps_if (pt_cmpR op_eq (pv 2) pe_int (nomark _)) (pss_cons (ps_set (i := 3) sc__law_disk_deed.nd rfl (Or.inl rfl) (pe_callB call_len_seq (by rfl) T.b_len (by decide +kernel) (pa_cons (pe_ix ix_list (pv 1) pe_int (fun _ _ => rfl)) pa_nil)))
 (pss_one (ps_ret (pe_tup (pa_cons pe_str (pa_cons (pe_ix ix_list (pe_lst (pa_cons (pv 3) (pa_cons (pe_op op_add (pv 3) pe_int) (pa_cons (pe_un un_neg pe_int) (pa_cons pe_bl (pa_cons pe_non (pa_cons (pc c__law_draw hr (by first | decide | omega) passL (pa_cons (pv 0) (pa_cons (pe_op op_add (pv 3) pe_int) pa_nil))) pa_nil))))))) (pc c__law_draw hr (by first | decide | omega) passL (pa_cons (pv 0) (pa_cons pe_int pa_nil))) (fun _ _ => rfl)) pa_nil)))))) pss_nil)
 (pss_cons (ps_set (i := 4) sc__law_disk_deed.nd rfl (Or.inl rfl) (pe_lst pa_nil))
 (pss_cons (ps_for (passes_of rfl) rfl (pi_list (pe_slice sl_list (pe_ix ix_list (pv 1) pe_int (fun _ _ => rfl)) (po_some (pe_ix ix_list (pv 1) pe_int (fun _ _ => rfl))) po_none)) (pg_name (i := 5) sc__law_disk_deed.nd rfl (Or.inl rfl)) (pss_one (ps_expr (pe_bm PySem.F.plainAttrs_list PySem.F.slot_list_append PySem.F.type_list_append mt_append (pv 4) (pa_cons (pe_ix ix_list (pe_lst (pa_cons (pe_callB call_len_seq (by rfl) T.b_len (by decide +kernel) (pa_cons (pv 5) pa_nil)) (pa_cons (pe_callB call_len_seq (by rfl) T.b_len (by decide +kernel) (pa_cons (pv 5) pa_nil)) (pa_cons pe_int (pa_cons (pc c__law_draw hr (by first | decide | omega) passL (pa_cons (pv 0) (pa_cons (pe_op op_add (pe_callB call_len_seq (by rfl) T.b_len (by decide +kernel) (pa_cons (pv 5) pa_nil)) pe_int) pa_nil))) pa_nil))))) (pc c__law_draw hr (by first | decide | omega) passL (pa_cons (pv 0) (pa_cons pe_int pa_nil))) (fun _ _ => rfl)) pa_nil)))))
 (pss_cons (ps_if (pt_cmpR op_lt (pv 2) pe_int (nomark _)) (pss_one (ps_ret (pe_tup (pa_cons pe_str (pa_cons (pe_callTy call_tuple_of (by rfl) T.b_tuple (by decide +kernel) (pa_cons (pv 4) pa_nil)) pa_nil))))) pss_nil)
 (pss_cons (ps_set (i := 6) sc__law_disk_deed.nd rfl (Or.inl rfl) (pe_lst (pa_cons (pe_callTy call_list_of (by rfl) T.b_list (by decide +kernel) (pa_cons (pv 4) pa_nil)) (pa_cons (pe_op op_catA (pe_callTy call_tuple_of (by rfl) T.b_tuple (by decide +kernel) (pa_cons (pv 4) pa_nil)) (pe_tup (pa_cons pe_int pa_nil))) (pa_cons (pe_op op_catA (pe_slice sl_tupA (pe_callTy call_tuple_of (by rfl) T.b_tuple (by decide +kernel) (pa_cons (pv 4) pa_nil)) (po_some pe_int) po_none) (pe_tup (pa_cons (pe_op op_pow pe_int pe_int) pa_nil))) (pa_cons pe_non (pa_cons (pe_op op_catA (pe_slice sl_tupA (pe_callTy call_tuple_of (by rfl) T.b_tuple (by decide +kernel) (pa_cons (pv 4) pa_nil)) po_none (po_some (pe_un un_neg pe_int))) (pe_tup (pa_cons pe_bl pa_nil))) (pa_cons (pe_tup (pa_cons (pe_un un_neg pe_int) pa_nil)) pa_nil))))))))
 (pss_one (ps_ret (pe_tup (pa_cons pe_str (pa_cons (pe_ix ix_list (pv 6) (pc c__law_draw hr (by first | decide | omega) passL (pa_cons (pv 0) (pa_cons pe_int pa_nil))) (fun _ _ => rfl)) pa_nil)))))))))))))), ?_⟩
    have hfn := hf.n
    have hlen := hrs.len
    have fin : ∀ v H', But h H H' → HandAt H' h a → (∃ dd, DeedAt H' v dd) → Q v H' := fun v H' b x ⟨dd, d⟩ => q v dd H' b x d
    refine ⟨_, rfl, _, _, rfl, h, a, 10, rfl, rfl, hh, by decide, by decide, fun kind H1 hk b1 h1 => ?_⟩
    refine ⟨_, rfl, _, _, rfl, rfl, _, rfl, ?_⟩
    show if decide ((kind : Int) < 4) = true then _ else _
    by_cases k4 : kind < 4
    · rw [decide_eq_true (by omega)]
      refine iteT ⟨_, rfl, _, _, rfl, h, a, rfl, rfl, h1, fun v1 H2 b2 h2 dr1 => ?_⟩
      obtain ⟨d1, x1, x2, x3, x4, x5⟩ := dr1
      have x5' : (wr d1).length ≤ 1000 := Nat.le_trans x5 (by decide)
      refine ⟨_, rfl, d1, x1, x2, x3, by omega, by omega, fun p1 H3 s3 e3 => ?_⟩
      have h3 := h2.same s3
      refine ⟨_, rfl, _, _, rfl, h, a, rfl, rfl, h3, fun v2 H4 b4 h4 dr2 => ?_⟩
      obtain ⟨d2, y1, y2, y3, y4, y5⟩ := dr2
      have y5' : (wr d2).length ≤ 1000 := Nat.le_trans y5 (by decide)
      refine ⟨_, rfl, d2, y1, y2, y3, by omega, by omega, fun p2 H5 s5 e5 => ?_⟩
      refine ⟨szl (by decide), fun p3 hp3 => ⟨sz3, fun L hL => ?_⟩⟩
      have s6 := s5.trans (Same.new (o := .tup []) hp3)
      have s7 := s6.trans (Same.new (o := .lst [.ref p1, .ref p2, .ref p3]) hL)
      have h7 := h4.same s7
      have nL := ((h4.same s6).apart hL).1
      refine ⟨_, rfl, _, _, rfl, h, a, 3, rfl, rfl, h7, by decide, by decide, fun k3 H8 hk3 b8 h8 => pick (b8.k _ _ upd_same nL) hk3 fun v hv => ?_⟩
      have bb := b1.trans (b2.trans ((But.of s3).trans (b4.trans ((But.of s7).trans b8))))
      have f1 : H8 p1 = some (.tup (rv (wr d1 ++ sl (wr d1)))) := b8.t _ _ (s7 _ _ (b4.t _ _ e3))
      have f2 : H8 p2 = some (.tup (rv (wr d2))) := b8.t _ _ ((Same.new hL) _ _ ((Same.new hp3) _ _ e5))
      have f3 : H8 p3 = some (.tup (rv [])) := b8.t _ _ ((Same.new hL) _ _ upd_same)
      refine ⟨sz2, fun p hp => ?_⟩
      have s9 := Same.new (o := .tup [.str "write", v]) hp
      refine fin _ _ (bb.trans (.of s9)) (h8.same s9) ?_
      rcases List.mem_cons.mp hv with rfl | hv
      · exact row_wri upd_same (s9 _ _ f1) (byt_app (wr_byt d1 x2) (sl_byt _)) (by rw [List.length_append, sl_len]; omega)
      rcases List.mem_cons.mp hv with rfl | hv
      · exact row_wri upd_same (s9 _ _ f2) (wr_byt d2 y2) (by omega)
      rcases List.mem_cons.mp hv with rfl | hv
      · exact row_wri upd_same (s9 _ _ f3) (fun b hb => by cases hb) (Nat.zero_le _)
      · cases hv
    rw [decide_eq_false (by omega)]
    refine iteF ⟨_, rfl, rfl, _, rfl, ?_⟩
    show if decide (V.int (kind : Int) = V.int 4) = true then _ else _
    by_cases e4 : kind = 4
    · rw [decide_eq_true (by rw [e4]; rfl)]
      refine iteT ⟨sz_one, fun l1 z1 => ⟨sz_one, fun t1 z2 => ⟨_, rfl, sz_one, fun t2 z3 => ⟨sz_one, fun t3 z4 => ⟨sz_one, fun t4 z5 => ?_⟩⟩⟩⟩⟩
      have w1 := Same.new (o := .lst [.int 1]) z1
      have w2 := Same.new (o := .tup [.int 256]) z2
      have w3 := Same.new (o := .tup [.int (-1)]) z3
      have w4 := Same.new (o := .tup [.bl true]) z4
      have w5 := Same.new (o := .tup [.str "a"]) z5
      have w15 := w1.trans (w2.trans (w3.trans (w4.trans w5)))
      have h5 := h1.same w15
      refine ⟨_, rfl, _, rfl, h, a, rfl, h5, fun v6 H6 b6 h6 nr6 => ?_⟩
      refine ⟨szl (by show 8 ≤ 1000000; decide), fun L hL => ?_⟩
      have s7 := Same.new (o := .lst [.non, .int 7, .ref l1, .ref t1, .ref t2, .ref t3, .ref t4, v6]) hL
      have h7 := h6.same s7
      have nL := (h6.apart hL).1
      refine ⟨_, rfl, _, _, rfl, h, a, 8, rfl, rfl, h7, by decide, by decide, fun k8 H8 hk8 b8 h8 => pick (b8.k _ _ upd_same nL) hk8 fun v hv => ?_⟩
      have ks6 := KS.hand b6 h5 h6
      have ks8 := KS.hand b8 h7 h8
      have ks := (KS.of s7).trans ks8
      have kk := ks6.trans ks
      have bb := b1.trans ((But.of w15).trans (b6.trans ((But.of s7).trans b8)))
      refine ⟨sz2, fun p hp => ?_⟩
      have s9 := Same.new (o := .tup [.str "write", v]) hp
      refine fin _ _ (bb.trans (.of s9)) (h8.same s9) (NR.wri upd_same (NR.ks (KS.of s9) ?_))
      have no : ∀ {u : V} {k : String}, Kd H8 u k → (k == "tuple") = false → NR H8 u := fun k e => ⟨none, .oth k e, (fun us z => by cases z), rfl⟩
      rcases List.mem_cons.mp hv with rfl | hv
      · exact no .non rfl
      rcases List.mem_cons.mp hv with rfl | hv
      · exact no (.int 7) rfl
      rcases List.mem_cons.mp hv with rfl | hv
      · exact NR.ks kk (NR.lst ((w2.trans (w3.trans (w4.trans w5))) _ _ upd_same))
      rcases List.mem_cons.mp hv with rfl | hv
      · exact NR.ks kk (NR.tup ((w3.trans (w4.trans w5)) _ _ upd_same) ⟨⟨_, .int _⟩, by decide⟩)
      rcases List.mem_cons.mp hv with rfl | hv
      · exact NR.ks kk (NR.tup ((w4.trans w5) _ _ upd_same) ⟨⟨_, .int _⟩, by decide⟩)
      rcases List.mem_cons.mp hv with rfl | hv
      · exact NR.ks kk (NR.tup (w5 _ _ upd_same) ⟨⟨_, .bl _⟩, by decide⟩)
      rcases List.mem_cons.mp hv with rfl | hv
      · exact NR.ks kk (NR.tup upd_same ⟨⟨_, .str _⟩, rfl⟩)
      rcases List.mem_cons.mp hv with rfl | hv
      · exact NR.ks ks nr6
      · cases hv
    rw [decide_eq_false (by intro z; injection z with z; omega)]
    refine iteF ⟨_, rfl, rfl, _, rfl, ?_⟩
    show if decide (V.int (kind : Int) = V.int 5) = true then _ else _
    by_cases e5 : kind = 5
    · rw [decide_eq_true (by rw [e5]; rfl)]
      refine iteT ⟨sz_one, fun p hp => ?_⟩
      have s9 := Same.new (o := .tup [.str "sync"]) hp
      exact fin _ _ (b1.trans (.of s9)) (h1.same s9) ⟨.syn, p, rfl, upd_same⟩
    rw [decide_eq_false (by intro z; injection z with z; omega)]
    refine iteF ⟨_, rfl, rfl, _, rfl, ?_⟩
    have a1 : AcAt H1 A M us n := ⟨b1.k _ _ hA.o nA, b1.k _ _ hA.m nM⟩
    show if decide (V.int (kind : Int) = V.int 6) = true then _ else _
    by_cases e6 : kind = 6
    · rw [decide_eq_true (by rw [e6]; rfl)]
      refine iteT ⟨_, rfl, A, _, 0, _, rfl, rfl, SqL.of a1.o, rfl, M, _, rfl, .inl (SqL.of a1.m), ?_⟩
      refine ⟨_, rfl, _, rfl, _, _, rfl, rfl, _, rfl, _, rfl, _, rfl, _, _, rfl, rfl, _, _, rfl, h, a, us.length + 1, rfl, rfl, h1, by omega, by omega, fun d2 H2 hd2 b2 h2 => ?_⟩
      refine ⟨szl (by show 6 ≤ 1000000; decide), fun L hL => ?_⟩
      have s7 := Same.new (o := .lst [.int (us.length : Int), .int ((us.length : Int) + 1), .int (-1), .bl true, .non, .int (d2 : Int)]) hL
      have h7 := h2.same s7
      have nL := (h2.apart hL).1
      refine ⟨_, rfl, _, _, rfl, h, a, 6, rfl, rfl, h7, by decide, by decide, fun k8 H8 hk8 b8 h8 => pick (b8.k _ _ upd_same nL) hk8 fun v hv => ?_⟩
      refine ⟨sz2, fun p hp => ?_⟩
      have s9 := Same.new (o := .tup [.str "drop", v]) hp
      refine fin _ _ ((b1.trans (b2.trans ((But.of s7).trans b8))).trans (.of s9)) (h8.same s9) ⟨.drp v, p, rfl, upd_same, ?_⟩
      rcases List.mem_cons.mp hv with rfl | hv
      · exact ⟨_, .int _⟩
      rcases List.mem_cons.mp hv with rfl | hv
      · exact ⟨_, .int _⟩
      rcases List.mem_cons.mp hv with rfl | hv
      · exact ⟨_, .int _⟩
      rcases List.mem_cons.mp hv with rfl | hv
      · exact ⟨_, .bl _⟩
      rcases List.mem_cons.mp hv with rfl | hv
      · exact ⟨_, .non⟩
      rcases List.mem_cons.mp hv with rfl | hv
      · exact ⟨_, .int _⟩
      · cases hv
    rw [decide_eq_false (by intro z; injection z with z; omega)]
    refine iteF ⟨szl (by decide), fun kp hkp => ?_⟩
    have s2 := Same.new (o := .lst []) hkp
    have a2 := a1.same s2
    have h2 := h1.same s2
    have nkh := (h1.apart hkp).1
    have nka := (h1.apart hkp).2
    have b02 := b1.trans (But.of s2)
    have hkpH : H kp = none := b1.free hkp nkh
    have k2 : (upd H1 kp (.lst [])) kp = some (.lst []) := upd_same
    have r2 := (hrs.tmono b02.t)
    generalize upd H1 kp (.lst []) = H2 at s2 a2 h2 b02 k2 r2
    refine ⟨_, rfl, A, _, 0, _, rfl, rfl, SqL.of a2.o, rfl, _, rfl, A, _, 1, _, rfl, rfl, SqL.of a2.o, rfl, _, rfl, ?_⟩
    refine noP ?_
    refine ⟨M, _, rfl, SqL.of a2.m, fun W hW => ?_⟩
    rw [cut_hi]
    have s3 := Same.new (o := .lst (us.drop n)) hW
    have hW3 : (upd H2 W (.lst (us.drop n))) W = some (.lst (us.drop n)) := upd_same
    have h3 := h2.same s3
    have nWh := (h2.apart hW).1
    have nWk : W ≠ kp := fun z => by rw [z, k2] at hW; cases hW
    have b03 := b02.trans (But.of s3)
    have k3 := s3 _ _ k2
    have r3 := (r2.mono s3).drop n
    generalize upd H2 W (.lst (us.drop n)) = H3 at s3 hW3 h3 b03 k3 r3
    have hd1 : (us.drop n).length ≤ 10000 := by rw [List.length_drop]; omega
    refine ⟨W, rfl, ⟨_, SqL.of hW3⟩, for_it walk_list (fun i σ H' => ∃ (ks : List V) (v5 : Option V), σ = [some (.ref h), some (.ref A), some (.int (kind : Int)), none, some (.ref kp), v5, none] ∧ But h H H' ∧ TSame H3 H' ∧ HandAt H' h a ∧ H' W = some (.lst (us.drop n)) ∧ H' kp = some (.lst ks) ∧ (∀ u ∈ ks, Sc u) ∧ ks.length = i ∧ i ≤ (us.drop n).length)
      ⟨[], none, rfl, b03, TSame.refl _, h3, hW3, k3, (fun u hu => by cases hu), rfl, Nat.zero_le _⟩ (fun i σ H' _ ⟨_, _, _, _, _, _, e, _⟩ => SqL.of e) (fun i x σ H4 H5 hi p1 yv => ?_) (fun σ H4 p1 => ?_)⟩
    · obtain ⟨ks, v5, rfl, b4, t4, h4, w4, k4, sc4, l4, _⟩ := p1
      obtain ⟨rfl, hx⟩ := yv
      obtain ⟨r, er, har⟩ := r3.at_ i x hx
      obtain ⟨ra, rfl, hra⟩ := har.mono t4
      have rl : r.length ≤ 100000 := (hf.b r (List.mem_of_mem_drop (List.mem_of_getElem? er))).2
      refine ⟨_, rfl, .inl ⟨rfl, _, SqL.of k4⟩, _, rfl, ra, _, rfl, .inr (SqT.of hra), _, rfl, ra, _, rfl, .inr (SqT.of hra), _, rfl, _, rfl, ra, _, rfl, .inr (SqT.of hra), _, _, rfl, rfl, _, _, rfl, h, a, r.length + 1, rfl, (by rw [rv_len]; rfl), h4, by omega, by omega, fun d5 H5 hd5 b5 h5 => ?_⟩
      refine ⟨szl (by show 4 ≤ 1000000; decide), fun L hL => ?_⟩
      have s6 := Same.new (o := .lst [.int ((rv r).length : Int), .int ((rv r).length : Int), .int 0, .int (d5 : Int)]) hL
      have h6 := h5.same s6
      have nL := (h5.apart hL).1
      refine ⟨_, rfl, _, _, rfl, h, a, 4, rfl, rfl, h6, by decide, by decide, fun k8 H8 hk8 b8 h8 => pick (b8.k _ _ upd_same nL) hk8 fun v hv => ?_⟩
      have bb := b5.trans ((But.of s6).trans b8)
      have k8' := bb.k _ _ k4 nkh
      refine ⟨kp, _, _, rfl, rfl, k8', szlt (by omega), ks ++ [v], _, rfl, (b4.trans bb).own hkpH, (t4.trans bb.t).trans (TSame.lst k8'), h8.own (H1 := H8) nkh nka, ?_, upd_same, fun u hu => ?_, by rw [List.length_append, l4]; rfl, by omega⟩
      · rw [upd_ne nWk]
        exact bb.k _ _ w4 nWh
      · rcases List.mem_append.mp hu with hu | hu
        · exact sc4 u hu
        · rcases List.mem_singleton.mp hu with rfl
          rcases List.mem_cons.mp hv with rfl | hv
          · exact .inl ⟨_, rfl⟩
          rcases List.mem_cons.mp hv with rfl | hv
          · exact .inl ⟨_, rfl⟩
          rcases List.mem_cons.mp hv with rfl | hv
          · exact .inl ⟨_, rfl⟩
          rcases List.mem_cons.mp hv with rfl | hv
          · exact .inl ⟨_, rfl⟩
          · cases hv
    · obtain ⟨ks, v5, rfl, b4, t4, h4, w4, k4, sc4, l4, _⟩ := p1
      have kl : ks.length ≤ 10000 := by omega
      refine ⟨_, rfl, _, _, rfl, rfl, _, rfl, ?_⟩
      show if decide ((kind : Int) < 9) = true then _ else _
      by_cases k9 : kind < 9
      · rw [decide_eq_true (by omega)]
        refine iteT ⟨_, rfl, kp, _, rfl, .inl ⟨SqL.of k4, fun z hz => ⟨sz2, fun p hp => ?_⟩⟩⟩
        have s5 := Same.new (o := .tup ks) hz
        have s6 := s5.trans (Same.new (o := .tup [.str "cut", .ref z]) hp)
        obtain ⟨o, j1, j2⟩ := TJ.tup (Same.new hp _ _ (show (upd H4 z (.tup ks)) z = some (.tup ks) from upd_same)) (by omega) sc4
        exact fin _ _ (b4.trans (.of s6)) (h4.same s6) ⟨.cut (.ref z) o, p, rfl, upd_same, j1, j2⟩
      rw [decide_eq_false (by omega)]
      refine iteF ⟨_, rfl, kp, _, rfl, .inl (SqL.of k4), fun l1 z1 => ?_⟩
      have w1 := Same.new (o := .lst ks) z1
      have k5 := w1 _ _ k4
      refine ⟨_, rfl, kp, _, rfl, .inl ⟨SqL.of k5, fun t1 z2 => ⟨sz_one, fun t2 z3 => ?_⟩⟩⟩
      have w2 := Same.new (o := .tup ks) z2
      have w3 := Same.new (o := .tup [.int 0]) z3
      refine catV (w3 _ _ upd_same) upd_same (by show _ + 1 ≤ _; omega) fun t4' G4 w4' e4' => ?_
      have w14 := w1.trans (w2.trans (w3.trans w4'))
      have k6 := w14 _ _ k4
      refine ⟨_, rfl, kp, _, rfl, .inl ⟨SqL.of k6, fun t5 z5 => ⟨_, rfl, ?_⟩⟩⟩
      refine noP ?_
      have w5 := Same.new (o := .tup ks) z5
      refine slV upd_same (cut_hi (n := 1)) fun t6 G6 w6 e6' => ?_
      refine ⟨_, _, rfl, rfl, ⟨by decide, by decide, by decide⟩, sz_one, fun t7 z7 => ?_⟩
      have w7 := Same.new (o := .tup [.int ((10 : Int) ^ (9 : Int).toNat)]) z7
      have l6 : (ks.drop 1).length ≤ 10000 := by rw [List.length_drop]; omega
      refine catV (w7 _ _ e6') upd_same (by show _ + 1 ≤ _; omega) fun t8 G8 w8 e8' => ?_
      have w18 := w14.trans (w5.trans (w6.trans (w7.trans w8)))
      have k7 := w18 _ _ k4
      refine ⟨_, rfl, kp, _, rfl, .inl ⟨SqL.of k7, fun t9 z9 => ⟨_, rfl, _, rfl, ?_⟩⟩⟩
      have w9 := Same.new (o := .tup ks) z9
      refine slV upd_same rfl fun t10 G10 w10 e10 => ?_
      have l10 : (cutV ks none (some (-1))).length ≤ 10000 := Nat.le_trans (cutV_len ks _ _) kl
      refine ⟨sz_one, fun t11 z11 => ?_⟩
      have w11 := Same.new (o := .tup [.bl true]) z11
      refine catV (w11 _ _ e10) upd_same (by show _ + 1 ≤ _; omega) fun t12 G12 w12 e12 => ?_
      refine ⟨_, rfl, sz_one, fun t13 z13 => ⟨szl (by show 6 ≤ 1000000; decide), fun L hL => ?_⟩⟩
      have w13 := Same.new (o := .tup [.int (-1)]) z13
      have u10 := w9.trans (w10.trans (w11.trans (w12.trans w13)))
      have w113 := w18.trans u10
      have sL := Same.new (o := .lst [.ref l1, .ref t4', .ref t8, .non, .ref t12, .ref t13]) hL
      have s14 := w113.trans sL
      have h14 := h4.same s14
      have nL := ((h4.same w113).apart hL).1
      refine ⟨_, rfl, _, rfl, _, _, rfl, h, a, 6, rfl, rfl, h14, by decide, by decide, fun k15 H15 hk15 b15 h15 => pick (b15.k _ _ upd_same nL) hk15 fun v hv => ?_⟩
      have ks15 := KS.hand b15 h14 h15
      refine ⟨sz2, fun p hp => ?_⟩
      have s16 := Same.new (o := .tup [.str "cut", v]) hp
      have kk := (KS.of sL).trans (ks15.trans (KS.of s16))
      have tj : TJ (upd H15 p (.tup [.str "cut", v])) v := by
        refine TJ.ks kk ?_
        have one : ∀ {us : List V} {u : V}, (∀ x ∈ us, x ∈ ks) → Sc u → ∀ x ∈ us ++ [u], Sc x := fun hs hu x hx => by
          rcases List.mem_append.mp hx with hx | hx
          · exact sc4 x (hs x hx)
          · rcases List.mem_singleton.mp hx with rfl
            exact hu
        rcases List.mem_cons.mp hv with rfl | hv
        · exact ⟨none, .oth (.lst ((w2.trans (w3.trans (w4'.trans (w5.trans (w6.trans (w7.trans (w8.trans u10))))))) _ _ upd_same)) rfl, fun us z => by cases z⟩
        rcases List.mem_cons.mp hv with rfl | hv
        · exact TJ.tup ((w5.trans (w6.trans (w7.trans (w8.trans u10)))) _ _ e4') (by rw [List.length_append]; show _ + 1 ≤ _; omega) (one (fun x hx => hx) (.inl ⟨_, rfl⟩))
        rcases List.mem_cons.mp hv with rfl | hv
        · exact TJ.tup (u10 _ _ e8') (by rw [List.length_append]; show _ + 1 ≤ _; omega) (one (fun x hx => List.mem_of_mem_drop hx) (.inl ⟨_, rfl⟩))
        rcases List.mem_cons.mp hv with rfl | hv
        · exact ⟨none, .oth .non rfl, fun us z => by cases z⟩
        rcases List.mem_cons.mp hv with rfl | hv
        · exact TJ.tup (w13 _ _ e12) (by rw [List.length_append]; show _ + 1 ≤ _; omega) (one (fun x hx => cutV_mem hx) (.inr ⟨_, rfl⟩))
        rcases List.mem_cons.mp hv with rfl | hv
        · exact TJ.tup upd_same (by show 1 ≤ 100000; decide) (fun x hx => by rcases List.mem_singleton.mp hx with rfl; exact .inl ⟨_, rfl⟩)
        · cases hv
      obtain ⟨o, j1, j2⟩ := tj
      exact fin _ _ ((b4.trans ((But.of s14).trans b15)).trans (.of s16)) (h15.same s16) ⟨.cut v o, p, rfl, upd_same, j1, j2⟩
end
end Cl
set_option maxRecDepth 100000
set_option maxHeartbeats 4000000
/-! what the law's loop keeps -/
namespace Cl
open PySem PySem.Spec PyProof.Rows L2 RZ
def Dk (K : PySem.W.Frag) (H : Hp) (c dx L : Addr) (rs : List (List Nat)) (n : Nat) : Prop := ∃ us, DkAt K H c dx L us n ∧ Rows H us rs
def Ac (H : Hp) (A M : Addr) (rs : List (List Nat)) (n : Nat) : Prop := ∃ us, AcAt H A M us n ∧ Rows H us rs
structure Wd where
  h : Addr
  a : Addr
  c : Addr
  dx : Addr
  L : Addr
  A : Addr
  M : Addr
  c2 : Addr
  dx2 : Addr
  L2 : Addr
  A2 : Addr
  M2 : Addr
structure Rd where
  rD : List (List Nat)
  rA : List (List Nat)
  rD2 : List (List Nat)
  rA2 : List (List Nat)
  nD : Nat
  nA : Nat
  nD2 : Nat
  nA2 : Nat
structure Lw (K : PySem.W.Frag) (H : Hp) (w : Wd) (r : Rd) : Prop where
  hh : HandAt H w.h w.a
  d1 : Dk K H w.c w.dx w.L r.rD r.nD
  a1 : Ac H w.A w.M r.rA r.nA
  d2 : Dk K H w.c2 w.dx2 w.L2 r.rD2 r.nD2
  a2 : Ac H w.A2 w.M2 r.rA2 r.nA2
  n1 : w.c ≠ w.c2
  n2 : w.A ≠ w.A2
  n3 : w.L ≠ w.L2
  n4 : w.L ≠ w.M
  n5 : w.L ≠ w.M2
  n6 : w.L2 ≠ w.M
  n7 : w.L2 ≠ w.M2
  n8 : w.L ≠ w.a
  n9 : w.L2 ≠ w.a
section
variable {K : PySem.W.Frag} {H H' : Hp} {h a c dx L A M : Addr} {rs : List (List Nat)} {n : Nat}
theorem Dk.fr (x : Dk K H c dx L rs n) (f1 : ∀ o, H c = some o → H' c = some o) (f2 : ∀ o, H L = some o → H' L = some o) (t : TSame H H') : Dk K H' c dx L rs n := by
  obtain ⟨us, d, r⟩ := x
  exact ⟨us, ⟨f1 _ d.o, f2 _ d.l⟩, r.tmono t⟩
theorem Ac.fr (x : Ac H A M rs n) (f1 : ∀ o, H A = some o → H' A = some o) (f2 : ∀ o, H M = some o → H' M = some o) (t : TSame H H') : Ac H' A M rs n := by
  obtain ⟨us, d, r⟩ := x
  exact ⟨us, ⟨f1 _ d.o, f2 _ d.m⟩, r.tmono t⟩
theorem HandAt.fr (x : HandAt H h a) (f1 : ∀ o, H h = some o → H' h = some o) (f2 : ∀ o, H a = some o → H' a = some o) : HandAt H' h a := by
  obtain ⟨cs, i, z, s, t, e1, e2, h0⟩ := x
  exact ⟨cs, i, z, s, t, f1 _ e1, f2 _ e2, h0⟩
theorem rows_no {p q : Addr} {xs us : List V} {i : Int} (e1 : H p = some (.lst xs)) (e2 : xs[1]? = some (.int i)) (e3 : H q = some (.lst us)) (r : Rows H us rs) : p ≠ q := fun z => by
  rw [z, e3] at e1
  injection e1 with e1
  injection e1 with e1
  rw [← e1] at e2
  obtain ⟨r1, _, b, e, _⟩ := r.at_ 1 _ e2
  cases e
theorem ins_no {p q C dx : Addr} {xs : List V} {fs : List (Str × V)} (e1 : H p = some (.lst xs)) (e2 : H q = some (.ins C dx fs)) : p ≠ q := fun z => by
  rw [z, e2] at e1
  injection e1 with e1
  cases e1
theorem hand_c (x : HandAt H h a) (y : Dk K H c dx L rs n) : h ≠ c ∧ a ≠ c ∧ h ≠ L := by
  obtain ⟨cs, i, z, s, t, e1, e2, h0⟩ := x
  obtain ⟨us, d, r⟩ := y
  exact ⟨ins_no e1 d.o, ins_no e2 d.o, rows_no e1 rfl d.l r⟩
theorem hand_A (x : HandAt H h a) (y : Ac H A M rs n) : h ≠ A ∧ a ≠ A ∧ h ≠ M := by
  obtain ⟨cs, i, z, s, t, e1, e2, h0⟩ := x
  obtain ⟨us, d, r⟩ := y
  refine ⟨fun q => ?_, fun q => ?_, rows_no e1 rfl d.m r⟩
  · rw [q, d.o] at e1
    injection e1 with e1
    injection e1 with e1
    cases e1
  · rw [q, d.o] at e2
    injection e2 with e2
    injection e2 with e2
    cases cs with
    | nil => cases e2
    | cons c cs =>
      injection e2 with e3 _
      cases e3
theorem dk_ac {rs2 : List (List Nat)} {n2 : Nat} (x : Dk K H c dx L rs n) (y : Ac H A M rs2 n2) : A ≠ c ∧ M ≠ c ∧ A ≠ L := by
  obtain ⟨us, d, r⟩ := x
  obtain ⟨us2, d2, r2⟩ := y
  exact ⟨ins_no d2.o d.o, ins_no d2.m d.o, rows_no d2.o rfl d.l r⟩
theorem dk_dk {rs2 : List (List Nat)} {n2 : Nat} {c2 dx2 L2 : Addr} (x : Dk K H c dx L rs n) (y : Dk K H c2 dx2 L2 rs2 n2) : L2 ≠ c ∧ L ≠ c2 := by
  obtain ⟨us, d, r⟩ := x
  obtain ⟨us2, d2, r2⟩ := y
  exact ⟨ins_no d2.l d.o, ins_no d.l d2.o⟩
theorem ac_ac {rs2 : List (List Nat)} {n2 : Nat} {A2 M2 : Addr} (x : Ac H A M rs n) (y : Ac H A2 M2 rs2 n2) : A ≠ M2 ∧ A2 ≠ M := by
  obtain ⟨us, d, r⟩ := x
  obtain ⟨us2, d2, r2⟩ := y
  exact ⟨rows_no d.o rfl d2.m r2, rows_no d2.o rfl d.m r⟩
theorem Dk.here (x : Dk K H c dx L rs n) {q : Addr} (e : H q = none) : q ≠ c ∧ q ≠ L := by
  obtain ⟨us, d, r⟩ := x
  exact ⟨fun z => (by rw [z, d.o] at e; cases e), fun z => (by rw [z, d.l] at e; cases e)⟩
theorem Ac.here (x : Ac H A M rs n) {q : Addr} (e : H q = none) : q ≠ A ∧ q ≠ M := by
  obtain ⟨us, d, r⟩ := x
  exact ⟨fun z => (by rw [z, d.o] at e; cases e), fun z => (by rw [z, d.m] at e; cases e)⟩
variable {w : Wd} {r : Rd}
theorem Lw.same (x : Lw K H w r) (s : Same H H') : Lw K H' w r :=
  { x with hh := x.hh.same s, d1 := x.d1.fr (s _) (s _) (TSame.of s), a1 := x.a1.fr (s _) (s _) (TSame.of s), d2 := x.d2.fr (s _) (s _) (TSame.of s), a2 := x.a2.fr (s _) (s _) (TSame.of s) }
theorem Lw.hand (x : Lw K H w r) (b : But w.h H H') (y : HandAt H' w.h w.a) : Lw K H' w r := by
  have p1 := hand_c x.hh x.d1
  have p2 := hand_c x.hh x.d2
  have p3 := hand_A x.hh x.a1
  have p4 := hand_A x.hh x.a2
  exact { x with
    hh := y
    d1 := x.d1.fr (fun o e => b.k _ o e (Ne.symm p1.1)) (fun o e => b.k _ o e (Ne.symm p1.2.2)) b.t
    a1 := x.a1.fr (fun o e => b.k _ o e (Ne.symm p3.1)) (fun o e => b.k _ o e (Ne.symm p3.2.2)) b.t
    d2 := x.d2.fr (fun o e => b.k _ o e (Ne.symm p2.1)) (fun o e => b.k _ o e (Ne.symm p2.2.2)) b.t
    a2 := x.a2.fr (fun o e => b.k _ o e (Ne.symm p4.1)) (fun o e => b.k _ o e (Ne.symm p4.2.2)) b.t }
theorem Lw.disk1 {L' : Addr} {rs' : List (List Nat)} {n' : Nat} (x : Lw K H w r) (f : FrD w.c w.L H H') (hL : L' = w.L ∨ H L' = none) (d : Dk K H' w.c w.dx L' rs' n') :
    Lw K H' { w with L := L' } { r with rD := rs', nD := n' } := by
  have p1 := hand_c x.hh x.d1
  have p3 := dk_ac x.d1 x.a1
  have p4 := dk_ac x.d1 x.a2
  have p2 := dk_dk x.d1 x.d2
  have m : ∀ {q : Addr}, w.L ≠ q → (H L' = none → L' ≠ q) → L' ≠ q := fun h1 h2 => hL.elim (fun e => e ▸ h1) h2
  exact
    { hh := x.hh.fr (fun o e => f.k _ o e p1.1 p1.2.2) (fun o e => f.k _ o e p1.2.1 (Ne.symm x.n8))
      d1 := d
      a1 := x.a1.fr (fun o e => f.k _ o e p3.1 p3.2.2) (fun o e => f.k _ o e p3.2.1 (Ne.symm x.n4)) f.s.t
      d2 := x.d2.fr (fun o e => f.k _ o e (Ne.symm x.n1) (Ne.symm p2.2)) (fun o e => f.k _ o e p2.1 (Ne.symm x.n3)) f.s.t
      a2 := x.a2.fr (fun o e => f.k _ o e p4.1 p4.2.2) (fun o e => f.k _ o e p4.2.1 (Ne.symm x.n5)) f.s.t
      n1 := x.n1, n2 := x.n2, n3 := m x.n3 fun e => (x.d2.here e).2, n4 := m x.n4 fun e => (x.a1.here e).2, n5 := m x.n5 fun e => (x.a2.here e).2, n6 := x.n6, n7 := x.n7, n8 := m x.n8 fun e => (x.hh.apart e).2, n9 := x.n9 }
theorem Lw.disk2 {L' : Addr} {rs' : List (List Nat)} {n' : Nat} (x : Lw K H w r) (f : FrD w.c2 w.L2 H H') (hL : L' = w.L2 ∨ H L' = none) (d : Dk K H' w.c2 w.dx2 L' rs' n') :
    Lw K H' { w with L2 := L' } { r with rD2 := rs', nD2 := n' } := by
  have p1 := hand_c x.hh x.d2
  have p3 := dk_ac x.d2 x.a1
  have p4 := dk_ac x.d2 x.a2
  have p2 := dk_dk x.d1 x.d2
  have m : ∀ {q : Addr}, w.L2 ≠ q → (H L' = none → L' ≠ q) → L' ≠ q := fun h1 h2 => hL.elim (fun e => e ▸ h1) h2
  exact
    { hh := x.hh.fr (fun o e => f.k _ o e p1.1 p1.2.2) (fun o e => f.k _ o e p1.2.1 (Ne.symm x.n9))
      d1 := x.d1.fr (fun o e => f.k _ o e x.n1 (Ne.symm p2.1)) (fun o e => f.k _ o e p2.2 x.n3) f.s.t
      a1 := x.a1.fr (fun o e => f.k _ o e p3.1 p3.2.2) (fun o e => f.k _ o e p3.2.1 (Ne.symm x.n6)) f.s.t
      d2 := d
      a2 := x.a2.fr (fun o e => f.k _ o e p4.1 p4.2.2) (fun o e => f.k _ o e p4.2.1 (Ne.symm x.n7)) f.s.t
      n1 := x.n1, n2 := x.n2, n3 := Ne.symm (m (Ne.symm x.n3) fun e => (x.d1.here e).2), n4 := x.n4, n5 := x.n5, n6 := m x.n6 fun e => (x.a1.here e).2, n7 := m x.n7 fun e => (x.a2.here e).2, n8 := x.n8, n9 := m x.n9 fun e => (x.hh.apart e).2 }
theorem Lw.acc1 {M' : Addr} {rs' : List (List Nat)} {n' : Nat} (x : Lw K H w r) (f : FrD w.A w.A H H') (hM : M' = w.M ∨ H M' = none) (d : Ac H' w.A M' rs' n') :
    Lw K H' { w with M := M' } { r with rA := rs', nA := n' } := by
  have p1 := hand_A x.hh x.a1
  have p3 := dk_ac x.d1 x.a1
  have p4 := dk_ac x.d2 x.a1
  have p2 := ac_ac x.a1 x.a2
  have m : ∀ {q : Addr}, q ≠ w.M → (H M' = none → M' ≠ q) → q ≠ M' := fun h1 h2 => hM.elim (fun e => e ▸ h1) (fun e => Ne.symm (h2 e))
  have g : ∀ {q : Addr}, q ≠ w.A → ∀ o, H q = some o → H' q = some o := fun hq o e => f.k _ o e hq hq
  exact
    { hh := x.hh.fr (g p1.1) (g p1.2.1)
      d1 := x.d1.fr (g (Ne.symm p3.1)) (g (Ne.symm p3.2.2)) f.s.t
      a1 := d
      d2 := x.d2.fr (g (Ne.symm p4.1)) (g (Ne.symm p4.2.2)) f.s.t
      a2 := x.a2.fr (g (Ne.symm x.n2)) (g (Ne.symm p2.1)) f.s.t
      n1 := x.n1, n2 := x.n2, n3 := x.n3, n4 := m x.n4 fun e => (x.d1.here e).2, n5 := x.n5, n6 := m x.n6 fun e => (x.d2.here e).2, n7 := x.n7, n8 := x.n8, n9 := x.n9 }
theorem Lw.acc2 {M' : Addr} {rs' : List (List Nat)} {n' : Nat} (x : Lw K H w r) (f : FrD w.A2 w.A2 H H') (hM : M' = w.M2 ∨ H M' = none) (d : Ac H' w.A2 M' rs' n') :
    Lw K H' { w with M2 := M' } { r with rA2 := rs', nA2 := n' } := by
  have p1 := hand_A x.hh x.a2
  have p3 := dk_ac x.d1 x.a2
  have p4 := dk_ac x.d2 x.a2
  have p2 := ac_ac x.a1 x.a2
  have m : ∀ {q : Addr}, q ≠ w.M2 → (H M' = none → M' ≠ q) → q ≠ M' := fun h1 h2 => hM.elim (fun e => e ▸ h1) (fun e => Ne.symm (h2 e))
  have g : ∀ {q : Addr}, q ≠ w.A2 → ∀ o, H q = some o → H' q = some o := fun hq o e => f.k _ o e hq hq
  exact
    { hh := x.hh.fr (g p1.1) (g p1.2.1)
      d1 := x.d1.fr (g (Ne.symm p3.1)) (g (Ne.symm p3.2.2)) f.s.t
      a1 := x.a1.fr (g x.n2) (g (Ne.symm p2.2)) f.s.t
      d2 := x.d2.fr (g (Ne.symm p4.1)) (g (Ne.symm p4.2.2)) f.s.t
      a2 := d
      n1 := x.n1, n2 := x.n2, n3 := x.n3, n4 := x.n4, n5 := m x.n5 fun e => (x.d1.here e).2, n6 := x.n6, n7 := m x.n7 fun e => (x.d2.here e).2, n8 := x.n8, n9 := x.n9 }
theorem Lw.copyD {c' dx' L' : Addr} (x : Lw K H w r) (s : Same H H') (hc : H c' = none) (hL : H L' = none) (d : Dk K H' c' dx' L' r.rD r.nD) :
    Lw K H' { w with c2 := c', dx2 := dx', L2 := L' } { r with rD2 := r.rD, nD2 := r.nD } := by
  have y := x.same s
  exact { y with d2 := d, n1 := Ne.symm (x.d1.here hc).1, n3 := Ne.symm (x.d1.here hL).2, n6 := (x.a1.here hL).2, n7 := (x.a2.here hL).2, n9 := (x.hh.apart hL).2 }
theorem Lw.copyA {A' : Addr} (x : Lw K H w r) (hA : H A' = none) :
    Lw K (upd H A' (.lst [.ref w.M, .int (r.nA : Int)])) { w with A2 := A', M2 := w.M } { r with rA2 := r.rA, nA2 := r.nA } := by
  have s : Same H (upd H A' (.lst [.ref w.M, .int (r.nA : Int)])) := Same.new hA
  have y := x.same s
  obtain ⟨us, d, q⟩ := x.a1
  exact { y with a2 := ⟨us, ⟨upd_same, s _ _ d.m⟩, q.mono s⟩, n2 := Ne.symm (x.a1.here hA).1, n5 := x.n4, n7 := x.n6 }
end
/-- rows of bytes, fit -/
def Fb (rs : List (List Nat)) : Prop := ∀ r ∈ rs, byt r ∧ r.length ≤ 100000
theorem cutR_mem {o : Option (List V)} {ws : List (List Nat)} {q : List Nat} (h : q ∈ cutR o ws) : ∃ r ∈ ws, ∃ m, q = r.take m := by
  cases o with
  | none => cases h
  | some ks =>
    obtain ⟨p, hp, rfl⟩ := List.mem_map.mp (show q ∈ (List.zip ks ws).map fun p => p.2.take (tn p.1) from h)
    exact ⟨p.2, (List.of_mem_zip hp).2, _, rfl⟩
theorem cut_len {o : Option (List V)} {ws : List (List Nat)} (h : cutB o ws = true) : (cutR o ws).length = ws.length := by
  cases o with
  | none => cases h
  | some ks =>
    have h1 := (Bool.and_eq_true_iff.mp (show (decide (ks.length = ws.length) && _) = true from h)).1
    have := of_decide_eq_true h1
    show ((List.zip ks ws).map fun p => p.2.take (tn p.1)).length = _
    rw [List.length_map, List.length_zip]
    omega
theorem step_good {H : Hp} {v : V} {rs : List (List Nat)} {n : Nat} {dd : Dd} (hd : DeedAt H v dd) (hf : Fb rs) (hn : n ≤ rs.length) (h9 : rs.length ≤ 9000) :
    Fb (step rs n dd).2.1 ∧ (step rs n dd).2.2 ≤ (step rs n dd).2.1.length ∧ (step rs n dd).2.1.length ≤ rs.length + 1 ∧ dep (step rs n dd).1 ≤ 24 ∧ wid 100000 (step rs n dd).1 = true := by
  cases dd with
  | wri y o =>
    obtain ⟨p, _, _, _, _, good⟩ := hd
    by_cases hb : rowB o = true
    · have e : step rs n (.wri y o) = (ansT (.int (rs.length : Int)), rs ++ [toR o], n) := if_pos hb
      obtain ⟨r, rfl, h1, h2⟩ := good hb
      rw [e, toR_rv]
      refine ⟨fun q hq => ?_, (by show n ≤ (rs ++ [r]).length; rw [List.length_append]; omega), (by show (rs ++ [r]).length ≤ _; rw [List.length_append]; exact Nat.le_refl _), by show max 0 (max 0 0) + 1 ≤ 24; decide, rfl⟩
      rcases List.mem_append.mp hq with hq | hq
      · exact hf q hq
      · rcases List.mem_singleton.mp hq with rfl
        exact ⟨h1, by omega⟩
    · have e : step rs n (.wri y o) = (ansR sRow, rs, n) := if_neg hb
      rw [e]
      exact ⟨hf, hn, Nat.le_succ _, by show max 0 (max 0 0) + 1 ≤ 24; decide, rfl⟩
  | syn => exact ⟨hf, Nat.le_refl _, Nat.le_succ _, by show max 0 (max 0 0) + 1 ≤ 24; decide, rfl⟩
  | cut y o =>
    by_cases hb : cutB o (rs.drop n) = true
    · have e : step rs n (.cut y o) = (ansT .non, rs.take n ++ cutR o (rs.drop n), rs.length) := if_pos hb
      rw [e]
      have el : (rs.take n ++ cutR o (rs.drop n)).length = rs.length := by
        rw [List.length_append, cut_len hb, List.length_take, List.length_drop]
        omega
      refine ⟨fun q hq => ?_, Nat.le_of_eq el.symm, by show (rs.take n ++ cutR o (rs.drop n)).length ≤ _; omega, by show max 0 (max 0 0) + 1 ≤ 24; decide, rfl⟩
      rcases List.mem_append.mp hq with hq | hq
      · exact hf q (List.mem_of_mem_take hq)
      · obtain ⟨r, hr, m, rfl⟩ := cutR_mem hq
        have := hf r (List.mem_of_mem_drop hr)
        exact ⟨byt_take this.1 m, by rw [List.length_take]; omega⟩
    · have e : step rs n (.cut y o) = (ansR sCut, rs, n) := if_neg hb
      rw [e]
      exact ⟨hf, hn, Nat.le_succ _, by show max 0 (max 0 0) + 1 ≤ 24; decide, rfl⟩
  | drp y =>
    by_cases hb : vin 0 (rs.length : Int) y = true
    · have e : step rs n (.drp y) = (ansT .non, rs.take (tn y), min n (tn y)) := if_pos hb
      rw [e]
      refine ⟨fun q hq => hf q (List.mem_of_mem_take hq), ?_, ?_, by show max 0 (max 0 0) + 1 ≤ 24; decide, rfl⟩
      · show min n (tn y) ≤ (rs.take (tn y)).length
        rw [List.length_take]
        omega
      · show (rs.take (tn y)).length ≤ _
        rw [List.length_take]
        omega
    · have e : step rs n (.drp y) = (ansR sNum, rs, n) := if_neg hb
      rw [e]
      exact ⟨hf, hn, Nat.le_succ _, by show max 0 (max 0 0) + 1 ≤ 24; decide, rfl⟩
end Cl
set_option maxRecDepth 100000
set_option maxHeartbeats 4000000
/-! the law -/
namespace Cl
open PySem PySem.Spec PyProof.Rows L2 RZ
theorem vd_ansT {d : D} (h : vd d = true) : vd (ansT d) = true := by
  show (vstr [116, 111, 108, 100] && (vd d && true)) = true
  rw [h]
  decide
theorem step_vd (rs : List (List Nat)) (n : Nat) (dd : Dd) : vd (step rs n dd).1 = true := by
  cases dd with
  | wri y o =>
    by_cases hb : rowB o = true
    · rw [show step rs n (.wri y o) = (ansT (.int (rs.length : Int)), rs ++ [toR o], n) from if_pos hb]
      exact vd_ansT rfl
    · rw [show step rs n (.wri y o) = (ansR sRow, rs, n) from if_neg hb]
      show vd (ansR sRow) = true
      decide
  | syn => exact vd_ansT rfl
  | cut y o =>
    by_cases hb : cutB o (rs.drop n) = true
    · rw [show step rs n (.cut y o) = (ansT .non, rs.take n ++ cutR o (rs.drop n), rs.length) from if_pos hb]
      exact vd_ansT rfl
    · rw [show step rs n (.cut y o) = (ansR sCut, rs, n) from if_neg hb]
      show vd (ansR sCut) = true
      decide
  | drp y =>
    by_cases hb : vin 0 (rs.length : Int) y = true
    · rw [show step rs n (.drp y) = (ansT .non, rs.take (tn y), min n (tn y)) from if_pos hb]
      exact vd_ansT rfl
    · rw [show step rs n (.drp y) = (ansR sNum, rs, n) from if_neg hb]
      show vd (ansR sNum) = true
      decide
abbrev Rd2 (rs rs2 : List (List Nat)) (n n2 : Nat) : Rd := ⟨rs, rs, rs2, rs2, n, n, n2, n2⟩
def sp_law (K : PySem.W.Frag) : Sp := fun vs H Q _ => ∃ x, vs = [x] ∧ ∃ (S : Addr) (cs : List Int), x = .ref S ∧ SqL K H S (cs.map V.int) ∧ cs.length ≤ 100000 ∧ ∀ H', Q (.bl true) H'
/-- what holds at turn i -/
def At_ (K : PySem.W.Frag) (S : Addr) (v6 : Option V) (i m : Nat) (σ : L2.St) (H : Hp) : Prop := ∃ (w : Wd) (rs rs2 : List (List Nat)) (n n2 : Nat) (v7 : Option V), σ = [some (.ref S), some (.ref w.h), some (.ref w.c), some (.ref w.A), some (.ref w.c2), some (.ref w.A2), v6, v7] ∧
  Lw K H w (Rd2 rs rs2 n n2) ∧ Fb rs ∧ Fb rs2 ∧ n ≤ rs.length ∧ n2 ≤ rs2.length ∧ rs.length ≤ m ∧ rs2.length ≤ i
section
variable {P : Program} {w : World} {K : PySem.W.Frag} {mg : Str → Option Value} {base : Heap} {f : Addr} {fd : FuncData}
theorem ok_law (T : Txt K mg) (c__law_hand : Kn P w K mg base "_law_hand" 1 p__law_hand (sp_hand K)) (c_Disk : Ki P w K mg base "Disk" (cc K "Disk") 1 p_Disk_init (sp_dinit K)) (c_Disk_copy : Km P w K mg base (cc K "Disk") "copy" 3 p_Disk_copy (sp_copy K))
    (c_Disk_blocks : Km P w K mg base (cc K "Disk") "blocks" 1 p_Disk_blocks (sp_blocks K)) (c__law_draw : Kn P w K mg base "_law_draw" 1 p__law_draw sp_draw) (c__law_disk_deed : Kn P w K mg base "_law_disk_deed" 25 p__law_disk_deed sp_ddeed)
    (c__law_is : Kn P w K mg base "_law_is" 25 p__law_is (sp_same 24)) (c__law_called : Kn P w K mg base "_law_called" 5 p__law_called (sp_called K)) (c__law_did : Kn P w K mg base "_law_did" 2 p__law_did sp_did)
    (c__law_is_disk : Kn P w K mg base "_law_is_disk" 50 p__law_is_disk (sp_isdisk K)) (c__law_are_rows : Kn P w K mg base "_law_are_rows" 48 p__law_are_rows sp_arerows)
    (F : Fun K "law" "law" s_law f fd) : FnOk P w K mg base (L2.CX P w) 51 f fd p_law (sp_law K) := by
  refine F.okX sc_law (fun vs H Q E h => ?_) (fun cdv A outer s H vs Q E hr h => ?_)
  · obtain ⟨_, rfl, _⟩ := h
    rfl
  · obtain ⟨x, rfl, S, cs, rfl, hS, hz, q⟩ := h
    refine ⟨_, (pss_cons (ps_set (i := 1) sc_law.nd rfl (Or.inl rfl) (pc c__law_hand hr (by first | decide | omega) passL (pa_cons (pv 0) pa_nil)))
 (pss_cons (ps_set (i := 2) sc_law.nd rfl (Or.inl rfl) (pmk0 c_Disk hr (by first | decide | omega) passL))
 (pss_cons (ps_set (i := 3) sc_law.nd rfl (Or.inl rfl) (pe_lst (pa_cons (pe_lst pa_nil) (pa_cons pe_int pa_nil))))
 (pss_cons (ps_set (i := 4) sc_law.nd rfl (Or.inl rfl) (pm0 c_Disk_copy T.clD hr (by first | decide | omega) passL (pv 2)))
 (pss_cons (ps_set (i := 5) sc_law.nd rfl (Or.inl rfl) (pe_lst (pa_cons (pe_lst pa_nil) (pa_cons pe_int pa_nil))))
 (pss_cons (ps_for (passes_of rfl) rfl (pi_range1 (by rfl) T.b_range (pa_cons (pe_op op_add pe_int (pc c__law_draw hr (by first | decide | omega) passL (pa_cons (pv 1) (pa_cons pe_int pa_nil)))) pa_nil)) (pg_name (i := 6) sc_law.nd rfl (Or.inl rfl)) (C8.pss_cut (ps_if (pt_cmpR op_eq (pc c__law_draw hr (by first | decide | omega) passL (pa_cons (pv 1) (pa_cons pe_int pa_nil))) pe_int (nomark _)) (pss_cons (ps_set (i := 4) sc_law.nd rfl (Or.inl rfl) (pm0 c_Disk_copy T.clD hr (by first | decide | omega) passL (pv 2)))
 (pss_one (ps_set (i := 5) sc_law.nd rfl (Or.inl rfl) (pe_callTy call_list_of (by rfl) T.b_list (by decide +kernel) (pa_cons (pv 3) pa_nil))))) pss_nil)
 (pss_cons (ps_set (i := 7) sc_law.nd rfl (Or.inl rfl) (pc c__law_disk_deed hr (by first | decide | omega) passL (pa_cons (pv 1) (pa_cons (pv 3) pa_nil))))
 (pss_cons (ps_if (PW.pt (pw_or (pt_not (pt_val (pc c__law_is hr (by first | decide | omega) passL (pa_cons (pc c__law_called hr (by first | decide | omega) passL (pa_cons (pv 2) (pa_cons (pv 7) pa_nil))) (pa_cons (pc c__law_did hr (by first | decide | omega) passL (pa_cons (pv 3) (pa_cons (pv 7) pa_nil))) pa_nil))))) (pw_or1 (pt_not (pt_val (pc c__law_is_disk hr (by first | decide | omega) passL (pa_cons (pv 2) (pa_cons (pv 3) pa_nil)))))))) (pss_one (ps_ret pe_bl)) pss_nil)
 (pss_cons (ps_expr (pe_bm PySem.F.plainAttrs_list PySem.F.slot_list_append PySem.F.type_list_append mt_append (pm0 c_Disk_blocks T.clD hr (by first | decide | omega) passL (pv 2)) (pa_cons (pe_tup (pa_cons pe_int pa_nil)) pa_nil)))
 (C8.pss_cut (ps_if (pt_cmpR op_eq (pe_op op_mod (pv 6) pe_int) pe_int (nomark _)) (pss_cons (ps_set (i := 7) sc_law.nd rfl (Or.inl rfl) (pc c__law_disk_deed hr (by first | decide | omega) passL (pa_cons (pv 1) (pa_cons (pv 5) pa_nil))))
 (pss_one (ps_if (pt_not (pt_val (pc c__law_is hr (by first | decide | omega) passL (pa_cons (pc c__law_called hr (by first | decide | omega) passL (pa_cons (pv 4) (pa_cons (pv 7) pa_nil))) (pa_cons (pc c__law_did hr (by first | decide | omega) passL (pa_cons (pv 5) (pa_cons (pv 7) pa_nil))) pa_nil))))) (pss_one (ps_ret pe_bl)) pss_nil))) pss_nil)
 (pss_one (ps_if (PW.pt (pw_or (pt_not (pt_val (pc c__law_is_disk hr (by first | decide | omega) passL (pa_cons (pv 4) (pa_cons (pv 5) pa_nil))))) (pw_or1 (pt_not (pt_val (pc c__law_are_rows hr (by first | decide | omega) passL (pa_cons (pv 1) pa_nil))))))) (pss_one (ps_ret pe_bl)) pss_nil))))))))
 (pss_one (ps_ret (pc c__law_is_disk hr (by first | decide | omega) passL (pa_cons (pv 2) (pa_cons (pv 3) pa_nil))))))))))), ?_⟩
    refine ⟨_, rfl, _, rfl, S, cs, rfl, hS, hz, fun h a H1 hh s1 hand1 => ?_⟩
    refine fun c dx hc hdx ne => ⟨_, rfl, c, dx, rfl, upd_same, fun L hL => ⟨rfl, ?_⟩⟩
    have t1 : Same H1 (upd (upd (upd (upd H1 dx (.own c)) c (.ins (cc K "Disk") dx [])) L (.lst [])) c (dko K dx (.ref L) (.int 0))) := Same.own ((Same.own (Same.new hdx) hc).trans (Same.new hL)) hc
    have o1 : (upd (upd (upd (upd H1 dx (.own c)) c (.ins (cc K "Disk") dx [])) L (.lst [])) c (dko K dx (.ref L) (.int 0))) c = some (dko K dx (.ref L) (.int 0)) := upd_same
    have nLc : L ≠ c := fun z => by rw [z, upd_same] at hL; cases hL
    have l1 : (upd (upd (upd (upd H1 dx (.own c)) c (.ins (cc K "Disk") dx [])) L (.lst [])) c (dko K dx (.ref L) (.int 0))) L = some (.lst []) := by rw [upd_ne nLc, upd_same]
    have hLH : H1 L = none := (Same.own (Same.new hdx) hc).free hL
    generalize upd (upd (upd (upd H1 dx (.own c)) c (.ins (cc K "Disk") dx [])) L (.lst [])) c (dko K dx (.ref L) (.int 0)) = H2 at t1 o1 l1
    have dk1 : DkAt K H2 c dx L [] 0 := ⟨o1, l1⟩
    have hand2 := hand1.same t1
    refine ⟨szl (by decide), fun M hM => ⟨sz2, fun A hA => ?_⟩⟩
    have t2 := (Same.new (o := .lst []) hM).trans (Same.new (o := .lst [.ref M, .int 0]) hA)
    have m2 := (Same.new (o := .lst [.ref M, .int 0]) hA) _ _ (show (upd H2 M (.lst [])) M = some (.lst []) from upd_same)
    have ac2 : AcAt (upd (upd H2 M (.lst [])) A (.lst [.ref M, .int 0])) A M [] 0 := ⟨upd_same, m2⟩
    generalize upd (upd H2 M (.lst [])) A (.lst [.ref M, .int 0]) = H3 at t2 ac2
    have dk3 := dk1.same t2
    have hand3 := hand2.same t2
    have r0 : ∀ H, Rows H [] [] := fun H => ⟨rfl, fun i u e => by cases e⟩
    refine ⟨_, rfl, c, dx, _, rfl, dk3.o, rfl, _, rfl, c, dx, L, [], 0, rfl, dk3, fun c2 dx2 L2 H4 t4 hc2 hL2 dk4 => ?_⟩
    refine ⟨szl (by decide), fun M2 hM2 => ⟨sz2, fun A2 hA2 => ?_⟩⟩
    have t5 := (Same.new (o := .lst []) hM2).trans (Same.new (o := .lst [.ref M2, .int 0]) hA2)
    have m5 := (Same.new (o := .lst [.ref M2, .int 0]) hA2) _ _ (show (upd H4 M2 (.lst [])) M2 = some (.lst []) from upd_same)
    have ac5 : AcAt (upd (upd H4 M2 (.lst [])) A2 (.lst [.ref M2, .int 0])) A2 M2 [] 0 := ⟨upd_same, m5⟩
    have hA2' : H4 A2 = none := (Same.new (o := .lst []) hM2).free hA2
    generalize upd (upd H4 M2 (.lst [])) A2 (.lst [.ref M2, .int 0]) = H5 at t5 ac5
    have live : ∀ {G : Hp} {p q : Addr} {o : HO}, G p = some o → G q = none → p ≠ q := fun h1 h2 z => by rw [z, h2] at h1; cases h1
    have lw : Lw K H5 ⟨h, a, c, dx, L, A, M, c2, dx2, L2, A2, M2⟩ (Rd2 [] [] 0 0) :=
      { hh := hand3.same (t4.trans t5)
        d1 := ⟨[], dk3.same (t4.trans t5), r0 _⟩
        a1 := ⟨[], ac2.same (t4.trans t5), r0 _⟩
        d2 := ⟨[], dk4.same t5, r0 _⟩
        a2 := ⟨[], ac5, r0 _⟩
        n1 := live dk3.o hc2
        n2 := live (t4 _ _ ac2.o) hA2'
        n3 := live dk3.l hL2
        n4 := live l1 hM
        n5 := live (t4 _ _ dk3.l) hM2
        n6 := Ne.symm (live ac2.m hL2)
        n7 := live dk4.l hM2
        n8 := Ne.symm (by
          obtain ⟨cs', i, z, s', t', e1, e2, h0⟩ := hand1
          exact live e2 hLH)
        n9 := Ne.symm (by
          obtain ⟨cs', i, z, s', t', e1, e2, h0⟩ := hand3
          exact live e2 hL2) }
    refine ⟨_, rfl, _, _, rfl, h, a, 20, rfl, rfl, lw.hh, by decide, by decide, fun d H6 hd b6 y6 => ⟨_, _, rfl, rfl, ?_⟩⟩
    have lw6 := lw.hand b6 y6
    refine ⟨(1 + (d : Int)), rfl, by omega, by omega, ?_⟩
    rw [show (1 + (d : Int)).toNat = 1 + d by omega]
    refine for_it walk_range (fun i σ H' => i ≤ 30 ∧ ∃ v6, At_ K S v6 i i σ H') ⟨Nat.zero_le _, none, _, [], [], 0, 0, none, rfl, lw6, (fun r hr => by cases hr), (fun r hr => by cases hr), Nat.le_refl _, Nat.le_refl _, Nat.le_refl _, Nat.le_refl _⟩
      (fun _ _ _ _ _ => trivial) (fun i x σ H7 H8 hi p1 yv => ?_) (fun σ H7 p1 => ?_)
    · obtain ⟨i30, v6, w, rs, rs2, n, n2, v7, rfl, x, fb, fb2, hn, hn2, hl, hl2⟩ := p1
      obtain ⟨rfl, rfl⟩ := yv
      refine ⟨At_ K S (some (.int (0 + (i : Int)))) i i, ?_, ?_⟩
      · refine ⟨_, rfl, _, _, rfl, w.h, w.a, 8, rfl, rfl, x.hh, by decide, by decide, fun k1 H8 hk1 b8 y8 => ⟨rfl, _, rfl, ?_⟩⟩
        have x8 := x.hand b8 y8
        show if decide (V.int (k1 : Int) = V.int 0) = true then _ else _
        generalize decide (V.int (k1 : Int) = V.int 0) = bb
        cases bb with
        | false => exact iteF ⟨w, rs, rs2, n, n2, v7, rfl, x8, fb, fb2, hn, hn2, hl, hl2⟩
        | true =>
          obtain ⟨us, dk, rw1⟩ := x8.d1
          refine iteT ⟨_, rfl, w.c, w.dx, _, rfl, dk.o, rfl, _, rfl, w.c, w.dx, w.L, us, n, rfl, dk, fun c3 dx3 L3 H9 t9 hc3 hL3 dk9 => ?_⟩
          have x9 := x8.copyD t9 hc3 hL3 ⟨us, dk9, rw1.mono t9⟩
          obtain ⟨usA, ac, rwA⟩ := x9.a1
          refine ⟨_, rfl, w.A, _, rfl, .inl (SqL.of ac.o), fun A3 hA3 => ?_⟩
          exact ⟨_, rs, rs, n, n, v7, rfl, x9.copyA hA3, fb, fb, hn, hn, hl, hl⟩
      · rintro σ H8 ⟨w, rs, rs2, n, n2, v7, rfl, x, fb, fb2, hn, hn2, hl, hl2⟩
        have pA := hand_A x.hh x.a1
        obtain ⟨usA, ac, rwA⟩ := x.a1
        refine ⟨_, rfl, _, rfl, _, _, rfl, w.h, w.a, w.A, w.M, usA, rs, n, rfl, rfl, x.hh, ac, rwA, ⟨fb, by omega⟩, Ne.symm pA.1, Ne.symm pA.2.2, fun v dd H9 b9 y9 deed => ?_⟩
        have x9 := x.hand b9 y9
        have sg := step_good deed fb hn (by omega)
        have svd := step_vd rs n dd
        obtain ⟨us, dk, rwD⟩ := x9.d1
        have ld := rwD.len
        refine ⟨_, rfl, _, rfl, _, _, rfl, w.c, w.dx, w.L, us, rs, n, dd, rfl, dk, rwD, ⟨fb, by omega⟩, (by show n ≤ us.length; rw [ld]; exact hn), deed, fun p1 H10 L' us' f10 hL' dk' rw' is1 => ?_⟩
        have x10 := x9.disk1 f10 hL' ⟨us', dk', rw'⟩
        obtain ⟨usA, ac, rwA⟩ := x10.a1
        have lA := rwA.len
        refine ⟨_, rfl, _, rfl, _, _, rfl, w.A, w.M, usA, rs, n, dd, rfl, ac, rwA, ⟨fb, by omega⟩, (by show n ≤ usA.length; rw [lA]; exact hn), deed.ks f10.s, fun p2 H11 M' us4 f11 hM' ac' rw4 is2 => ?_⟩
        have x11 := x10.acc1 f11 hM' ⟨us4, ac', rw4⟩
        refine ⟨_, _, rfl, (step rs n dd).1, is1.tmono f11.s.t _ _ svd, is2, sg.2.2.2.1, sg.2.2.2.2, fun H12 s12 => ⟨_, rfl, iteF ?_⟩⟩
        have x12 := x11.same s12
        clear x10 x11 is1 is2
        obtain ⟨g1, g2, g3, _, _⟩ := sg
        generalize (step rs n dd).2.1 = rs' at x12 g1 g2 g3
        generalize (step rs n dd).2.2 = n' at x12 g2
        obtain ⟨usD, dk12, rwD12⟩ := x12.d1
        obtain ⟨usA12, ac12, rwA12⟩ := x12.a1
        refine ⟨_, rfl, _, rfl, _, _, rfl, w.c, w.dx, L', w.A, M', usD, usA12, rs', n', rfl, rfl, dk12, rwD12, ac12, rwA12, ⟨g1, (by show rs'.length ≤ 10000; omega)⟩, fun H13 s13 => ⟨_, rfl, iteF ?_⟩⟩
        have x13 := x12.same s13
        have dk13 := dk12.same s13
        have l13 : usD.length = rs'.length := rwD12.len
        refine ⟨_, rfl, w.c, w.dx, _, rfl, dk13.o, rfl, _, rfl, w.c, w.dx, L', usD, n', rfl, dk13, fun p hp => ⟨.inl ⟨rfl, _, SqL.of upd_same⟩, sz_one, fun t ht => ?_⟩⟩
        have s14 := (Same.new (o := .lst usD) hp).trans (Same.new (o := .tup [.int 7]) ht)
        have p14 := (Same.new (o := .tup [.int 7]) ht) _ _ (show (upd H13 p (.lst usD)) p = some (.lst usD) from upd_same)
        refine ⟨p, _, _, rfl, rfl, p14, szlt (by omega), ?_⟩
        have x15 := x13.same (Same.own (o := .lst (usD ++ [.ref t])) s14 hp)
        have hl' : rs'.length ≤ i + 1 := by omega
        generalize upd (upd (upd H13 p (.lst usD)) t (.tup [.int 7])) p (.lst (usD ++ [.ref t])) = H15 at x15
        have x15 : Lw K H15 { w with L := L', M := M' } (Rd2 rs' rs2 n' n2) := x15
        refine ⟨At_ K S (some (.int (0 + (i : Int)))) (i + 1) (i + 1), ?_, ?_⟩
        · refine ⟨_, rfl, _, _, rfl, rfl, (by show (0 : Int) < 3; decide), rfl, _, rfl, ?_⟩
          show if decide (V.int ((0 + (i : Int)) % 3) = V.int 0) = true then _ else _
          generalize decide (V.int ((0 + (i : Int)) % 3) = V.int 0) = bb
          cases bb with
          | false => exact iteF ⟨{ w with L := L', M := M' }, rs', rs2, n', n2, _, rfl, x15, g1, fb2, g2, hn2, hl', by omega⟩
          | true =>
            have pA := hand_A x15.hh x15.a2
            obtain ⟨usA, ac, rwA⟩ := x15.a2
            refine iteT ⟨_, rfl, _, rfl, _, _, rfl, w.h, w.a, w.A2, w.M2, usA, rs2, n2, rfl, rfl, x15.hh, ac, rwA, ⟨fb2, by omega⟩, Ne.symm pA.1, Ne.symm pA.2.2, fun v dd H16 b16 y16 deed => ?_⟩
            have x16 := x15.hand b16 y16
            have sg := step_good deed fb2 hn2 (by omega)
            have svd := step_vd rs2 n2 dd
            obtain ⟨us, dk, rwD⟩ := x16.d2
            have ld : us.length = rs2.length := rwD.len
            refine ⟨_, rfl, _, rfl, _, _, rfl, w.c2, w.dx2, w.L2, us, rs2, n2, dd, rfl, dk, rwD, ⟨fb2, by omega⟩, (by omega), deed, fun p1 H17 L'' us' f17 hL'' dk' rw' is1 => ?_⟩
            have x17 := x16.disk2 f17 hL'' ⟨us', dk', rw'⟩
            obtain ⟨usA, ac, rwA⟩ := x17.a2
            have lA : usA.length = rs2.length := rwA.len
            refine ⟨_, rfl, _, rfl, _, _, rfl, w.A2, w.M2, usA, rs2, n2, dd, rfl, ac, rwA, ⟨fb2, by omega⟩, (by omega), deed.ks f17.s, fun p2 H18 M'' us4 f18 hM'' ac' rw4 is2 => ?_⟩
            have x18 := x17.acc2 f18 hM'' ⟨us4, ac', rw4⟩
            refine ⟨_, _, rfl, (step rs2 n2 dd).1, is1.tmono f18.s.t _ _ svd, is2, sg.2.2.2.1, sg.2.2.2.2, fun H19 s19 => ⟨_, rfl, iteF ?_⟩⟩
            have x19 := x18.same s19
            exact ⟨{ w with L := L', M := M', L2 := L'', M2 := M'' }, rs', (step rs2 n2 dd).2.1, n', (step rs2 n2 dd).2.2, _, rfl, x19, g1, sg.1, g2, sg.2.1, hl', by have := sg.2.2.1; omega⟩
        · rintro σ H16 ⟨w', rs, rs2, n, n2, v7', rfl, x16, fb, fb2, hn, hn2, hl, hl2⟩
          obtain ⟨usD, dk16, rwD16⟩ := x16.d2
          obtain ⟨usA16, ac16, rwA16⟩ := x16.a2
          refine ⟨_, rfl, _, rfl, _, _, rfl, w'.c2, w'.dx2, w'.L2, w'.A2, w'.M2, usD, usA16, rs2, n2, rfl, rfl, dk16, rwD16, ac16, rwA16, ⟨fb2, (by omega)⟩, fun H17 s17 => ⟨_, rfl, iteF ?_⟩⟩
          have x17 := x16.same s17
          refine ⟨_, rfl, _, rfl, w'.h, w'.a, rfl, x17.hh, fun H18 b18 y18 => ⟨_, rfl, iteF ?_⟩⟩
          exact ⟨by omega, some (.int (0 + (i : Int))), w', rs, rs2, n, n2, v7', rfl, x17.hand b18 y18, fb, fb2, hn, hn2, hl, hl2⟩
    · obtain ⟨i30, v6, w, rs, rs2, n, n2, v7, rfl, x, fb, fb2, hn, hn2, hl, hl2⟩ := p1
      obtain ⟨us, dk, rw1⟩ := x.d1
      obtain ⟨usA, ac, rwA⟩ := x.a1
      exact ⟨_, rfl, _, rfl, _, _, rfl, w.c, w.dx, w.L, w.A, w.M, us, usA, rs, n, rfl, rfl, dk, rw1, ac, rwA, ⟨fb, by omega⟩, fun H' _ => q H'⟩
end
end Cl
set_option maxRecDepth 100000
set_option maxHeartbeats 0
/-! the head by facts, the end -/
namespace Cl
open PySem PySem.Spec PyProof.Rows L2 RZ
theorem funOf {K : PySem.W.Frag} {x q : Str} {st : Stmt} {f : Addr} {fd : FuncData} (F : FunD K x q (defArgs st) (defBody st) (defScope st) [] [] f fd) : Fun K x q st f fd := by
  obtain ⟨⟨oc, od, dV, kV, doc, pm, an, cdv, ct, osl, e, lk, cd, dv, kw⟩, kp⟩ := F
  rcases dv with ⟨_, rfl⟩ | ⟨h, _⟩
  · exact ⟨⟨oc, od, kV, doc, pm, an, cdv, ct, osl, e, lk, cd⟩, kp⟩
  · exact absurd rfl h
/-- an own error class with its own __init__ -/
def oexB (K : PySem.W.Frag) (C : Addr) : Bool := match K.lookup C with
  | some ⟨.type "type", _, .cls cd, sl⟩ => (match cd.mro, sl.toList with
    | .ref C' :: bm, [_, _, _, _, some (.builtin n), _] => C' == C && n == "ValueError.__new__" && !cd.hasDel && cd.hasDict && PySem.HandSPX.refsVE bm
    | _, _ => false)
  | _ => false
theorem oexB_ok {K : PySem.W.Frag} {C : Addr} (q : oexB K C = true) : ∃ nm q N bs bm sn sub ab col dd k0 k1 k2 k3 k5, K.lookup C = some (excClassObj nm q C N bs bm true sn sub ab col dd k0 k1 k2 k3 k5 "ValueError.__new__") ∧ PySem.HandSPX.refsVE bm = true := by
  unfold oexB at q
  split at q
  · rename_i dd cd sl ho
    split at q
    · rename_i C' bm k0 k1 k2 k3 n k5 hm hs
      simp only [Bool.and_eq_true, beq_iff_eq, Bool.not_eq_true'] at q
      obtain ⟨⟨⟨⟨rfl, rfl⟩, hdel⟩, hdict⟩, ht⟩ := q
      obtain ⟨nm, bs, mro, ns, qn, hd, sn, sub, ab, col, del⟩ := cd
      dsimp only at hm hdel hdict
      subst hm hdel hdict
      have hsl : sl = #[k0, k1, k2, k3, some (.builtin "ValueError.__new__"), k5] := by
        obtain ⟨l⟩ := sl
        simp only at hs
        rw [hs]
      subst hsl
      exact ⟨nm, qn, ns, bs, bm, sn, sub, ab, col, dd, k0, k1, k2, k3, k5, ho, ht⟩
    · cases q
  · cases q
def exB (K : PySem.W.Frag) : Bool := oexB K (cc K "BadRow") && (He.eqO (PySem.W.findIn K (.ref (cc K "BadRow")) "__setattr__") (some (some (.builtin "object.__setattr__"))) && (decide (PySem.W.subIn K (.ref (cc K "BadRow")) (.type "BaseException") = some true) && (decide (PySem.W.typeIn K (.ref (cc K "BadRow")) = some (.type "type")) &&
  (PySem.W.keepIn K (.ref (cc K "BadRow")) && (xfB K (cc K "BadRow") && decide (PySem.W.typeIn K (.ref (He.ma K (cc K "BadRow") "__init__")) = some (.type "function")))))))
theorem exB_ok {K : PySem.W.Frag} (h : exB K = true) : OexC K (cc K "BadRow") ∧ XfC K (cc K "BadRow") ∧ PySem.W.typeIn K (.ref (He.ma K (cc K "BadRow") "__init__")) = some (.type "function") := by
  obtain ⟨h1, h⟩ := He.ba h
  obtain ⟨h2, h⟩ := He.ba h
  obtain ⟨h3, h⟩ := He.ba h
  obtain ⟨h4, h⟩ := He.ba h
  obtain ⟨h5, h⟩ := He.ba h
  obtain ⟨h6, h7⟩ := He.ba h
  exact ⟨⟨oexB_ok h1, He.eqO_ok h2, of_decide_eq_true h3, of_decide_eq_true h4, h5⟩, xfB_ok h6, of_decide_eq_true h7⟩
def d_is_integer : He.DefD := ⟨("is_integer", none), "is_integer", "is_integer", defArgs s_is_integer, defBody s_is_integer, defScope s_is_integer, [], []⟩
def d_is_within : He.DefD := ⟨("is_within", none), "is_within", "is_within", defArgs s_is_within, defBody s_is_within, defScope s_is_within, [], []⟩
def d__law_number : He.DefD := ⟨("_law_number", none), "_law_number", "_law_number", defArgs s__law_number, defBody s__law_number, defScope s__law_number, [], []⟩
def d_is_sign : He.DefD := ⟨("is_sign", none), "is_sign", "is_sign", defArgs s_is_sign, defBody s_is_sign, defScope s_is_sign, [], []⟩
def d_is_sized : He.DefD := ⟨("is_sized", none), "is_sized", "is_sized", defArgs s_is_sized, defBody s_is_sized, defScope s_is_sized, [], []⟩
def d_is_listed : He.DefD := ⟨("is_listed", none), "is_listed", "is_listed", defArgs s_is_listed, defBody s_is_listed, defScope s_is_listed, [], []⟩
def d_check_within : He.DefD := ⟨("check_within", none), "check_within", "check_within", defArgs s_check_within, defBody s_check_within, defScope s_check_within, [], []⟩
def d_is_row : He.DefD := ⟨("is_row", none), "is_row", "is_row", defArgs s_is_row, defBody s_is_row, defScope s_is_row, [], []⟩
def d_check_row : He.DefD := ⟨("check_row", none), "check_row", "check_row", defArgs s_check_row, defBody s_check_row, defScope s_check_row, [], []⟩
def d_is_short_string : He.DefD := ⟨("is_short_string", none), "is_short_string", "is_short_string", defArgs s_is_short_string, defBody s_is_short_string, defScope s_is_short_string, [], []⟩
def d_is_parcel_deep : He.DefD := ⟨("is_parcel_deep", none), "is_parcel_deep", "is_parcel_deep", defArgs s_is_parcel_deep, defBody s_is_parcel_deep, defScope s_is_parcel_deep, [], []⟩
def d_is_parcel : He.DefD := ⟨("is_parcel", none), "is_parcel", "is_parcel", defArgs s_is_parcel, defBody s_is_parcel, defScope s_is_parcel, [], []⟩
def d_whole : He.DefD := ⟨("whole", none), "whole", "whole", defArgs s_whole, defBody s_whole, defScope s_whole, [], []⟩
def d_bytes_of : He.DefD := ⟨("bytes_of", none), "bytes_of", "bytes_of", defArgs s_bytes_of, defBody s_bytes_of, defScope s_bytes_of, [], []⟩
def d_row_of : He.DefD := ⟨("row_of", none), "row_of", "row_of", defArgs s_row_of, defBody s_row_of, defScope s_row_of, [], []⟩
def d_raw_mark : He.DefD := ⟨("raw_mark", none), "raw_mark", "raw_mark", defArgs s_raw_mark, defBody s_raw_mark, defScope s_raw_mark, [], []⟩
def d__law_mark : He.DefD := ⟨("_law_mark", none), "_law_mark", "_law_mark", defArgs s__law_mark, defBody s__law_mark, defScope s__law_mark, [], []⟩
def d_mark : He.DefD := ⟨("mark", none), "mark", "mark", defArgs s_mark, defBody s_mark, defScope s_mark, [], []⟩
def d_seal_of : He.DefD := ⟨("seal_of", none), "seal_of", "seal_of", defArgs s_seal_of, defBody s_seal_of, defScope s_seal_of, [], []⟩
def d__law_seal : He.DefD := ⟨("_law_seal", none), "_law_seal", "_law_seal", defArgs s__law_seal, defBody s__law_seal, defScope s__law_seal, [], []⟩
def d_sealed : He.DefD := ⟨("sealed", none), "sealed", "sealed", defArgs s_sealed, defBody s_sealed, defScope s_sealed, [], []⟩
def d__law_figures : He.DefD := ⟨("_law_figures", none), "_law_figures", "_law_figures", defArgs s__law_figures, defBody s__law_figures, defScope s__law_figures, [], []⟩
def d__law_row : He.DefD := ⟨("_law_row", none), "_law_row", "_law_row", defArgs s__law_row, defBody s__law_row, defScope s__law_row, [], []⟩
def d__law_sealed : He.DefD := ⟨("_law_sealed", none), "_law_sealed", "_law_sealed", defArgs s__law_sealed, defBody s__law_sealed, defScope s__law_sealed, [], []⟩
def d__law_read_whole : He.DefD := ⟨("_law_read_whole", none), "_law_read_whole", "_law_read_whole", defArgs s__law_read_whole, defBody s__law_read_whole, defScope s__law_read_whole, [], []⟩
def d__law_sign : He.DefD := ⟨("_law_sign", none), "_law_sign", "_law_sign", defArgs s__law_sign, defBody s__law_sign, defScope s__law_sign, [], []⟩
def d__law_read_text : He.DefD := ⟨("_law_read_text", none), "_law_read_text", "_law_read_text", defArgs s__law_read_text, defBody s__law_read_text, defScope s__law_read_text, [], []⟩
def d__law_read_parcel : He.DefD := ⟨("_law_read_parcel", none), "_law_read_parcel", "_law_read_parcel", defArgs s__law_read_parcel, defBody s__law_read_parcel, defScope s__law_read_parcel, [], []⟩
def d__law_read : He.DefD := ⟨("_law_read", none), "_law_read", "_law_read", defArgs s__law_read, defBody s__law_read, defScope s__law_read, [], []⟩
def d_BadRow_init : He.DefD := ⟨("BadRow", some "__init__"), "__init__", "BadRow.__init__", defArgs s_BadRow_init, defBody s_BadRow_init, defScope s_BadRow_init, [], []⟩
def d_RowReader_init : He.DefD := ⟨("RowReader", some "__init__"), "__init__", "RowReader.__init__", defArgs s_RowReader_init, defBody s_RowReader_init, defScope s_RowReader_init, [], []⟩
def d_RowReader_next_byte : He.DefD := ⟨("RowReader", some "next_byte"), "next_byte", "RowReader.next_byte", defArgs s_RowReader_next_byte, defBody s_RowReader_next_byte, defScope s_RowReader_next_byte, [], []⟩
def d_RowReader_read_whole : He.DefD := ⟨("RowReader", some "read_whole"), "read_whole", "RowReader.read_whole", defArgs s_RowReader_read_whole, defBody s_RowReader_read_whole, defScope s_RowReader_read_whole, [], []⟩
def d_RowReader_read_string : He.DefD := ⟨("RowReader", some "read_string"), "read_string", "RowReader.read_string", defArgs s_RowReader_read_string, defBody s_RowReader_read_string, defScope s_RowReader_read_string, [], []⟩
def d_RowReader_read_parcel : He.DefD := ⟨("RowReader", some "read_parcel"), "read_parcel", "RowReader.read_parcel", defArgs s_RowReader_read_parcel, defBody s_RowReader_read_parcel, defScope s_RowReader_read_parcel, [], []⟩
def d_parcel_of : He.DefD := ⟨("parcel_of", none), "parcel_of", "parcel_of", defArgs s_parcel_of, defBody s_parcel_of, defScope s_parcel_of, [], []⟩
def d_unsealed : He.DefD := ⟨("unsealed", none), "unsealed", "unsealed", defArgs s_unsealed, defBody s_unsealed, defScope s_unsealed, [], []⟩
def d_parcels_in : He.DefD := ⟨("parcels_in", none), "parcels_in", "parcels_in", defArgs s_parcels_in, defBody s_parcels_in, defScope s_parcels_in, [], []⟩
def d_kept_parcels : He.DefD := ⟨("kept_parcels", none), "kept_parcels", "kept_parcels", defArgs s_kept_parcels, defBody s_kept_parcels, defScope s_kept_parcels, [], []⟩
def d__law_kept_due : He.DefD := ⟨("_law_kept_due", none), "_law_kept_due", "_law_kept_due", defArgs s__law_kept_due, defBody s__law_kept_due, defScope s__law_kept_due, [], []⟩
def d_Disk_init : He.DefD := ⟨("Disk", some "__init__"), "__init__", "Disk.__init__", defArgs s_Disk_init, defBody s_Disk_init, defScope s_Disk_init, [], []⟩
def d_Disk_write : He.DefD := ⟨("Disk", some "write"), "write", "Disk.write", defArgs s_Disk_write, defBody s_Disk_write, defScope s_Disk_write, [], []⟩
def d_Disk_sync : He.DefD := ⟨("Disk", some "sync"), "sync", "Disk.sync", defArgs s_Disk_sync, defBody s_Disk_sync, defScope s_Disk_sync, [], []⟩
def d_Disk_blocks : He.DefD := ⟨("Disk", some "blocks"), "blocks", "Disk.blocks", defArgs s_Disk_blocks, defBody s_Disk_blocks, defScope s_Disk_blocks, [], []⟩
def d_Disk_synced : He.DefD := ⟨("Disk", some "synced"), "synced", "Disk.synced", defArgs s_Disk_synced, defBody s_Disk_synced, defScope s_Disk_synced, [], []⟩
def d_Disk_drop : He.DefD := ⟨("Disk", some "drop"), "drop", "Disk.drop", defArgs s_Disk_drop, defBody s_Disk_drop, defScope s_Disk_drop, [], []⟩
def d_Disk_copy : He.DefD := ⟨("Disk", some "copy"), "copy", "Disk.copy", defArgs s_Disk_copy, defBody s_Disk_copy, defScope s_Disk_copy, [], []⟩
def d_Disk_cut : He.DefD := ⟨("Disk", some "cut"), "cut", "Disk.cut", defArgs s_Disk_cut, defBody s_Disk_cut, defScope s_Disk_cut, [], []⟩
def d__law_draw : He.DefD := ⟨("_law_draw", none), "_law_draw", "_law_draw", defArgs s__law_draw, defBody s__law_draw, defScope s__law_draw, [], []⟩
def d__law_hand : He.DefD := ⟨("_law_hand", none), "_law_hand", "_law_hand", defArgs s__law_hand, defBody s__law_hand, defScope s__law_hand, [], []⟩
def d__law_is : He.DefD := ⟨("_law_is", none), "_law_is", "_law_is", defArgs s__law_is, defBody s__law_is, defScope s__law_is, [], []⟩
def d__law_nested : He.DefD := ⟨("_law_nested", none), "_law_nested", "_law_nested", defArgs s__law_nested, defBody s__law_nested, defScope s__law_nested, [], []⟩
def d__law_parcel_told : He.DefD := ⟨("_law_parcel_told", none), "_law_parcel_told", "_law_parcel_told", defArgs s__law_parcel_told, defBody s__law_parcel_told, defScope s__law_parcel_told, [], []⟩
def d__law_parcel : He.DefD := ⟨("_law_parcel", none), "_law_parcel", "_law_parcel", defArgs s__law_parcel, defBody s__law_parcel, defScope s__law_parcel, [], []⟩
def d__law_bent : He.DefD := ⟨("_law_bent", none), "_law_bent", "_law_bent", defArgs s__law_bent, defBody s__law_bent, defScope s__law_bent, [], []⟩
def d__law_are_rows : He.DefD := ⟨("_law_are_rows", none), "_law_are_rows", "_law_are_rows", defArgs s__law_are_rows, defBody s__law_are_rows, defScope s__law_are_rows, [], []⟩
def d__law_deep : He.DefD := ⟨("_law_deep", none), "_law_deep", "_law_deep", defArgs s__law_deep, defBody s__law_deep, defScope s__law_deep, [], []⟩
def d__law_called : He.DefD := ⟨("_law_called", none), "_law_called", "_law_called", defArgs s__law_called, defBody s__law_called, defScope s__law_called, [], []⟩
def d__law_did : He.DefD := ⟨("_law_did", none), "_law_did", "_law_did", defArgs s__law_did, defBody s__law_did, defScope s__law_did, [], []⟩
def d__law_is_disk : He.DefD := ⟨("_law_is_disk", none), "_law_is_disk", "_law_is_disk", defArgs s__law_is_disk, defBody s__law_is_disk, defScope s__law_is_disk, [], []⟩
def d__law_disk_deed : He.DefD := ⟨("_law_disk_deed", none), "_law_disk_deed", "_law_disk_deed", defArgs s__law_disk_deed, defBody s__law_disk_deed, defScope s__law_disk_deed, [], []⟩
def d_law : He.DefD := ⟨("law", none), "law", "law", defArgs s_law, defBody s_law, defScope s_law, [], []⟩
def d_RowReader_read_several : He.DefD := ⟨("RowReader", some "read_several"), "read_several", "RowReader.read_several", defArgs s_RowReader_read_several, defBody s_RowReader_read_several, defScope s_RowReader_read_several, [], []⟩
def fnL0 : List He.DefD := [d_is_integer, d_is_within, d__law_number, d_is_sign, d_is_sized, d_is_listed, d_check_within, d_is_row, d_check_row, d_is_short_string, d_is_parcel_deep, d_is_parcel, d_whole, d_bytes_of, d_row_of, d_raw_mark, d__law_mark, d_mark, d_seal_of, d__law_seal, d_sealed, d__law_figures, d__law_row, d__law_sealed, d__law_read_whole, d__law_sign, d__law_read_text, d__law_read_parcel, d__law_read, d_BadRow_init]
def fnL1 : List He.DefD := [d_RowReader_init, d_RowReader_next_byte, d_RowReader_read_whole, d_RowReader_read_string, d_RowReader_read_parcel, d_parcel_of, d_unsealed, d_parcels_in, d_kept_parcels, d__law_kept_due, d_Disk_init, d_Disk_write, d_Disk_sync, d_Disk_blocks, d_Disk_synced, d_Disk_drop, d_Disk_copy, d_Disk_cut, d__law_draw, d__law_hand, d__law_is, d__law_nested, d__law_parcel_told, d__law_parcel, d__law_bent, d__law_are_rows, d__law_deep, d__law_called, d__law_did, d__law_is_disk]
def fnL2 : List He.DefD := [d__law_disk_deed, d_law, d_RowReader_read_several]
def fnL : List He.DefD := fnL0 ++ (fnL1 ++ (fnL2))
def faL0 : List He.Fa := [.glo "is_integer", .glo "is_within", .glo "_law_number", .glo "is_sign", .glo "is_sized", .glo "is_listed", .glo "check_within", .glo "is_row", .glo "check_row", .glo "is_short_string", .glo "is_parcel_deep", .glo "is_parcel", .glo "whole", .glo "bytes_of", .glo "row_of", .glo "raw_mark", .glo "_law_mark", .glo "mark", .glo "seal_of", .glo "_law_seal", .glo "sealed", .glo "_law_figures", .glo "_law_row", .glo "_law_sealed", .glo "_law_read_whole", .glo "_law_sign", .glo "_law_read_text", .glo "_law_read_parcel", .glo "_law_read", .glo "parcel_of"]
def faL1 : List He.Fa := [.glo "unsealed", .glo "parcels_in", .glo "kept_parcels", .glo "_law_kept_due", .glo "_law_draw", .glo "_law_hand", .glo "_law_is", .glo "_law_nested", .glo "_law_parcel_told", .glo "_law_parcel", .glo "_law_bent", .glo "_law_are_rows", .glo "_law_deep", .glo "_law_called", .glo "_law_did", .glo "_law_is_disk", .glo "_law_disk_deed", .glo "law", .int "NOTHING" 0, .int "NO" 1, .int "YES" 2, .int "NUMBER" 3, .int "BELOW" 4, .int "STRING" 5, .int "SEVERAL" 6, .int "MOST_DEEP" 20, .int "MOST_SIGNS" 20, .int "FIRST_SIGN" 32, .int "LAST_SIGN" 126, .int "NO_SIGN" 37]
def faL2 : List He.Fa := [.int "BASE" 128, .int "BYTES" 256, .int "MULTIPLIER" 1000003, .int "MODULUS" 2305843009213693951, .int "SEAL_BYTES" 4, .str "SIGNS" S_SIGNS, .free "isinstance", .free "all", .free "len", .free "ord", .free "min", .free "int", .free "tuple", .free "list", .free "range", .free "zip", .free "bool", .free "str", .glo "NoNumber", .exc "NoNumber", .glo "NoParcel", .exc "NoParcel", .glo "NoRow", .exc "NoRow", .glo "NoCut", .exc "NoCut", .glo "NoBlocks", .exc "NoBlocks", .glo "BadRow", .glo "ForestError"]
def faL3 : List He.Fa := [.glo "RowReader", .glo "Disk", .exm "BadRow" "BadRow" true, .exm "NoRow" "NoRow" true, .exm "NoRow" "NoCut" false, .exm "NoRow" "NoNumber" false, .exm "NoCut" "NoRow" false, .exm "NoCut" "NoCut" true, .exm "NoCut" "NoNumber" false, .exm "NoNumber" "NoRow" false, .exm "NoNumber" "NoCut" false, .exm "NoNumber" "NoNumber" true, .noat "BadRow" "place", .cls "RowReader", .noat "RowReader" "row", .noat "RowReader" "at", .cls "Disk", .noat "Disk" "written", .noat "Disk" "lasting", .mkr "RowReader", .mkr "Disk", .meth "BadRow" "__init__", .meth "RowReader" "next_byte", .meth "RowReader" "read_whole", .meth "RowReader" "read_string", .meth "RowReader" "read_parcel", .meth "Disk" "write", .meth "Disk" "sync", .meth "Disk" "blocks", .meth "Disk" "synced"]
def faL4 : List He.Fa := [.meth "Disk" "drop", .meth "Disk" "copy", .meth "Disk" "cut", .meth "RowReader" "read_several"]
def faL : List He.Fa := faL0 ++ (faL1 ++ (faL2 ++ (faL3 ++ (faL4))))
abbrev hkL : PySem.W.Hook := He.hookX 5 faL fnL [] [] exB
abbrev RL : PySem.W.OpenRow := PySem.W.OpenLaw.row PySem.Challenge.rw_cutlinked_k30_whole_parcels_seals_and_di
def obL (s : PySem.W.SharedT) : He.AlX := He.obsX 5 faL fnL [] [] exB (HandSHeadRun.getT s)
theorem obL_eq (s : PySem.W.SharedT) : obL s = hkL.obs s.abs := He.obsX_eq (HandSHeadRun.getT_eq s)
theorem txtL {w : World} {K : PySem.W.Frag} {h : Heap} {mg : Str → Option Value} (X : K.In h) (G : h.Ns mainGlobals mg) (c : He.SaysX faL fnL [] [] exB w h K) : Txt K mg := by
  obtain ⟨x1, x2, x3⟩ := exB_ok c.more
  have mi := He.meth_ok (c.t.d.fact 111 (f := .meth "BadRow" "__init__") rfl)
  have ki : ∀ {x : Str} {i : Int}, (∃ t, mg x = some (.int i t)) → ∃ u, mg x = some u ∧ RelV (.int i) u := fun ⟨t, e⟩ => ⟨_, e, t, rfl⟩
  have ks : ∀ {x z : Str}, (∃ t, mg x = some (.str z t)) → ∃ u, mg x = some u ∧ RelV (.str z) u := fun ⟨t, e⟩ => ⟨_, e, t, rfl⟩
  have ke : ∀ {x : Str}, mg x = some (.ref (cc K x)) → (He.Fa.exc x).ok K = true → ExcF K mg x (cc K x) := fun g e => by
    obtain ⟨e1, e2, e3, e4⟩ := He.exc_ok e
    exact ⟨g, e1, e2, e3, e4⟩
  exact {
    k_NOTHING := ki (He.int_ok X G (c.t.d.fact 48 (f := .int "NOTHING" 0) rfl))
    k_NO := ki (He.int_ok X G (c.t.d.fact 49 (f := .int "NO" 1) rfl))
    k_YES := ki (He.int_ok X G (c.t.d.fact 50 (f := .int "YES" 2) rfl))
    k_NUMBER := ki (He.int_ok X G (c.t.d.fact 51 (f := .int "NUMBER" 3) rfl))
    k_BELOW := ki (He.int_ok X G (c.t.d.fact 52 (f := .int "BELOW" 4) rfl))
    k_STRING := ki (He.int_ok X G (c.t.d.fact 53 (f := .int "STRING" 5) rfl))
    k_SEVERAL := ki (He.int_ok X G (c.t.d.fact 54 (f := .int "SEVERAL" 6) rfl))
    k_MOST_DEEP := ki (He.int_ok X G (c.t.d.fact 55 (f := .int "MOST_DEEP" 20) rfl))
    k_MOST_SIGNS := ki (He.int_ok X G (c.t.d.fact 56 (f := .int "MOST_SIGNS" 20) rfl))
    k_FIRST_SIGN := ki (He.int_ok X G (c.t.d.fact 57 (f := .int "FIRST_SIGN" 32) rfl))
    k_LAST_SIGN := ki (He.int_ok X G (c.t.d.fact 58 (f := .int "LAST_SIGN" 126) rfl))
    k_NO_SIGN := ki (He.int_ok X G (c.t.d.fact 59 (f := .int "NO_SIGN" 37) rfl))
    k_BASE := ki (He.int_ok X G (c.t.d.fact 60 (f := .int "BASE" 128) rfl))
    k_BYTES := ki (He.int_ok X G (c.t.d.fact 61 (f := .int "BYTES" 256) rfl))
    k_MULTIPLIER := ki (He.int_ok X G (c.t.d.fact 62 (f := .int "MULTIPLIER" 1000003) rfl))
    k_MODULUS := ki (He.int_ok X G (c.t.d.fact 63 (f := .int "MODULUS" 2305843009213693951) rfl))
    k_SEAL_BYTES := ki (He.int_ok X G (c.t.d.fact 64 (f := .int "SEAL_BYTES" 4) rfl))
    k_SIGNS := ks (He.str_ok X G (c.t.d.fact 65 (f := .str "SIGNS" S_SIGNS) rfl))
    b_isinstance := He.free_ok X G (c.t.d.fact 66 (f := .free "isinstance") rfl)
    b_all := He.free_ok X G (c.t.d.fact 67 (f := .free "all") rfl)
    b_len := He.free_ok X G (c.t.d.fact 68 (f := .free "len") rfl)
    b_ord := He.free_ok X G (c.t.d.fact 69 (f := .free "ord") rfl)
    b_min := He.free_ok X G (c.t.d.fact 70 (f := .free "min") rfl)
    b_int := He.free_ok X G (c.t.d.fact 71 (f := .free "int") rfl)
    b_tuple := He.free_ok X G (c.t.d.fact 72 (f := .free "tuple") rfl)
    b_list := He.free_ok X G (c.t.d.fact 73 (f := .free "list") rfl)
    b_range := He.free_ok X G (c.t.d.fact 74 (f := .free "range") rfl)
    b_zip := He.free_ok X G (c.t.d.fact 75 (f := .free "zip") rfl)
    b_bool := He.free_ok X G (c.t.d.fact 76 (f := .free "bool") rfl)
    b_str := He.free_ok X G (c.t.d.fact 77 (f := .free "str") rfl)
    e_NoNumber := ke (He.glo_ok X G (c.t.d.fact 78 (f := .glo "NoNumber") rfl)) (c.t.d.fact 79 (f := .exc "NoNumber") rfl)
    e_NoParcel := ke (He.glo_ok X G (c.t.d.fact 80 (f := .glo "NoParcel") rfl)) (c.t.d.fact 81 (f := .exc "NoParcel") rfl)
    e_NoRow := ke (He.glo_ok X G (c.t.d.fact 82 (f := .glo "NoRow") rfl)) (c.t.d.fact 83 (f := .exc "NoRow") rfl)
    e_NoCut := ke (He.glo_ok X G (c.t.d.fact 84 (f := .glo "NoCut") rfl)) (c.t.d.fact 85 (f := .exc "NoCut") rfl)
    e_NoBlocks := ke (He.glo_ok X G (c.t.d.fact 86 (f := .glo "NoBlocks") rfl)) (c.t.d.fact 87 (f := .exc "NoBlocks") rfl)
    g_BadRow := He.glo_ok X G (c.t.d.fact 88 (f := .glo "BadRow") rfl)
    g_ForestError := He.glo_ok X G (c.t.d.fact 89 (f := .glo "ForestError") rfl)
    oex := x1
    oexno := He.noat_ok (c.t.d.fact 102 (f := .noat "BadRow" "place") rfl)
    oexi := fun fI e => by
      have e2 := mi.at_
      rw [e] at e2
      injection e2 with e2
      injection e2 with e2
      rw [e2]
      exact x3
    xf := x2
    clR := He.cls_ok (c.t.d.fact 103 (f := .cls "RowReader") rfl)
    noRow := He.noat_ok (c.t.d.fact 104 (f := .noat "RowReader" "row") rfl)
    noAt := He.noat_ok (c.t.d.fact 105 (f := .noat "RowReader" "at") rfl)
    clD := He.cls_ok (c.t.d.fact 106 (f := .cls "Disk") rfl)
    noWr := He.noat_ok (c.t.d.fact 107 (f := .noat "Disk" "written") rfl)
    noLa := He.noat_ok (c.t.d.fact 108 (f := .noat "Disk" "lasting") rfl)
    m_BB := He.exm_ok (c.t.d.fact 92 (f := .exm "BadRow" "BadRow" true) rfl)
    m_NoRow_NoRow := He.exm_ok (c.t.d.fact 93 (f := .exm "NoRow" "NoRow" true) rfl)
    m_NoRow_NoCut := He.exm_ok (c.t.d.fact 94 (f := .exm "NoRow" "NoCut" false) rfl)
    m_NoRow_NoNumber := He.exm_ok (c.t.d.fact 95 (f := .exm "NoRow" "NoNumber" false) rfl)
    m_NoCut_NoRow := He.exm_ok (c.t.d.fact 96 (f := .exm "NoCut" "NoRow" false) rfl)
    m_NoCut_NoCut := He.exm_ok (c.t.d.fact 97 (f := .exm "NoCut" "NoCut" true) rfl)
    m_NoCut_NoNumber := He.exm_ok (c.t.d.fact 98 (f := .exm "NoCut" "NoNumber" false) rfl)
    m_NoNumber_NoRow := He.exm_ok (c.t.d.fact 99 (f := .exm "NoNumber" "NoRow" false) rfl)
    m_NoNumber_NoCut := He.exm_ok (c.t.d.fact 100 (f := .exm "NoNumber" "NoCut" false) rfl)
    m_NoNumber_NoNumber := He.exm_ok (c.t.d.fact 101 (f := .exm "NoNumber" "NoNumber" true) rfl)
  }
theorem factsL {P : Program} {w : World} {K : PySem.W.Frag} {h : Heap} {mg : Str → Option Value} (X : K.In h) (G : h.Ns mainGlobals mg) (c : He.SaysX faL fnL [] [] exB w h K) :
    ∃ fd : FuncData, (∀ (s : Shared) (v : Value), BindsTo s fd ⟨[v], []⟩ [("_law_script", v)]) ∧ ∀ base : Heap, FnOk P w K mg base (L2.CX P w) 51 (cc K "law") fd p_law (sp_law K) := by
  have T := txtL X G c
  obtain ⟨fd_is_integer, D_is_integer⟩ := c.t.d.def_ 0 (d := d_is_integer) rfl
  have F_is_integer := funOf (st := s_is_integer) D_is_integer
  have b_is_integer : Binds K fd_is_integer p_is_integer [] := FunD.bindsN (ps := p_is_integer) D_is_integer fun _ _ _ _ _ _ us hl => match us, hl with | [_], _ => rfl
  have a_is_integer : At K mg "is_integer" (He.ga K "is_integer") fd_is_integer p_is_integer := ⟨He.glo_ok X G (c.t.d.fact 0 (f := .glo "is_integer") rfl), D_is_integer.kp, b_is_integer⟩
  obtain ⟨fd_is_within, D_is_within⟩ := c.t.d.def_ 1 (d := d_is_within) rfl
  have F_is_within := funOf (st := s_is_within) D_is_within
  have b_is_within : Binds K fd_is_within p_is_within [] := FunD.bindsN (ps := p_is_within) D_is_within fun _ _ _ _ _ _ us hl => match us, hl with | [_, _, _], _ => rfl
  have a_is_within : At K mg "is_within" (He.ga K "is_within") fd_is_within p_is_within := ⟨He.glo_ok X G (c.t.d.fact 1 (f := .glo "is_within") rfl), D_is_within.kp, b_is_within⟩
  obtain ⟨fd__law_number, D__law_number⟩ := c.t.d.def_ 2 (d := d__law_number) rfl
  have F__law_number := funOf (st := s__law_number) D__law_number
  have b__law_number : Binds K fd__law_number p__law_number [] := FunD.bindsN (ps := p__law_number) D__law_number fun _ _ _ _ _ _ us hl => match us, hl with | [_, _, _], _ => rfl
  have a__law_number : At K mg "_law_number" (He.ga K "_law_number") fd__law_number p__law_number := ⟨He.glo_ok X G (c.t.d.fact 2 (f := .glo "_law_number") rfl), D__law_number.kp, b__law_number⟩
  obtain ⟨fd_is_sign, D_is_sign⟩ := c.t.d.def_ 3 (d := d_is_sign) rfl
  have F_is_sign := funOf (st := s_is_sign) D_is_sign
  have b_is_sign : Binds K fd_is_sign p_is_sign [] := FunD.bindsN (ps := p_is_sign) D_is_sign fun _ _ _ _ _ _ us hl => match us, hl with | [_], _ => rfl
  have a_is_sign : At K mg "is_sign" (He.ga K "is_sign") fd_is_sign p_is_sign := ⟨He.glo_ok X G (c.t.d.fact 3 (f := .glo "is_sign") rfl), D_is_sign.kp, b_is_sign⟩
  obtain ⟨fd_is_sized, D_is_sized⟩ := c.t.d.def_ 4 (d := d_is_sized) rfl
  have F_is_sized := funOf (st := s_is_sized) D_is_sized
  have b_is_sized : Binds K fd_is_sized p_is_sized [] := FunD.bindsN (ps := p_is_sized) D_is_sized fun _ _ _ _ _ _ us hl => match us, hl with | [_, _, _], _ => rfl
  have a_is_sized : At K mg "is_sized" (He.ga K "is_sized") fd_is_sized p_is_sized := ⟨He.glo_ok X G (c.t.d.fact 4 (f := .glo "is_sized") rfl), D_is_sized.kp, b_is_sized⟩
  obtain ⟨fd_is_listed, D_is_listed⟩ := c.t.d.def_ 5 (d := d_is_listed) rfl
  have F_is_listed := funOf (st := s_is_listed) D_is_listed
  have b_is_listed : Binds K fd_is_listed p_is_listed [] := FunD.bindsN (ps := p_is_listed) D_is_listed fun _ _ _ _ _ _ us hl => match us, hl with | [_], _ => rfl
  have a_is_listed : At K mg "is_listed" (He.ga K "is_listed") fd_is_listed p_is_listed := ⟨He.glo_ok X G (c.t.d.fact 5 (f := .glo "is_listed") rfl), D_is_listed.kp, b_is_listed⟩
  obtain ⟨fd_check_within, D_check_within⟩ := c.t.d.def_ 6 (d := d_check_within) rfl
  have F_check_within := funOf (st := s_check_within) D_check_within
  have b_check_within : Binds K fd_check_within p_check_within [] := FunD.bindsN (ps := p_check_within) D_check_within fun _ _ _ _ _ _ us hl => match us, hl with | [_, _, _], _ => rfl
  have a_check_within : At K mg "check_within" (He.ga K "check_within") fd_check_within p_check_within := ⟨He.glo_ok X G (c.t.d.fact 6 (f := .glo "check_within") rfl), D_check_within.kp, b_check_within⟩
  obtain ⟨fd_is_row, D_is_row⟩ := c.t.d.def_ 7 (d := d_is_row) rfl
  have F_is_row := funOf (st := s_is_row) D_is_row
  have b_is_row : Binds K fd_is_row p_is_row [] := FunD.bindsN (ps := p_is_row) D_is_row fun _ _ _ _ _ _ us hl => match us, hl with | [_], _ => rfl
  have a_is_row : At K mg "is_row" (He.ga K "is_row") fd_is_row p_is_row := ⟨He.glo_ok X G (c.t.d.fact 7 (f := .glo "is_row") rfl), D_is_row.kp, b_is_row⟩
  obtain ⟨fd_check_row, D_check_row⟩ := c.t.d.def_ 8 (d := d_check_row) rfl
  have F_check_row := funOf (st := s_check_row) D_check_row
  have b_check_row : Binds K fd_check_row p_check_row [] := FunD.bindsN (ps := p_check_row) D_check_row fun _ _ _ _ _ _ us hl => match us, hl with | [_], _ => rfl
  have a_check_row : At K mg "check_row" (He.ga K "check_row") fd_check_row p_check_row := ⟨He.glo_ok X G (c.t.d.fact 8 (f := .glo "check_row") rfl), D_check_row.kp, b_check_row⟩
  obtain ⟨fd_is_short_string, D_is_short_string⟩ := c.t.d.def_ 9 (d := d_is_short_string) rfl
  have F_is_short_string := funOf (st := s_is_short_string) D_is_short_string
  have b_is_short_string : Binds K fd_is_short_string p_is_short_string [] := FunD.bindsN (ps := p_is_short_string) D_is_short_string fun _ _ _ _ _ _ us hl => match us, hl with | [_], _ => rfl
  have a_is_short_string : At K mg "is_short_string" (He.ga K "is_short_string") fd_is_short_string p_is_short_string := ⟨He.glo_ok X G (c.t.d.fact 9 (f := .glo "is_short_string") rfl), D_is_short_string.kp, b_is_short_string⟩
  obtain ⟨fd_is_parcel_deep, D_is_parcel_deep⟩ := c.t.d.def_ 10 (d := d_is_parcel_deep) rfl
  have F_is_parcel_deep := funOf (st := s_is_parcel_deep) D_is_parcel_deep
  have b_is_parcel_deep : Binds K fd_is_parcel_deep p_is_parcel_deep [] := FunD.bindsN (ps := p_is_parcel_deep) D_is_parcel_deep fun _ _ _ _ _ _ us hl => match us, hl with | [_, _], _ => rfl
  have a_is_parcel_deep : At K mg "is_parcel_deep" (He.ga K "is_parcel_deep") fd_is_parcel_deep p_is_parcel_deep := ⟨He.glo_ok X G (c.t.d.fact 10 (f := .glo "is_parcel_deep") rfl), D_is_parcel_deep.kp, b_is_parcel_deep⟩
  obtain ⟨fd_is_parcel, D_is_parcel⟩ := c.t.d.def_ 11 (d := d_is_parcel) rfl
  have F_is_parcel := funOf (st := s_is_parcel) D_is_parcel
  have b_is_parcel : Binds K fd_is_parcel p_is_parcel [] := FunD.bindsN (ps := p_is_parcel) D_is_parcel fun _ _ _ _ _ _ us hl => match us, hl with | [_], _ => rfl
  have a_is_parcel : At K mg "is_parcel" (He.ga K "is_parcel") fd_is_parcel p_is_parcel := ⟨He.glo_ok X G (c.t.d.fact 11 (f := .glo "is_parcel") rfl), D_is_parcel.kp, b_is_parcel⟩
  obtain ⟨fd_whole, D_whole⟩ := c.t.d.def_ 12 (d := d_whole) rfl
  have F_whole := funOf (st := s_whole) D_whole
  have b_whole : Binds K fd_whole p_whole [] := FunD.bindsN (ps := p_whole) D_whole fun _ _ _ _ _ _ us hl => match us, hl with | [_], _ => rfl
  have a_whole : At K mg "whole" (He.ga K "whole") fd_whole p_whole := ⟨He.glo_ok X G (c.t.d.fact 12 (f := .glo "whole") rfl), D_whole.kp, b_whole⟩
  obtain ⟨fd_bytes_of, D_bytes_of⟩ := c.t.d.def_ 13 (d := d_bytes_of) rfl
  have F_bytes_of := funOf (st := s_bytes_of) D_bytes_of
  have b_bytes_of : Binds K fd_bytes_of p_bytes_of [] := FunD.bindsN (ps := p_bytes_of) D_bytes_of fun _ _ _ _ _ _ us hl => match us, hl with | [_], _ => rfl
  have a_bytes_of : At K mg "bytes_of" (He.ga K "bytes_of") fd_bytes_of p_bytes_of := ⟨He.glo_ok X G (c.t.d.fact 13 (f := .glo "bytes_of") rfl), D_bytes_of.kp, b_bytes_of⟩
  obtain ⟨fd_row_of, D_row_of⟩ := c.t.d.def_ 14 (d := d_row_of) rfl
  have F_row_of := funOf (st := s_row_of) D_row_of
  have b_row_of : Binds K fd_row_of p_row_of [] := FunD.bindsN (ps := p_row_of) D_row_of fun _ _ _ _ _ _ us hl => match us, hl with | [_], _ => rfl
  have a_row_of : At K mg "row_of" (He.ga K "row_of") fd_row_of p_row_of := ⟨He.glo_ok X G (c.t.d.fact 14 (f := .glo "row_of") rfl), D_row_of.kp, b_row_of⟩
  obtain ⟨fd_raw_mark, D_raw_mark⟩ := c.t.d.def_ 15 (d := d_raw_mark) rfl
  have F_raw_mark := funOf (st := s_raw_mark) D_raw_mark
  have b_raw_mark : Binds K fd_raw_mark p_raw_mark [] := FunD.bindsN (ps := p_raw_mark) D_raw_mark fun _ _ _ _ _ _ us hl => match us, hl with | [_], _ => rfl
  have a_raw_mark : At K mg "raw_mark" (He.ga K "raw_mark") fd_raw_mark p_raw_mark := ⟨He.glo_ok X G (c.t.d.fact 15 (f := .glo "raw_mark") rfl), D_raw_mark.kp, b_raw_mark⟩
  obtain ⟨fd__law_mark, D__law_mark⟩ := c.t.d.def_ 16 (d := d__law_mark) rfl
  have F__law_mark := funOf (st := s__law_mark) D__law_mark
  have b__law_mark : Binds K fd__law_mark p__law_mark [] := FunD.bindsN (ps := p__law_mark) D__law_mark fun _ _ _ _ _ _ us hl => match us, hl with | [_], _ => rfl
  have a__law_mark : At K mg "_law_mark" (He.ga K "_law_mark") fd__law_mark p__law_mark := ⟨He.glo_ok X G (c.t.d.fact 16 (f := .glo "_law_mark") rfl), D__law_mark.kp, b__law_mark⟩
  obtain ⟨fd_mark, D_mark⟩ := c.t.d.def_ 17 (d := d_mark) rfl
  have F_mark := funOf (st := s_mark) D_mark
  have b_mark : Binds K fd_mark p_mark [] := FunD.bindsN (ps := p_mark) D_mark fun _ _ _ _ _ _ us hl => match us, hl with | [_], _ => rfl
  have a_mark : At K mg "mark" (He.ga K "mark") fd_mark p_mark := ⟨He.glo_ok X G (c.t.d.fact 17 (f := .glo "mark") rfl), D_mark.kp, b_mark⟩
  obtain ⟨fd_seal_of, D_seal_of⟩ := c.t.d.def_ 18 (d := d_seal_of) rfl
  have F_seal_of := funOf (st := s_seal_of) D_seal_of
  have b_seal_of : Binds K fd_seal_of p_seal_of [] := FunD.bindsN (ps := p_seal_of) D_seal_of fun _ _ _ _ _ _ us hl => match us, hl with | [_], _ => rfl
  have a_seal_of : At K mg "seal_of" (He.ga K "seal_of") fd_seal_of p_seal_of := ⟨He.glo_ok X G (c.t.d.fact 18 (f := .glo "seal_of") rfl), D_seal_of.kp, b_seal_of⟩
  obtain ⟨fd__law_seal, D__law_seal⟩ := c.t.d.def_ 19 (d := d__law_seal) rfl
  have F__law_seal := funOf (st := s__law_seal) D__law_seal
  have b__law_seal : Binds K fd__law_seal p__law_seal [] := FunD.bindsN (ps := p__law_seal) D__law_seal fun _ _ _ _ _ _ us hl => match us, hl with | [_], _ => rfl
  have a__law_seal : At K mg "_law_seal" (He.ga K "_law_seal") fd__law_seal p__law_seal := ⟨He.glo_ok X G (c.t.d.fact 19 (f := .glo "_law_seal") rfl), D__law_seal.kp, b__law_seal⟩
  obtain ⟨fd_sealed, D_sealed⟩ := c.t.d.def_ 20 (d := d_sealed) rfl
  have F_sealed := funOf (st := s_sealed) D_sealed
  have b_sealed : Binds K fd_sealed p_sealed [] := FunD.bindsN (ps := p_sealed) D_sealed fun _ _ _ _ _ _ us hl => match us, hl with | [_], _ => rfl
  have a_sealed : At K mg "sealed" (He.ga K "sealed") fd_sealed p_sealed := ⟨He.glo_ok X G (c.t.d.fact 20 (f := .glo "sealed") rfl), D_sealed.kp, b_sealed⟩
  obtain ⟨fd__law_figures, D__law_figures⟩ := c.t.d.def_ 21 (d := d__law_figures) rfl
  have F__law_figures := funOf (st := s__law_figures) D__law_figures
  have b__law_figures : Binds K fd__law_figures p__law_figures [] := FunD.bindsN (ps := p__law_figures) D__law_figures fun _ _ _ _ _ _ us hl => match us, hl with | [_], _ => rfl
  have a__law_figures : At K mg "_law_figures" (He.ga K "_law_figures") fd__law_figures p__law_figures := ⟨He.glo_ok X G (c.t.d.fact 21 (f := .glo "_law_figures") rfl), D__law_figures.kp, b__law_figures⟩
  obtain ⟨fd__law_row, D__law_row⟩ := c.t.d.def_ 22 (d := d__law_row) rfl
  have F__law_row := funOf (st := s__law_row) D__law_row
  have b__law_row : Binds K fd__law_row p__law_row [] := FunD.bindsN (ps := p__law_row) D__law_row fun _ _ _ _ _ _ us hl => match us, hl with | [_], _ => rfl
  have a__law_row : At K mg "_law_row" (He.ga K "_law_row") fd__law_row p__law_row := ⟨He.glo_ok X G (c.t.d.fact 22 (f := .glo "_law_row") rfl), D__law_row.kp, b__law_row⟩
  obtain ⟨fd__law_sealed, D__law_sealed⟩ := c.t.d.def_ 23 (d := d__law_sealed) rfl
  have F__law_sealed := funOf (st := s__law_sealed) D__law_sealed
  have b__law_sealed : Binds K fd__law_sealed p__law_sealed [] := FunD.bindsN (ps := p__law_sealed) D__law_sealed fun _ _ _ _ _ _ us hl => match us, hl with | [_], _ => rfl
  have a__law_sealed : At K mg "_law_sealed" (He.ga K "_law_sealed") fd__law_sealed p__law_sealed := ⟨He.glo_ok X G (c.t.d.fact 23 (f := .glo "_law_sealed") rfl), D__law_sealed.kp, b__law_sealed⟩
  obtain ⟨fd__law_read_whole, D__law_read_whole⟩ := c.t.d.def_ 24 (d := d__law_read_whole) rfl
  have F__law_read_whole := funOf (st := s__law_read_whole) D__law_read_whole
  have b__law_read_whole : Binds K fd__law_read_whole p__law_read_whole [] := FunD.bindsN (ps := p__law_read_whole) D__law_read_whole fun _ _ _ _ _ _ us hl => match us, hl with | [_, _], _ => rfl
  have a__law_read_whole : At K mg "_law_read_whole" (He.ga K "_law_read_whole") fd__law_read_whole p__law_read_whole := ⟨He.glo_ok X G (c.t.d.fact 24 (f := .glo "_law_read_whole") rfl), D__law_read_whole.kp, b__law_read_whole⟩
  obtain ⟨fd__law_sign, D__law_sign⟩ := c.t.d.def_ 25 (d := d__law_sign) rfl
  have F__law_sign := funOf (st := s__law_sign) D__law_sign
  have b__law_sign : Binds K fd__law_sign p__law_sign [] := FunD.bindsN (ps := p__law_sign) D__law_sign fun _ _ _ _ _ _ us hl => match us, hl with | [_], _ => rfl
  have a__law_sign : At K mg "_law_sign" (He.ga K "_law_sign") fd__law_sign p__law_sign := ⟨He.glo_ok X G (c.t.d.fact 25 (f := .glo "_law_sign") rfl), D__law_sign.kp, b__law_sign⟩
  obtain ⟨fd__law_read_text, D__law_read_text⟩ := c.t.d.def_ 26 (d := d__law_read_text) rfl
  have F__law_read_text := funOf (st := s__law_read_text) D__law_read_text
  have b__law_read_text : Binds K fd__law_read_text p__law_read_text [] := FunD.bindsN (ps := p__law_read_text) D__law_read_text fun _ _ _ _ _ _ us hl => match us, hl with | [_, _], _ => rfl
  have a__law_read_text : At K mg "_law_read_text" (He.ga K "_law_read_text") fd__law_read_text p__law_read_text := ⟨He.glo_ok X G (c.t.d.fact 26 (f := .glo "_law_read_text") rfl), D__law_read_text.kp, b__law_read_text⟩
  obtain ⟨fd__law_read_parcel, D__law_read_parcel⟩ := c.t.d.def_ 27 (d := d__law_read_parcel) rfl
  have F__law_read_parcel := funOf (st := s__law_read_parcel) D__law_read_parcel
  have b__law_read_parcel : Binds K fd__law_read_parcel p__law_read_parcel [] := FunD.bindsN (ps := p__law_read_parcel) D__law_read_parcel fun _ _ _ _ _ _ us hl => match us, hl with | [_, _, _], _ => rfl
  have a__law_read_parcel : At K mg "_law_read_parcel" (He.ga K "_law_read_parcel") fd__law_read_parcel p__law_read_parcel := ⟨He.glo_ok X G (c.t.d.fact 27 (f := .glo "_law_read_parcel") rfl), D__law_read_parcel.kp, b__law_read_parcel⟩
  obtain ⟨fd__law_read, D__law_read⟩ := c.t.d.def_ 28 (d := d__law_read) rfl
  have F__law_read := funOf (st := s__law_read) D__law_read
  have b__law_read : Binds K fd__law_read p__law_read [] := FunD.bindsN (ps := p__law_read) D__law_read fun _ _ _ _ _ _ us hl => match us, hl with | [_], _ => rfl
  have a__law_read : At K mg "_law_read" (He.ga K "_law_read") fd__law_read p__law_read := ⟨He.glo_ok X G (c.t.d.fact 28 (f := .glo "_law_read") rfl), D__law_read.kp, b__law_read⟩
  obtain ⟨fd_BadRow_init, D_BadRow_init⟩ := c.t.d.def_ 29 (d := d_BadRow_init) rfl
  have F_BadRow_init := funOf (st := s_BadRow_init) D_BadRow_init
  have b_BadRow_init : Binds K fd_BadRow_init p_BadRow_init [] := FunD.bindsN (ps := p_BadRow_init) D_BadRow_init fun _ _ _ _ _ _ us hl => match us, hl with | [_, _], _ => rfl
  obtain ⟨fd_RowReader_init, D_RowReader_init⟩ := c.t.d.def_ 30 (d := d_RowReader_init) rfl
  have F_RowReader_init := funOf (st := s_RowReader_init) D_RowReader_init
  have b_RowReader_init : Binds K fd_RowReader_init p_RowReader_init [] := FunD.bindsN (ps := p_RowReader_init) D_RowReader_init fun _ _ _ _ _ _ us hl => match us, hl with | [_, _], _ => rfl
  obtain ⟨fd_RowReader_next_byte, D_RowReader_next_byte⟩ := c.t.d.def_ 31 (d := d_RowReader_next_byte) rfl
  have F_RowReader_next_byte := funOf (st := s_RowReader_next_byte) D_RowReader_next_byte
  have b_RowReader_next_byte : Binds K fd_RowReader_next_byte p_RowReader_next_byte [] := FunD.bindsN (ps := p_RowReader_next_byte) D_RowReader_next_byte fun _ _ _ _ _ _ us hl => match us, hl with | [_], _ => rfl
  have a_RowReader_next_byte : AtM K (cc K "RowReader") "next_byte" (He.ma K (cc K "RowReader") "next_byte") fd_RowReader_next_byte p_RowReader_next_byte := ⟨He.meth_ok (c.t.d.fact 112 (f := .meth "RowReader" "next_byte") rfl), b_RowReader_next_byte⟩
  obtain ⟨fd_RowReader_read_whole, D_RowReader_read_whole⟩ := c.t.d.def_ 32 (d := d_RowReader_read_whole) rfl
  have F_RowReader_read_whole := funOf (st := s_RowReader_read_whole) D_RowReader_read_whole
  have b_RowReader_read_whole : Binds K fd_RowReader_read_whole p_RowReader_read_whole [] := FunD.bindsN (ps := p_RowReader_read_whole) D_RowReader_read_whole fun _ _ _ _ _ _ us hl => match us, hl with | [_], _ => rfl
  have a_RowReader_read_whole : AtM K (cc K "RowReader") "read_whole" (He.ma K (cc K "RowReader") "read_whole") fd_RowReader_read_whole p_RowReader_read_whole := ⟨He.meth_ok (c.t.d.fact 113 (f := .meth "RowReader" "read_whole") rfl), b_RowReader_read_whole⟩
  obtain ⟨fd_RowReader_read_string, D_RowReader_read_string⟩ := c.t.d.def_ 33 (d := d_RowReader_read_string) rfl
  have F_RowReader_read_string := funOf (st := s_RowReader_read_string) D_RowReader_read_string
  have b_RowReader_read_string : Binds K fd_RowReader_read_string p_RowReader_read_string [] := FunD.bindsN (ps := p_RowReader_read_string) D_RowReader_read_string fun _ _ _ _ _ _ us hl => match us, hl with | [_], _ => rfl
  have a_RowReader_read_string : AtM K (cc K "RowReader") "read_string" (He.ma K (cc K "RowReader") "read_string") fd_RowReader_read_string p_RowReader_read_string := ⟨He.meth_ok (c.t.d.fact 114 (f := .meth "RowReader" "read_string") rfl), b_RowReader_read_string⟩
  obtain ⟨fd_RowReader_read_parcel, D_RowReader_read_parcel⟩ := c.t.d.def_ 34 (d := d_RowReader_read_parcel) rfl
  have F_RowReader_read_parcel := funOf (st := s_RowReader_read_parcel) D_RowReader_read_parcel
  have b_RowReader_read_parcel : Binds K fd_RowReader_read_parcel p_RowReader_read_parcel [] := FunD.bindsN (ps := p_RowReader_read_parcel) D_RowReader_read_parcel fun _ _ _ _ _ _ us hl => match us, hl with | [_, _], _ => rfl
  have a_RowReader_read_parcel : AtM K (cc K "RowReader") "read_parcel" (He.ma K (cc K "RowReader") "read_parcel") fd_RowReader_read_parcel p_RowReader_read_parcel := ⟨He.meth_ok (c.t.d.fact 115 (f := .meth "RowReader" "read_parcel") rfl), b_RowReader_read_parcel⟩
  obtain ⟨fd_parcel_of, D_parcel_of⟩ := c.t.d.def_ 35 (d := d_parcel_of) rfl
  have F_parcel_of := funOf (st := s_parcel_of) D_parcel_of
  have b_parcel_of : Binds K fd_parcel_of p_parcel_of [] := FunD.bindsN (ps := p_parcel_of) D_parcel_of fun _ _ _ _ _ _ us hl => match us, hl with | [_], _ => rfl
  have a_parcel_of : At K mg "parcel_of" (He.ga K "parcel_of") fd_parcel_of p_parcel_of := ⟨He.glo_ok X G (c.t.d.fact 29 (f := .glo "parcel_of") rfl), D_parcel_of.kp, b_parcel_of⟩
  obtain ⟨fd_unsealed, D_unsealed⟩ := c.t.d.def_ 36 (d := d_unsealed) rfl
  have F_unsealed := funOf (st := s_unsealed) D_unsealed
  have b_unsealed : Binds K fd_unsealed p_unsealed [] := FunD.bindsN (ps := p_unsealed) D_unsealed fun _ _ _ _ _ _ us hl => match us, hl with | [_], _ => rfl
  have a_unsealed : At K mg "unsealed" (He.ga K "unsealed") fd_unsealed p_unsealed := ⟨He.glo_ok X G (c.t.d.fact 30 (f := .glo "unsealed") rfl), D_unsealed.kp, b_unsealed⟩
  obtain ⟨fd_parcels_in, D_parcels_in⟩ := c.t.d.def_ 37 (d := d_parcels_in) rfl
  have F_parcels_in := funOf (st := s_parcels_in) D_parcels_in
  have b_parcels_in : Binds K fd_parcels_in p_parcels_in [] := FunD.bindsN (ps := p_parcels_in) D_parcels_in fun _ _ _ _ _ _ us hl => match us, hl with | [_], _ => rfl
  have a_parcels_in : At K mg "parcels_in" (He.ga K "parcels_in") fd_parcels_in p_parcels_in := ⟨He.glo_ok X G (c.t.d.fact 31 (f := .glo "parcels_in") rfl), D_parcels_in.kp, b_parcels_in⟩
  obtain ⟨fd_kept_parcels, D_kept_parcels⟩ := c.t.d.def_ 38 (d := d_kept_parcels) rfl
  have F_kept_parcels := funOf (st := s_kept_parcels) D_kept_parcels
  have b_kept_parcels : Binds K fd_kept_parcels p_kept_parcels [] := FunD.bindsN (ps := p_kept_parcels) D_kept_parcels fun _ _ _ _ _ _ us hl => match us, hl with | [_], _ => rfl
  have a_kept_parcels : At K mg "kept_parcels" (He.ga K "kept_parcels") fd_kept_parcels p_kept_parcels := ⟨He.glo_ok X G (c.t.d.fact 32 (f := .glo "kept_parcels") rfl), D_kept_parcels.kp, b_kept_parcels⟩
  obtain ⟨fd__law_kept_due, D__law_kept_due⟩ := c.t.d.def_ 39 (d := d__law_kept_due) rfl
  have F__law_kept_due := funOf (st := s__law_kept_due) D__law_kept_due
  have b__law_kept_due : Binds K fd__law_kept_due p__law_kept_due [] := FunD.bindsN (ps := p__law_kept_due) D__law_kept_due fun _ _ _ _ _ _ us hl => match us, hl with | [_], _ => rfl
  have a__law_kept_due : At K mg "_law_kept_due" (He.ga K "_law_kept_due") fd__law_kept_due p__law_kept_due := ⟨He.glo_ok X G (c.t.d.fact 33 (f := .glo "_law_kept_due") rfl), D__law_kept_due.kp, b__law_kept_due⟩
  obtain ⟨fd_Disk_init, D_Disk_init⟩ := c.t.d.def_ 40 (d := d_Disk_init) rfl
  have F_Disk_init := funOf (st := s_Disk_init) D_Disk_init
  have b_Disk_init : Binds K fd_Disk_init p_Disk_init [] := FunD.bindsN (ps := p_Disk_init) D_Disk_init fun _ _ _ _ _ _ us hl => match us, hl with | [_], _ => rfl
  obtain ⟨fd_Disk_write, D_Disk_write⟩ := c.t.d.def_ 41 (d := d_Disk_write) rfl
  have F_Disk_write := funOf (st := s_Disk_write) D_Disk_write
  have b_Disk_write : Binds K fd_Disk_write p_Disk_write [] := FunD.bindsN (ps := p_Disk_write) D_Disk_write fun _ _ _ _ _ _ us hl => match us, hl with | [_, _], _ => rfl
  have a_Disk_write : AtM K (cc K "Disk") "write" (He.ma K (cc K "Disk") "write") fd_Disk_write p_Disk_write := ⟨He.meth_ok (c.t.d.fact 116 (f := .meth "Disk" "write") rfl), b_Disk_write⟩
  obtain ⟨fd_Disk_sync, D_Disk_sync⟩ := c.t.d.def_ 42 (d := d_Disk_sync) rfl
  have F_Disk_sync := funOf (st := s_Disk_sync) D_Disk_sync
  have b_Disk_sync : Binds K fd_Disk_sync p_Disk_sync [] := FunD.bindsN (ps := p_Disk_sync) D_Disk_sync fun _ _ _ _ _ _ us hl => match us, hl with | [_], _ => rfl
  have a_Disk_sync : AtM K (cc K "Disk") "sync" (He.ma K (cc K "Disk") "sync") fd_Disk_sync p_Disk_sync := ⟨He.meth_ok (c.t.d.fact 117 (f := .meth "Disk" "sync") rfl), b_Disk_sync⟩
  obtain ⟨fd_Disk_blocks, D_Disk_blocks⟩ := c.t.d.def_ 43 (d := d_Disk_blocks) rfl
  have F_Disk_blocks := funOf (st := s_Disk_blocks) D_Disk_blocks
  have b_Disk_blocks : Binds K fd_Disk_blocks p_Disk_blocks [] := FunD.bindsN (ps := p_Disk_blocks) D_Disk_blocks fun _ _ _ _ _ _ us hl => match us, hl with | [_], _ => rfl
  have a_Disk_blocks : AtM K (cc K "Disk") "blocks" (He.ma K (cc K "Disk") "blocks") fd_Disk_blocks p_Disk_blocks := ⟨He.meth_ok (c.t.d.fact 118 (f := .meth "Disk" "blocks") rfl), b_Disk_blocks⟩
  obtain ⟨fd_Disk_synced, D_Disk_synced⟩ := c.t.d.def_ 44 (d := d_Disk_synced) rfl
  have F_Disk_synced := funOf (st := s_Disk_synced) D_Disk_synced
  have b_Disk_synced : Binds K fd_Disk_synced p_Disk_synced [] := FunD.bindsN (ps := p_Disk_synced) D_Disk_synced fun _ _ _ _ _ _ us hl => match us, hl with | [_], _ => rfl
  have a_Disk_synced : AtM K (cc K "Disk") "synced" (He.ma K (cc K "Disk") "synced") fd_Disk_synced p_Disk_synced := ⟨He.meth_ok (c.t.d.fact 119 (f := .meth "Disk" "synced") rfl), b_Disk_synced⟩
  obtain ⟨fd_Disk_drop, D_Disk_drop⟩ := c.t.d.def_ 45 (d := d_Disk_drop) rfl
  have F_Disk_drop := funOf (st := s_Disk_drop) D_Disk_drop
  have b_Disk_drop : Binds K fd_Disk_drop p_Disk_drop [] := FunD.bindsN (ps := p_Disk_drop) D_Disk_drop fun _ _ _ _ _ _ us hl => match us, hl with | [_, _], _ => rfl
  have a_Disk_drop : AtM K (cc K "Disk") "drop" (He.ma K (cc K "Disk") "drop") fd_Disk_drop p_Disk_drop := ⟨He.meth_ok (c.t.d.fact 120 (f := .meth "Disk" "drop") rfl), b_Disk_drop⟩
  obtain ⟨fd_Disk_copy, D_Disk_copy⟩ := c.t.d.def_ 46 (d := d_Disk_copy) rfl
  have F_Disk_copy := funOf (st := s_Disk_copy) D_Disk_copy
  have b_Disk_copy : Binds K fd_Disk_copy p_Disk_copy [] := FunD.bindsN (ps := p_Disk_copy) D_Disk_copy fun _ _ _ _ _ _ us hl => match us, hl with | [_], _ => rfl
  have a_Disk_copy : AtM K (cc K "Disk") "copy" (He.ma K (cc K "Disk") "copy") fd_Disk_copy p_Disk_copy := ⟨He.meth_ok (c.t.d.fact 121 (f := .meth "Disk" "copy") rfl), b_Disk_copy⟩
  obtain ⟨fd_Disk_cut, D_Disk_cut⟩ := c.t.d.def_ 47 (d := d_Disk_cut) rfl
  have F_Disk_cut := funOf (st := s_Disk_cut) D_Disk_cut
  have b_Disk_cut : Binds K fd_Disk_cut p_Disk_cut [] := FunD.bindsN (ps := p_Disk_cut) D_Disk_cut fun _ _ _ _ _ _ us hl => match us, hl with | [_, _], _ => rfl
  have a_Disk_cut : AtM K (cc K "Disk") "cut" (He.ma K (cc K "Disk") "cut") fd_Disk_cut p_Disk_cut := ⟨He.meth_ok (c.t.d.fact 122 (f := .meth "Disk" "cut") rfl), b_Disk_cut⟩
  obtain ⟨fd__law_draw, D__law_draw⟩ := c.t.d.def_ 48 (d := d__law_draw) rfl
  have F__law_draw := funOf (st := s__law_draw) D__law_draw
  have b__law_draw : Binds K fd__law_draw p__law_draw [] := FunD.bindsN (ps := p__law_draw) D__law_draw fun _ _ _ _ _ _ us hl => match us, hl with | [_, _], _ => rfl
  have a__law_draw : At K mg "_law_draw" (He.ga K "_law_draw") fd__law_draw p__law_draw := ⟨He.glo_ok X G (c.t.d.fact 34 (f := .glo "_law_draw") rfl), D__law_draw.kp, b__law_draw⟩
  obtain ⟨fd__law_hand, D__law_hand⟩ := c.t.d.def_ 49 (d := d__law_hand) rfl
  have F__law_hand := funOf (st := s__law_hand) D__law_hand
  have b__law_hand : Binds K fd__law_hand p__law_hand [] := FunD.bindsN (ps := p__law_hand) D__law_hand fun _ _ _ _ _ _ us hl => match us, hl with | [_], _ => rfl
  have a__law_hand : At K mg "_law_hand" (He.ga K "_law_hand") fd__law_hand p__law_hand := ⟨He.glo_ok X G (c.t.d.fact 35 (f := .glo "_law_hand") rfl), D__law_hand.kp, b__law_hand⟩
  obtain ⟨fd__law_is, D__law_is⟩ := c.t.d.def_ 50 (d := d__law_is) rfl
  have F__law_is := funOf (st := s__law_is) D__law_is
  have b__law_is : Binds K fd__law_is p__law_is [] := FunD.bindsN (ps := p__law_is) D__law_is fun _ _ _ _ _ _ us hl => match us, hl with | [_, _], _ => rfl
  have a__law_is : At K mg "_law_is" (He.ga K "_law_is") fd__law_is p__law_is := ⟨He.glo_ok X G (c.t.d.fact 36 (f := .glo "_law_is") rfl), D__law_is.kp, b__law_is⟩
  obtain ⟨fd__law_nested, D__law_nested⟩ := c.t.d.def_ 51 (d := d__law_nested) rfl
  have F__law_nested := funOf (st := s__law_nested) D__law_nested
  have b__law_nested : Binds K fd__law_nested p__law_nested [] := FunD.bindsN (ps := p__law_nested) D__law_nested fun _ _ _ _ _ _ us hl => match us, hl with | [_, _], _ => rfl
  have a__law_nested : At K mg "_law_nested" (He.ga K "_law_nested") fd__law_nested p__law_nested := ⟨He.glo_ok X G (c.t.d.fact 37 (f := .glo "_law_nested") rfl), D__law_nested.kp, b__law_nested⟩
  obtain ⟨fd__law_parcel_told, D__law_parcel_told⟩ := c.t.d.def_ 52 (d := d__law_parcel_told) rfl
  have F__law_parcel_told := funOf (st := s__law_parcel_told) D__law_parcel_told
  have b__law_parcel_told : Binds K fd__law_parcel_told p__law_parcel_told [] := FunD.bindsN (ps := p__law_parcel_told) D__law_parcel_told fun _ _ _ _ _ _ us hl => match us, hl with | [_], _ => rfl
  have a__law_parcel_told : At K mg "_law_parcel_told" (He.ga K "_law_parcel_told") fd__law_parcel_told p__law_parcel_told := ⟨He.glo_ok X G (c.t.d.fact 38 (f := .glo "_law_parcel_told") rfl), D__law_parcel_told.kp, b__law_parcel_told⟩
  obtain ⟨fd__law_parcel, D__law_parcel⟩ := c.t.d.def_ 53 (d := d__law_parcel) rfl
  have F__law_parcel := funOf (st := s__law_parcel) D__law_parcel
  have b__law_parcel : Binds K fd__law_parcel p__law_parcel [] := FunD.bindsN (ps := p__law_parcel) D__law_parcel fun _ _ _ _ _ _ us hl => match us, hl with | [_, _], _ => rfl
  have a__law_parcel : At K mg "_law_parcel" (He.ga K "_law_parcel") fd__law_parcel p__law_parcel := ⟨He.glo_ok X G (c.t.d.fact 39 (f := .glo "_law_parcel") rfl), D__law_parcel.kp, b__law_parcel⟩
  obtain ⟨fd__law_bent, D__law_bent⟩ := c.t.d.def_ 54 (d := d__law_bent) rfl
  have F__law_bent := funOf (st := s__law_bent) D__law_bent
  have b__law_bent : Binds K fd__law_bent p__law_bent [] := FunD.bindsN (ps := p__law_bent) D__law_bent fun _ _ _ _ _ _ us hl => match us, hl with | [_, _], _ => rfl
  have a__law_bent : At K mg "_law_bent" (He.ga K "_law_bent") fd__law_bent p__law_bent := ⟨He.glo_ok X G (c.t.d.fact 40 (f := .glo "_law_bent") rfl), D__law_bent.kp, b__law_bent⟩
  obtain ⟨fd__law_are_rows, D__law_are_rows⟩ := c.t.d.def_ 55 (d := d__law_are_rows) rfl
  have F__law_are_rows := funOf (st := s__law_are_rows) D__law_are_rows
  have b__law_are_rows : Binds K fd__law_are_rows p__law_are_rows [] := FunD.bindsN (ps := p__law_are_rows) D__law_are_rows fun _ _ _ _ _ _ us hl => match us, hl with | [_], _ => rfl
  have a__law_are_rows : At K mg "_law_are_rows" (He.ga K "_law_are_rows") fd__law_are_rows p__law_are_rows := ⟨He.glo_ok X G (c.t.d.fact 41 (f := .glo "_law_are_rows") rfl), D__law_are_rows.kp, b__law_are_rows⟩
  obtain ⟨fd__law_deep, D__law_deep⟩ := c.t.d.def_ 56 (d := d__law_deep) rfl
  have F__law_deep := funOf (st := s__law_deep) D__law_deep
  have b__law_deep : Binds K fd__law_deep p__law_deep [] := FunD.bindsN (ps := p__law_deep) D__law_deep fun _ _ _ _ _ _ us hl => match us, hl with | [_], _ => rfl
  have a__law_deep : At K mg "_law_deep" (He.ga K "_law_deep") fd__law_deep p__law_deep := ⟨He.glo_ok X G (c.t.d.fact 42 (f := .glo "_law_deep") rfl), D__law_deep.kp, b__law_deep⟩
  obtain ⟨fd__law_called, D__law_called⟩ := c.t.d.def_ 57 (d := d__law_called) rfl
  have F__law_called := funOf (st := s__law_called) D__law_called
  have b__law_called : Binds K fd__law_called p__law_called [] := FunD.bindsN (ps := p__law_called) D__law_called fun _ _ _ _ _ _ us hl => match us, hl with | [_, _], _ => rfl
  have a__law_called : At K mg "_law_called" (He.ga K "_law_called") fd__law_called p__law_called := ⟨He.glo_ok X G (c.t.d.fact 43 (f := .glo "_law_called") rfl), D__law_called.kp, b__law_called⟩
  obtain ⟨fd__law_did, D__law_did⟩ := c.t.d.def_ 58 (d := d__law_did) rfl
  have F__law_did := funOf (st := s__law_did) D__law_did
  have b__law_did : Binds K fd__law_did p__law_did [] := FunD.bindsN (ps := p__law_did) D__law_did fun _ _ _ _ _ _ us hl => match us, hl with | [_, _], _ => rfl
  have a__law_did : At K mg "_law_did" (He.ga K "_law_did") fd__law_did p__law_did := ⟨He.glo_ok X G (c.t.d.fact 44 (f := .glo "_law_did") rfl), D__law_did.kp, b__law_did⟩
  obtain ⟨fd__law_is_disk, D__law_is_disk⟩ := c.t.d.def_ 59 (d := d__law_is_disk) rfl
  have F__law_is_disk := funOf (st := s__law_is_disk) D__law_is_disk
  have b__law_is_disk : Binds K fd__law_is_disk p__law_is_disk [] := FunD.bindsN (ps := p__law_is_disk) D__law_is_disk fun _ _ _ _ _ _ us hl => match us, hl with | [_, _], _ => rfl
  have a__law_is_disk : At K mg "_law_is_disk" (He.ga K "_law_is_disk") fd__law_is_disk p__law_is_disk := ⟨He.glo_ok X G (c.t.d.fact 45 (f := .glo "_law_is_disk") rfl), D__law_is_disk.kp, b__law_is_disk⟩
  obtain ⟨fd__law_disk_deed, D__law_disk_deed⟩ := c.t.d.def_ 60 (d := d__law_disk_deed) rfl
  have F__law_disk_deed := funOf (st := s__law_disk_deed) D__law_disk_deed
  have b__law_disk_deed : Binds K fd__law_disk_deed p__law_disk_deed [] := FunD.bindsN (ps := p__law_disk_deed) D__law_disk_deed fun _ _ _ _ _ _ us hl => match us, hl with | [_, _], _ => rfl
  have a__law_disk_deed : At K mg "_law_disk_deed" (He.ga K "_law_disk_deed") fd__law_disk_deed p__law_disk_deed := ⟨He.glo_ok X G (c.t.d.fact 46 (f := .glo "_law_disk_deed") rfl), D__law_disk_deed.kp, b__law_disk_deed⟩
  obtain ⟨fd_law, D_law⟩ := c.t.d.def_ 61 (d := d_law) rfl
  have F_law := funOf (st := s_law) D_law
  have b_law : Binds K fd_law p_law [] := FunD.bindsN (ps := p_law) D_law fun _ _ _ _ _ _ us hl => match us, hl with | [_], _ => rfl
  have a_law : At K mg "law" (He.ga K "law") fd_law p_law := ⟨He.glo_ok X G (c.t.d.fact 47 (f := .glo "law") rfl), D_law.kp, b_law⟩
  obtain ⟨fd_RowReader_read_several, D_RowReader_read_several⟩ := c.t.d.def_ 62 (d := d_RowReader_read_several) rfl
  have F_RowReader_read_several := funOf (st := s_RowReader_read_several) D_RowReader_read_several
  have b_RowReader_read_several : Binds K fd_RowReader_read_several p_RowReader_read_several [] := FunD.bindsN (ps := p_RowReader_read_several) D_RowReader_read_several fun _ _ _ _ _ _ us hl => match us, hl with | [_, _], _ => rfl
  have a_RowReader_read_several : AtM K (cc K "RowReader") "read_several" (He.ma K (cc K "RowReader") "read_several") fd_RowReader_read_several p_RowReader_read_several := ⟨He.meth_ok (c.t.d.fact 123 (f := .meth "RowReader" "read_several") rfl), b_RowReader_read_several⟩
  have ba : ∀ (s : Shared) (v : Value), BindsTo s fd_law ⟨[v], []⟩ [("_law_script", v)] := fun s v => FunD.bindsA (ps := p_law) D_law (fun _ _ _ _ _ _ us hl => match us, hl with | [_], _ => rfl) s [v] rfl
  refine ⟨fd_law, ba, fun base => ?_⟩
  have k_is_integer : Kn P w K mg base "is_integer" 1 p_is_integer sp_is_integer := Kn.of a_is_integer (ok_is_integer T  (F := F_is_integer))
  have k_is_within : Kn P w K mg base "is_within" 2 p_is_within sp_is_within := Kn.of a_is_within (ok_is_within T (c_is_integer := k_is_integer) (F := F_is_within))
  have k__law_number : Kn P w K mg base "_law_number" 1 p__law_number sp_number := Kn.of a__law_number (ok_number T  (F := F__law_number))
  have k_is_sign : Kn P w K mg base "is_sign" 1 p_is_sign sp_is_sign := Kn.of a_is_sign (ok_is_sign T  (F := F_is_sign))
  have k_is_sized : Kn P w K mg base "is_sized" 1 p_is_sized sp_is_sized := Kn.of a_is_sized (ok_is_sized T  (F := F_is_sized))
  have k_is_listed : Kn P w K mg base "is_listed" 1 p_is_listed sp_is_listed := Kn.of a_is_listed (ok_is_listed T  (F := F_is_listed))
  have k_check_within : Kn P w K mg base "check_within" 3 p_check_within (sp_check_within (cc K "NoNumber")) := Kn.of a_check_within (ok_check_within T (c_is_within := k_is_within) (F := F_check_within))
  have k_is_row : Kn P w K mg base "is_row" 1 p_is_row sp_is_row := Kn.of a_is_row (ok_is_row T  (F := F_is_row))
  have k_check_row : Kn P w K mg base "check_row" 2 p_check_row (sp_check_row (cc K "NoRow")) := Kn.of a_check_row (ok_check_row T (c_is_row := k_is_row) (F := F_check_row))
  have k_is_short_string : Kn P w K mg base "is_short_string" 2 p_is_short_string sp_short := Kn.of a_is_short_string (ok_short T (c_is_sign := k_is_sign) (F := F_is_short_string))
  have k_is_parcel_deep : Kn P w K mg base "is_parcel_deep" 24 p_is_parcel_deep (sp_ipd 21) := Kn.of a_is_parcel_deep (ok_ipd T (c_is_short_string := k_is_short_string) (F := F_is_parcel_deep) (a := a_is_parcel_deep) 21)
  have k_is_parcel : Kn P w K mg base "is_parcel" 25 p_is_parcel sp_is_parcel := Kn.of a_is_parcel (ok_is_parcel T (c_is_parcel_deep := k_is_parcel_deep) (F := F_is_parcel))
  have k_whole : Kn P w K mg base "whole" 1 p_whole sp_whole := Kn.of a_whole (ok_whole T  (F := F_whole))
  have k_bytes_of : Kn P w K mg base "bytes_of" 22 p_bytes_of (sp_bytes 20) := Kn.of a_bytes_of (ok_bytes T (c_whole := k_whole) (F := F_bytes_of) (a := a_bytes_of) 20)
  have k_row_of : Kn P w K mg base "row_of" 26 p_row_of (sp_row_of (cc K "NoParcel")) := Kn.of a_row_of (ok_row_of T (c_is_parcel := k_is_parcel) (c_bytes_of := k_bytes_of) (F := F_row_of))
  have k_raw_mark : Kn P w K mg base "raw_mark" 1 p_raw_mark sp_raw_mark := Kn.of a_raw_mark (ok_raw_mark T  (F := F_raw_mark))
  have k__law_mark : Kn P w K mg base "_law_mark" 1 p__law_mark sp_raw_mark := Kn.of a__law_mark (ok_law_mark T  (F := F__law_mark))
  have k_mark : Kn P w K mg base "mark" 3 p_mark (sp_mark (cc K "NoRow")) := Kn.of a_mark (ok_mark T (c_check_row := k_check_row) (c_raw_mark := k_raw_mark) (F := F_mark))
  have k_seal_of : Kn P w K mg base "seal_of" 2 p_seal_of sp_seal := Kn.of a_seal_of (ok_seal T (c_raw_mark := k_raw_mark) (F := F_seal_of))
  have k__law_seal : Kn P w K mg base "_law_seal" 2 p__law_seal sp_seal := Kn.of a__law_seal (ok_law_seal T (c__law_mark := k__law_mark) (F := F__law_seal))
  have k_sealed : Kn P w K mg base "sealed" 27 p_sealed (sp_sealed (cc K "NoParcel")) := Kn.of a_sealed (ok_sealed T (c_row_of := k_row_of) (c_seal_of := k_seal_of) (F := F_sealed))
  have k__law_figures : Kn P w K mg base "_law_figures" 1 p__law_figures sp_figures := Kn.of a__law_figures (ok_figures T  (F := F__law_figures))
  have k__law_row : Kn P w K mg base "_law_row" 23 p__law_row (sp_row 21) := Kn.of a__law_row (ok_row T (c__law_figures := k__law_figures) (F := F__law_row) (a := a__law_row) 21)
  have k__law_sealed : Kn P w K mg base "_law_sealed" 24 p__law_sealed sp_law_sealed := Kn.of a__law_sealed (ok_law_sealed T (c__law_row := k__law_row) (c__law_seal := k__law_seal) (F := F__law_sealed))
  have k__law_read_whole : Kn P w K mg base "_law_read_whole" 1 p__law_read_whole sp_read_whole := Kn.of a__law_read_whole (ok_read_whole T  (F := F__law_read_whole))
  have k__law_sign : Kn P w K mg base "_law_sign" 1 p__law_sign sp_sign := Kn.of a__law_sign (ok_sign T  (F := F__law_sign))
  have k__law_read_text : Kn P w K mg base "_law_read_text" 2 p__law_read_text sp_read_text := Kn.of a__law_read_text (ok_read_text T (c__law_read_whole := k__law_read_whole) (c__law_sign := k__law_sign) (F := F__law_read_text))
  have k__law_read_parcel : Kn P w K mg base "_law_read_parcel" 23 p__law_read_parcel (sp_rp 20) := Kn.of a__law_read_parcel (ok_rp T (c__law_read_whole := k__law_read_whole) (c__law_read_text := k__law_read_text) (F := F__law_read_parcel) (a := a__law_read_parcel) 20)
  have k__law_read : Kn P w K mg base "_law_read" 24 p__law_read sp_read := Kn.of a__law_read (ok_read T (c__law_read_parcel := k__law_read_parcel) (F := F__law_read))
  have k_BadRow_init : Kx P w K mg base (cc K "BadRow") 1 p_BadRow_init (sp_bad K) := ⟨_, _, ok_bad T F_BadRow_init, (He.meth_ok (c.t.d.fact 111 (f := .meth "BadRow" "__init__") rfl)).at_, b_BadRow_init⟩
  have k_RowReader : Ki P w K mg base "RowReader" (cc K "RowReader") 1 p_RowReader_init (sp_init K) := ⟨_, _, ok_rinit T F_RowReader_init, He.mkr_ok (c.t.d.fact 109 (f := .mkr "RowReader") rfl), He.glo_ok X G (c.t.d.fact 90 (f := .glo "RowReader") rfl), b_RowReader_init⟩
  have k_RowReader_next_byte : Km P w K mg base (cc K "RowReader") "next_byte" 3 p_RowReader_next_byte (sp_nxt K) := Km.of a_RowReader_next_byte (ok_nxt T (c_BadRow_init := k_BadRow_init) (F := F_RowReader_next_byte))
  have k_RowReader_read_whole : Km P w K mg base (cc K "RowReader") "read_whole" 3 p_RowReader_read_whole (sp_whl K) := Km.of a_RowReader_read_whole (ok_whl T (c_BadRow_init := k_BadRow_init) (F := F_RowReader_read_whole))
  have k_RowReader_read_string : Km P w K mg base (cc K "RowReader") "read_string" 4 p_RowReader_read_string (sp_txt K) := Km.of a_RowReader_read_string (ok_txt T (c_BadRow_init := k_BadRow_init) (c_is_sign := k_is_sign) (c_RowReader_read_whole := k_RowReader_read_whole) (c_RowReader_next_byte := k_RowReader_next_byte) (F := F_RowReader_read_string))
  have k_RowReader_read_parcel : Km P w K mg base (cc K "RowReader") "read_parcel" 45 p_RowReader_read_parcel (sp_rpc K 20) := Km.of a_RowReader_read_parcel (ok_both T (c_BadRow_init := k_BadRow_init) (c_RowReader_next_byte := k_RowReader_next_byte) (c_RowReader_read_whole := k_RowReader_read_whole) (c_RowReader_read_string := k_RowReader_read_string) (F := F_RowReader_read_parcel) (F2 := F_RowReader_read_several) (a := a_RowReader_read_parcel) (a2 := a_RowReader_read_several) 20)
  have k_parcel_of : Kn P w K mg base "parcel_of" 46 p_parcel_of (sp_parcel_of K) := Kn.of a_parcel_of (ok_parcel_of T (c_check_row := k_check_row) (c_BadRow_init := k_BadRow_init) (c_RowReader := k_RowReader) (c_RowReader_read_parcel := k_RowReader_read_parcel) (F := F_parcel_of))
  have k_unsealed : Kn P w K mg base "unsealed" 47 p_unsealed sp_unsealed := Kn.of a_unsealed (ok_unsealed T (c_is_row := k_is_row) (c_seal_of := k_seal_of) (c_parcel_of := k_parcel_of) (F := F_unsealed))
  have k_parcels_in : Kn P w K mg base "parcels_in" 48 p_parcels_in sp_parcels_in := Kn.of a_parcels_in (ok_parcels_in T (c_unsealed := k_unsealed) (F := F_parcels_in))
  have k_kept_parcels : Kn P w K mg base "kept_parcels" 49 p_kept_parcels sp_parcels_in := Kn.of a_kept_parcels (ok_kept_parcels T (c_is_listed := k_is_listed) (c_is_row := k_is_row) (c_parcels_in := k_parcels_in) (F := F_kept_parcels))
  have k__law_kept_due : Kn P w K mg base "_law_kept_due" 25 p__law_kept_due sp_parcels_in := Kn.of a__law_kept_due (ok_kept_due T (c__law_seal := k__law_seal) (c__law_read := k__law_read) (F := F__law_kept_due))
  have k_Disk : Ki P w K mg base "Disk" (cc K "Disk") 1 p_Disk_init (sp_dinit K) := ⟨_, _, ok_dinit T F_Disk_init, He.mkr_ok (c.t.d.fact 110 (f := .mkr "Disk") rfl), He.glo_ok X G (c.t.d.fact 91 (f := .glo "Disk") rfl), b_Disk_init⟩
  have k_Disk_write : Km P w K mg base (cc K "Disk") "write" 3 p_Disk_write (sp_write K) := Km.of a_Disk_write (ok_write T (c_check_row := k_check_row) (F := F_Disk_write))
  have k_Disk_sync : Km P w K mg base (cc K "Disk") "sync" 1 p_Disk_sync (sp_sync K) := Km.of a_Disk_sync (ok_sync T  (F := F_Disk_sync))
  have k_Disk_blocks : Km P w K mg base (cc K "Disk") "blocks" 1 p_Disk_blocks (sp_blocks K) := Km.of a_Disk_blocks (ok_blocks T  (F := F_Disk_blocks))
  have k_Disk_synced : Km P w K mg base (cc K "Disk") "synced" 1 p_Disk_synced (sp_synced K) := Km.of a_Disk_synced (ok_synced T  (F := F_Disk_synced))
  have k_Disk_drop : Km P w K mg base (cc K "Disk") "drop" 4 p_Disk_drop (sp_drop K) := Km.of a_Disk_drop (ok_drop T (c_check_within := k_check_within) (F := F_Disk_drop))
  have k_Disk_copy : Km P w K mg base (cc K "Disk") "copy" 3 p_Disk_copy (sp_copy K) := Km.of a_Disk_copy (ok_copy T (c_Disk := k_Disk) (F := F_Disk_copy))
  have k_Disk_cut : Km P w K mg base (cc K "Disk") "cut" 3 p_Disk_cut (sp_cut K) := Km.of a_Disk_cut (ok_cut T (c_is_sized := k_is_sized) (c_is_within := k_is_within) (F := F_Disk_cut))
  have k__law_draw : Kn P w K mg base "_law_draw" 1 p__law_draw sp_draw := Kn.of a__law_draw (ok_draw T  (F := F__law_draw))
  have k__law_hand : Kn P w K mg base "_law_hand" 1 p__law_hand (sp_hand K) := Kn.of a__law_hand (ok_hand T  (F := F__law_hand))
  have k__law_is : Kn P w K mg base "_law_is" 25 p__law_is (sp_same 24) := Kn.of a__law_is (ok_same T  (F := F__law_is) (a := a__law_is) 24)
  have k__law_nested : Kn P w K mg base "_law_nested" 1 p__law_nested sp_nested := Kn.of a__law_nested (ok_nested T  (F := F__law_nested))
  have k__law_parcel_told : Kn P w K mg base "_law_parcel_told" 47 p__law_parcel_told sp_ptold := Kn.of a__law_parcel_told (ok_ptold T (c_parcel_of := k_parcel_of) (F := F__law_parcel_told))
  have k__law_parcel : Kn P w K mg base "_law_parcel" 6 p__law_parcel (sp_parc 4) := Kn.of a__law_parcel (ok_parc T (c__law_draw := k__law_draw) F__law_parcel a__law_parcel 4 (by decide))
  have k__law_parcel_1 : Kn P w K mg base "_law_parcel" 4 p__law_parcel (sp_parc 2) := Kn.of a__law_parcel (ok_parc T (c__law_draw := k__law_draw) F__law_parcel a__law_parcel 2 (by decide))
  have k__law_bent : Kn P w K mg base "_law_bent" 2 p__law_bent sp_bent := Kn.of a__law_bent (ok_bent T (c__law_draw := k__law_draw) (F := F__law_bent))
  have k__law_are_rows : Kn P w K mg base "_law_are_rows" 48 p__law_are_rows sp_arerows := Kn.of a__law_are_rows (ok_arerows T (c__law_draw := k__law_draw) (c__law_parcel := k__law_parcel) (c__law_nested := k__law_nested) (c__law_row := k__law_row) (c__law_read := k__law_read) (c__law_is := k__law_is) (c_is_parcel := k_is_parcel) (c_row_of := k_row_of) (c_sealed := k_sealed) (c__law_sealed := k__law_sealed) (c_unsealed := k_unsealed) (c__law_seal := k__law_seal) (c__law_bent := k__law_bent) (c__law_parcel_told := k__law_parcel_told) (c_mark := k_mark) (c__law_mark := k__law_mark) (F := F__law_are_rows))
  have k__law_deep : Kn P w K mg base "_law_deep" 2 p__law_deep sp_deep := Kn.of a__law_deep (ok_deep T (c__law_draw := k__law_draw) (F := F__law_deep))
  have k__law_called : Kn P w K mg base "_law_called" 5 p__law_called (sp_called K) := Kn.of a__law_called (ok_called T (c_Disk_write := k_Disk_write) (c_Disk_sync := k_Disk_sync) (c_Disk_cut := k_Disk_cut) (c_Disk_drop := k_Disk_drop) (F := F__law_called))
  have k__law_did : Kn P w K mg base "_law_did" 2 p__law_did sp_did := Kn.of a__law_did (ok_did T (c__law_number := k__law_number) (F := F__law_did))
  have k__law_is_disk : Kn P w K mg base "_law_is_disk" 50 p__law_is_disk (sp_isdisk K) := Kn.of a__law_is_disk (ok_isdisk T (c__law_is := k__law_is) (c_Disk_blocks := k_Disk_blocks) (c_Disk_synced := k_Disk_synced) (c_kept_parcels := k_kept_parcels) (c__law_kept_due := k__law_kept_due) (F := F__law_is_disk))
  have k__law_disk_deed : Kn P w K mg base "_law_disk_deed" 25 p__law_disk_deed sp_ddeed := Kn.of a__law_disk_deed (ok_ddeed T (c__law_draw := k__law_draw) (c__law_parcel := k__law_parcel_1) (c__law_sealed := k__law_sealed) (c__law_row := k__law_row) (c__law_deep := k__law_deep) (F := F__law_disk_deed))
  exact ok_law T (c__law_hand := k__law_hand) (c_Disk := k_Disk) (c_Disk_copy := k_Disk_copy) (c_Disk_blocks := k_Disk_blocks) (c__law_draw := k__law_draw) (c__law_disk_deed := k__law_disk_deed) (c__law_is := k__law_is) (c__law_called := k__law_called) (c__law_did := k__law_did) (c__law_is_disk := k__law_is_disk) (c__law_are_rows := k__law_are_rows) F_law
end Cl
set_option maxRecDepth 100000
set_option maxHeartbeats 0
/-! the end -/
namespace Cl
open PySem PySem.Spec PyProof.Rows L2 RZ
def loose0 : List Str := ["ForestError", "NoNumber", "NoParcel", "NoRow", "BadRow", "NoCut", "NoBlocks", "NOTHING", "NO", "YES", "NUMBER", "BELOW", "STRING", "SEVERAL", "MOST_DEEP", "MOST_SIGNS", "FIRST_SIGN", "LAST_SIGN", "NO_SIGN", "SIGNS", "BASE", "BYTES", "MULTIPLIER", "MODULUS", "SEAL_BYTES", "is_row", "check_row", "is_sign", "is_short_string", "is_parcel_deep"]
def loose1 : List Str := ["is_parcel", "whole", "bytes_of", "row_of", "RowReader", "parcel_of", "raw_mark", "mark", "seal_of", "sealed", "unsealed", "is_integer", "is_within", "is_sized", "is_listed", "check_within", "Disk", "parcels_in", "kept_parcels", "_law_hand", "_law_draw", "_law_is", "_law_deep", "_law_number", "_law_figures", "_law_row", "_law_mark", "_law_seal", "_law_sealed", "_law_read_whole"]
def loose2 : List Str := ["_law_sign", "_law_read_text", "_law_read_parcel", "_law_read", "_law_parcel", "_law_nested", "_law_parcel_told", "_law_bent", "_law_are_rows", "_law_called", "_law_did", "_law_disk_deed", "_law_kept_due", "_law_is_disk"]
def looseL : List Str := loose0 ++ (loose1 ++ (loose2))
theorem runL (w : World) : HandSHeadRun.RunEq RL (PySem.W.view RL.prog [79]) hkL obL 20000 looseL w := by
  intro os
  kernel_rfl
theorem lawAt {w : World} {K : PySem.W.Frag} {h : Heap} {mg : Str → Option Value} (X : K.In h) (G : h.Ns mainGlobals mg) (c : He.SaysX faL fnL [] [] exB w h K) : mg "law" = some (.ref (cc K "law")) := He.glo_ok X G (c.t.d.fact 47 (f := .glo "law") rfl)
end Cl
set_option maxRecDepth 100000
set_option maxHeartbeats 0
/-! the end -/
namespace Cl
open PySem PySem.Spec PyProof.Rows L2 RZ
theorem ref_inj {a b : Addr} (h : some (Value.ref a) = some (Value.ref b)) : a = b := by
  injection h with h
  injection h
theorem lastL {w : World} {K : PySem.W.Frag} {h : Heap} {mg : Str → Option Value} {fa : Addr} (X : K.In h) (G : h.Ns mainGlobals mg) (c : He.SaysX faL fnL [] [] exB w h K) (hm : mg "law" = some (.ref fa)) :
    LamX.LawAtS PySem.Challenge.rw_cutlinked_k30_whole_parcels_seals_and_di w K (L2.CX PySem.Challenge.rw_cutlinked_k30_whole_parcels_seals_and_di.prog w) 51 63 "_law_script" mg fa h := by
  have ef : fa = cc K "law" := ref_inj (hm.symm.trans (lawAt X G c))
  rw [ef]
  obtain ⟨fd, hb, hF⟩ := factsL (P := PySem.Challenge.rw_cutlinked_k30_whole_parcels_seals_and_di.prog) (w := w) X G c
  exact ⟨fd, [], sp_law K, (fun p hp => by cases hp), (fun p hp => by cases hp), (fun p hp => by cases hp), hb, fun H a ns hl _ _ hS => ⟨_, rfl, a, ns, rfl, hS, Nat.le_trans hl (by decide), fun _ => rfl⟩, fun base _ _ _ => hF base⟩
end Cl
set_option maxRecDepth 100000
set_option maxHeartbeats 0
open PySem PySem.W PySem.Calls PyProof.Rows
theorem PySem.Challenge.cw_cutlinked_k30_whole_parcels_seals_and_di_holds : PySem.Challenge.rw_cutlinked_k30_whole_parcels_seals_and_di.Holds := by
  w_on; o_law
  refine HandSHeadRun.head_any (r := OpenLaw.row PySem.Challenge.rw_cutlinked_k30_whole_parcels_seals_and_di) (q := view (OpenLaw.row PySem.Challenge.rw_cutlinked_k30_whole_parcels_seals_and_di).prog [79]) (H := Cl.hkL) (ob := Cl.obL) (M := 20000) (loose := Cl.looseL) (d := HandSHeadRun.topDef (OpenLaw.row PySem.Challenge.rw_cutlinked_k30_whole_parcels_seals_and_di).prog 79) (kwd := []) Cl.obL_eq
    (by kernel_rfl) (fun s => by kernel_rfl) Cl.runL (by kernel_rfl) (by kernel_rfl) (by kernel_rfl) (by rfl) (by first | assumption | decide +kernel) (by decide +kernel) ⟨rfl, rfl, rfl, rfl, rfl, by decide +kernel⟩ ?hw ?hc
  case hw => w_witness2
  case hc =>
    refine LamX.walk_ofTsE (l := PySem.Challenge.rw_cutlinked_k30_whole_parcels_seals_and_di) (n := 63) (k := 51) (x := "_law_script") (CX := fun w => L2.CX PySem.Challenge.rw_cutlinked_k30_whole_parcels_seals_and_di.prog w) rfl (by decide) (by kernel_rfl) ⟨rfl, by decide, by decide⟩ ?F ?C
    case C =>
      intro w H s e s' z
      obtain ⟨a, B, H', cls, d, _, _, _, _, _, _, _, z⟩ := z
      exact z
    case F =>
      intro w mg fa h Y G hmg0
      obtain ⟨K, KX, c⟩ := Y
      have hmg : mg ("law" : PySem.Str) = some (.ref fa) := by
        have e : (HandSHeadRun.topDef (OpenLaw.row PySem.Challenge.rw_cutlinked_k30_whole_parcels_seals_and_di).prog 79).name = ("law" : PySem.Str) := by kernel_rfl
        rw [← e]
        exact hmg0
      exact ⟨K, KX, Cl.lastL KX G c hmg⟩
