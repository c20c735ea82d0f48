import PyProof.Rows.All
import Wide.All
import OpenK.AllK
import Wide.FinOn
import HandS.ForMost
import HandS.Codes
import HandS.IsInst
import HandS.SortInts
import HandS.Zip
import HandS.NoneIn
import HandS.Wide
import HandS.Walk
import HandS.Style
import KE.DataMinMax
import KE.SortData
import HandS.ReplaceLit
import HandS.Deep
import KE.GoesMore
import KE.GoesZip
import HandS.Conv
import KE.GoesEnum
import KE.KDictZip
import KE.SortKeyHeap
import HandS.Lambda
import HandS.CallRecv
import PyProof.Rows.SeqMore
import PySem.Challenge.RW_wordfolds_k18_rules_of_a_monoid
import HandS.EndTab
import KE.KNestM
set_option Elab.async false
set_option linter.all false
set_option maxRecDepth 100000
set_option maxHeartbeats 4000000
/-! My rules beside the layer's: list(text), text * int, set(list of ints), len(set). -/
namespace My
open PySem PySem.Spec PyProof.Rows L2 SX

theorem sz {n : Nat} (h : n ≤ 100000) : n ≤ sizeLine := Nat.le_trans h (by decide)
theorem szlt {n : Nat} (h : n < 100000) : n < sizeLine := Nat.lt_of_lt_of_le h (by decide)

/-- the one-sign texts of a word -/
def signs (l : List Nat) : List V := l.map fun c => V.str (S [c])

section
variable {X : Cx}
/-- list(text) -/
def rListS : List V → Hp → VK → Prop := fun xs H Q => ∃ l : List Nat, xs = [.str (S l)] ∧ l.length ≤ 100000 ∧ ∀ p, H p = none → Q (.ref p) (upd H p (.lst (signs l)))
theorem vals_items {l : List Nat} : ∀ {acc : Array Value}, ItemsOf (SignAt (S l)) acc l.length → Vals (signs l) acc.toList := by
  intro acc h
  obtain ⟨h1, h2⟩ := h
  have go : ∀ (m : List Nat) (us : List Value), us.length = m.length → (∀ (j : Nat) (v : Value), us[j]? = some v → ∃ (c : Nat) (u : Tok), m[j]? = some c ∧ v = Value.str ⟨#[c]⟩ u) → Vals (signs m) us := by
    intro m
    induction m with
    | nil =>
      intro us hl _
      cases us with
      | nil => exact .nil
      | cons a r => simp at hl
    | cons c m ih =>
      intro us hl hv
      cases us with
      | nil => simp at hl
      | cons a r =>
        obtain ⟨c', u, e1, e2⟩ := hv 0 a rfl
        have e3 : c = c' := Option.some.inj e1
        subst e3
        refine .cons ⟨u, e2⟩ (ih r (by simpa using hl) fun j v e => ?_)
        obtain ⟨c2, u2, e4, e5⟩ := hv (j + 1) v (by simpa using e)
        exact ⟨c2, u2, by simpa using e4, e5⟩
  refine go l acc.toList (by simpa using h1) fun j v e => ?_
  obtain ⟨c, u, e1, e2⟩ := h2 j v (by simpa using e)
  exact ⟨c, u, by simpa using e1, e2⟩
theorem call_listS (hc : X.calm = true) : CallR X (.type "list") rListS := by
  intro pins s σ H xs us Q I r h
  obtain ⟨l, rfl, hl, q⟩ := h
  obtain ⟨u, rfl, rx⟩ := vals1 r
  obtain ⟨t, rfl⟩ := rx
  have hsz : (S l).cps.size = l.length := by simp
  refine call_list_str (I.ok.hd hc) (S l) t (fun h' tk acc c kp e hi => ?_) (by rw [hsz]; exact sz hl)
  rw [hsz] at hi
  have hv := vals_items hi
  refine ⟨.ref s.heap.objs.size, _, I.laid (t' := tk) kp (Nat.le_refl _) (show ObjOk X.prog X.w _ h' _ (.lst (signs l)) from ⟨?_, acc.toList, c, hv, by simpa using e⟩), rfl, q _ (I.hok.fresh (Nat.le_refl _))⟩
  show (l.map _).length ≤ sizeLine
  rw [List.length_map]
  exact sz hl

/-- text * int -/
def repL (l : List Nat) : Nat → List Nat
  | 0 => []
  | n + 1 => l ++ repL l n
theorem repL_len (l : List Nat) : ∀ n, (repL l n).length = n * l.length
  | 0 => by simp [repL]
  | n + 1 => by simp [repL, repL_len l n, Nat.succ_mul, Nat.add_comm]
theorem fold_rep (l : List Nat) : ∀ (n : Nat) (acc : Array Nat), ((List.replicate n l.toArray).foldl (· ++ ·) acc).toList = acc.toList ++ repL l n
  | 0, acc => by simp [repL]
  | n + 1, acc => by
    rw [List.replicate_succ, List.foldl_cons, fold_rep l n]
    simp [repL]
theorem repL_one (l : List Nat) : repL l 1 = l := by simp [repL]
theorem repL_nil : ∀ n, repL [] n = []
  | 0 => rfl
  | n + 1 => by simp [repL, repL_nil n]
theorem mul_S (l : List Nat) (k : Int) : Txt.mul (S l) k = S (repL l k.toNat) := by
  unfold Txt.mul
  by_cases h1 : k < 1
  · rw [if_pos h1]
    have e : k.toNat = 0 := by omega
    rw [e]
    rfl
  · rw [if_neg h1]
    by_cases h2 : (k == 1 || (S l).length == 0) = true
    · rw [if_pos h2]
      rcases (Bool.or_eq_true _ _).mp h2 with h | h
      · have e : k = 1 := by simpa using h
        subst e
        show S l = S (repL l 1)
        rw [repL_one]
      · have e : l = [] := by
          have := S_len l
          simp at h
          rw [this] at h
          exact List.length_eq_zero_iff.mp h
        subst e
        rw [repL_nil]
    · rw [if_neg h2]
      have e := fold_rep l k.toNat #[]
      have e2 : (List.replicate k.toNat l.toArray).foldl (· ++ ·) #[] = (repL l k.toNat).toArray := by
        have e3 := congrArg List.toArray e
        simpa using e3
      exact congrArg (fun z => (⟨z⟩ : Str)) e2
def rMulS : R2 := fun x y H Q => ∃ (l : List Nat) (k : Int), x = .str (S l) ∧ y = .int k ∧ k ≤ 1000 ∧ -1000 ≤ k ∧ l.length ≤ 1000 ∧ Q (.str (S (repL l k.toNat))) H
theorem op_mulS : OpR X (binaryOp .Mult) rMulS := by
  intro pins s σ H x y v u Q I rx ry h
  obtain ⟨l, k, rfl, rfl, hk, hk2, hl, q⟩ := h
  obtain ⟨t, rfl⟩ := rx
  obtain ⟨t', rfl⟩ := ry
  refine SB.mul ⟨?_, fun h1 h2 => ?_, fun h1 h2 => ?_⟩ fun tt kk => ?_
  · have a : ¬ k < -(2 ^ 63 : Int) := by omega
    have b : ¬ k ≥ 2 ^ 63 := by omega
    simp [a, b]
    omega
  · rw [S_len]
    have h3 : (1000 : Int) ≤ (2 ^ 63 - 1) / k := by
      refine (Int.le_ediv_iff_mul_le (by omega)).mpr ?_
      omega
    omega
  · rw [S_len]
    unfold Builtin.Str.tooLong
    have e : l.length * k.toNat ≤ 1000 * 1000 := Nat.mul_le_mul hl (by omega)
    have e2 : (1000 * 1000 : Nat) ≤ sizeLine := by decide
    simp
    omega
  · rw [mul_S]
    exact ⟨.str _, H, I.tok _, ⟨_, rfl⟩, q⟩

/-- set(xs), xs a list of ints -/
def rSetL (K : PySem.W.Frag) : List V → Hp → VK → Prop := fun xs H Q => ∃ (l : Addr) (ns : List Int), xs = [.ref l] ∧ SqL K H l (ns.map V.int) ∧ ns.length ≤ 4000 ∧
  ∀ p, H p = none → Q (.ref p) (upd H p (.set (fun k => (firstMet (fun i => ns.getD i 0) ns.length).any (· == k)) (firstMet (fun i => ns.getD i 0) ns.length).length))
theorem call_setL (hc : X.calm = true) : CallR X (.type "set") (rSetL X.K) := by
  intro pins s σ H xs us Q I r h
  obtain ⟨l, ns, rfl, hq, hl, q⟩ := h
  obtain ⟨u, rfl, rx⟩ := vals1 r
  cases rx
  obtain ⟨its, r, pl, hz⟩ := I.list hq
  have hlen : its.toArray.size = ns.length := by rw [List.size_toArray, ← r.length, List.length_map]
  refine call_set_list (I.ok.hd hc) pl.isList (by simpa using RZ.intsAre_vals r) (by rw [hlen]; unfold scanBound; omega) fun h' tk hS hk => ?_
  rw [hlen] at hS
  exact ⟨.ref s.heap.objs.size, _, I.laid (t' := tk) (fun b o e => hk b o (Heap.lt_size e) e) (Nat.le_refl _) (show ObjOk X.prog X.w _ h' _ (.set _ _) from hS), rfl, q _ (I.hok.fresh (Nat.le_refl _))⟩
def rLenSet : List V → Hp → VK → Prop := fun xs H Q => ∃ (a : Addr) (T : Int → Bool) (n : Nat), xs = [.ref a] ∧ H a = some (.set T n) ∧ n ≤ 100000 ∧ Q (.int n) H
theorem call_lenSet : CallR X (.builtin "len") rLenSet := by
  intro pins s σ H xs us Q I r h
  obtain ⟨a, T, n, rfl, ha, hn, q⟩ := h
  obtain ⟨u, rfl, rx⟩ := vals1 r
  cases rx
  obtain ⟨o, es, ep, t, ho, hex, hd, _, _, _, hf, hn'⟩ := show s.heap.SetOf (intKind X.prog X.w) a T n from I.hok a _ ha
  exact call_len_set ho hex hd hf (by omega) ⟨.int n, H, I.tok _, ⟨_, by rw [hn']⟩, q⟩
end
end My
/-! How a reading is gone through, step by step: each row is one transformer of the layer. -/
namespace My
open PySem PySem.Spec L2 SX
open PyProof.Rows hiding St

/-! ### defs that may be called by name -/
structure Cal (P : Program) (w : World) (K : PySem.W.Frag) (mg : Str → Option Value) (base : Heap) (k : Nat) (x : Str) (sp : Sp) : Prop where
  ex : ∃ (f : Addr) (fd : FuncData) (ps : List Str), FnOk P w K mg base L2.CX0 k f fd ps sp ∧ mg x = some (.ref f) ∧ PySem.W.keepIn K (.ref f) = true ∧ Binds K fd ps []
theorem Cal.mono {P : Program} {w : World} {K : PySem.W.Frag} {mg : Str → Option Value} {base : Heap} {j k : Nat} {x : Str} {sp : Sp} (c : Cal P w K mg base j x sp) (h : j ≤ k) : Cal P w K mg base k x sp := by
  obtain ⟨f, fd, ps, F, a, b, d⟩ := c.ex
  exact ⟨f, fd, ps, F.mono h, a, b, d⟩
section
variable {X : Cx} {k j : Nat} {x : Str} {sp : Sp} {p pos : Pos} {e : Expr} {es : List Expr} {t : TA}
theorem pe_c (c : Cal X.prog X.w X.K X.mg X.base k x sp) (hr : Room j X.A) (hk : k ≤ j) (hg : Gl X x) (ha : PA X (e :: es) t)
    (hdb : (x == ("__debug__" : Str)) = false := by decide) (he : starEach (e :: es) X.env = (false, eval e X.env) :: starEach es X.env := by rfl) (hpl : (backTo pos (starEach es X.env)).any (·.1) = false := by rfl) :
    PE X (.Call (.Name x p) (e :: es) [] pos) (tCall sp [] L2.E0 t) := by
  obtain ⟨f, fd, ps, F, hm, kp, b⟩ := c.ex
  exact pe_call F (hr.mono hk) hg hm kp b .nil L2.pass0 ha hdb he hpl
theorem pe_c0 (c : Cal X.prog X.w X.K X.mg X.base k x sp) (hr : Room j X.A) (hk : k ≤ j) (hg : Gl X x) (hdb : (x == ("__debug__" : Str)) = false := by decide) :
    PE X (.Call (.Name x p) [] [] pos) (tCall sp [] L2.E0 tNil) := by
  obtain ⟨f, fd, ps, F, hm, kp, b⟩ := c.ex
  exact pe_call0 F (hr.mono hk) hg hm kp b .nil L2.pass0 hdb
theorem pe_strS {x : Str} {j} {pos : Pos} (l : List Nat) (h : x = S l) : PE X (.Constant (.str x) j pos) (tC (.str (S l))) := by
  subst h
  exact pe_str
end

/-! ### the layer's rules under names -/
section
variable {X : Cx}
def qLen (K : PySem.W.Frag) : List V → Hp → VK → Prop := fun xs H Q => ∃ p ys, xs = [.ref p] ∧ (SqL K H p ys ∨ SqT K H p ys) ∧ Q (.int (ys.length : Nat)) H
theorem cq_len : CallR X (.builtin "len") (qLen X.K) := call_len_seq
def qLenS : List V → Hp → VK → Prop := fun xs H Q => ∃ l : List Nat, xs = [.str (S l)] ∧ l.length ≤ 100000 ∧ Q (.int (l.length : Nat)) H
theorem cq_lenS : CallR X (.builtin "len") qLenS := fun pins s σ H xs us Q I r ⟨l, e, hl, q⟩ => call_len_str pins s σ H xs us Q I r ⟨S l, e, by rw [S_len]; exact sz hl, by rw [S_len]; exact q⟩
def qInt : List V → Hp → VK → Prop := fun xs H Q => (∃ i, xs = [.int i] ∧ Q (.int i) H) ∨ ∃ k, xs = [.bl k] ∧ Q (.int (if k then 1 else 0)) H
theorem cq_int : CallR X (.type "int") qInt := call_int1
def qAbs : List V → Hp → VK → Prop := fun xs H Q => ∃ i, xs = [.int i] ∧ Q (.int (if i < 0 then -i else i)) H
theorem cq_abs : CallR X (.builtin "abs") qAbs := call_abs
def qMax2 : List V → Hp → VK → Prop := fun xs H Q => ∃ i j, xs = [.int i, .int j] ∧ Q (.int (if j > i then j else i)) H
theorem cq_max2 (hc : X.calm = true) : CallR X (.builtin "max") qMax2 := call_max2 hc
def qMin2 : List V → Hp → VK → Prop := fun xs H Q => ∃ i j, xs = [.int i, .int j] ∧ Q (.int (if j < i then j else i)) H
theorem cq_min2 (hc : X.calm = true) : CallR X (.builtin "min") qMin2 := call_min2 hc
def qAddS : R2 := fun x y H Q => ∃ l m : List Nat, x = .str (S l) ∧ y = .str (S m) ∧ l.length + m.length ≤ 100000 ∧ Q (.str (S (l ++ m))) H
theorem oq_addS : OpR X (binaryOp .Add) qAddS := fun pins s σ H x y v u Q I rx ry ⟨l, m, e1, e2, hl, q⟩ => op_add_str pins s σ H x y v u Q I rx ry ⟨S l, S m, e1, e2, by rw [S_len, S_len]; exact sz hl, by rw [S_cat]; exact q⟩
def qLtS : R2 := fun x y H Q => ∃ l m : List Nat, x = .str (S l) ∧ y = .str (S m) ∧ Q (.bl (decide (l < m))) H
theorem oq_ltS : OpR X (compareOp .Lt) qLtS := fun pins s σ H x y v u Q I rx ry ⟨l, m, e1, e2, q⟩ => op_lt_str pins s σ H x y v u Q I rx ry ⟨S l, S m, e1, e2, q⟩
def qLeS : R2 := fun x y H Q => ∃ l m : List Nat, x = .str (S l) ∧ y = .str (S m) ∧ Q (.bl (!decide (m < l))) H
theorem oq_leS : OpR X (compareOp .LtE) qLeS := fun pins s σ H x y v u Q I rx ry ⟨l, m, e1, e2, q⟩ => op_le_str pins s σ H x y v u Q I rx ry ⟨S l, S m, e1, e2, q⟩
def qGtS : R2 := fun x y H Q => ∃ l m : List Nat, x = .str (S l) ∧ y = .str (S m) ∧ Q (.bl (decide (m < l))) H
theorem oq_gtS : OpR X (compareOp .Gt) qGtS := fun pins s σ H x y v u Q I rx ry ⟨l, m, e1, e2, q⟩ => op_gt_str pins s σ H x y v u Q I rx ry ⟨S l, S m, e1, e2, q⟩
def qGeS : R2 := fun x y H Q => ∃ l m : List Nat, x = .str (S l) ∧ y = .str (S m) ∧ Q (.bl (!decide (l < m))) H
theorem oq_geS : OpR X (compareOp .GtE) qGeS := fun pins s σ H x y v u Q I rx ry ⟨l, m, e1, e2, q⟩ => op_ge_str pins s σ H x y v u Q I rx ry ⟨S l, S m, e1, e2, q⟩
def qInC : R2 := fun x y H Q => ∃ (c : Nat) (l : List Nat), x = .str (S [c]) ∧ y = .str (S l) ∧ Q (.bl (decide (c ∈ l))) H
theorem oq_inC : OpR X (compareOp .In) qInC := fun pins s σ H x y v u Q I rx ry ⟨c, l, e1, e2, q⟩ => op_in_sign pins s σ H x y v u Q I rx ry ⟨c, S l, e1, e2, q⟩
def qNotInC : R2 := fun x y H Q => ∃ (c : Nat) (l : List Nat), x = .str (S [c]) ∧ y = .str (S l) ∧ Q (.bl (!decide (c ∈ l))) H
theorem oq_notInC : OpR X (compareOp .NotIn) qNotInC := fun pins s σ H x y v u Q I rx ry ⟨c, l, e1, e2, q⟩ => op_notIn_sign pins s σ H x y v u Q I rx ry ⟨c, S l, e1, e2, q⟩
def qListOf (K : PySem.W.Frag) : List V → Hp → VK → Prop := fun xs H Q => ∃ p ys, xs = [.ref p] ∧ (SqL K H p ys ∨ SqT K H p ys) ∧ ∀ l, H l = none → Q (.ref l) (upd H l (.lst ys))
theorem cq_listOf : CallR X (.type "list") (qListOf X.K) := call_list_of
/-- "".join(a list of texts) -/
def qJoin (K : PySem.W.Frag) : V → List V → Hp → VK → Prop := fun x xs H Q => ∃ (p : Addr) (ws : List (List Nat)), x = .str (S []) ∧ xs = [.ref p] ∧ SqL K H p (ws.map fun w => V.str (S w)) ∧ ws.flatten.length ≤ 100000 ∧ Q (.str (S ws.flatten)) H
theorem joinL_nil : ∀ ws : List (List Nat), TL.joinL [] ws = ws.flatten
  | [] => rfl
  | [w] => by simp [TL.joinL]
  | w :: v :: ws => by
    have ih := joinL_nil (v :: ws)
    simp only [TL.joinL, ih, List.flatten_cons, List.append_nil, List.nil_append]
theorem oq_join : MtR X "str.join" (qJoin X.K) := by
  intro pins s σ H x xs v us Q I rx rxs h
  obtain ⟨p, ws, rfl, rfl, hq, hl, q⟩ := h
  refine mt_join pins s σ H _ _ v us Q I rx rxs ⟨S [], p, ws.map S, rfl, rfl, .inl ?_, ?_, ?_⟩
  · rw [List.map_map]
    exact hq
  · rw [lens, S_len]
    have e : (ws.map (·.length)).sum = ws.flatten.length := by rw [List.length_flatten]
    have e2 : (ws.map fun x => x.length).sum = ws.flatten.length := e
    rw [e2]
    simp
    simp at hl
    omega
  · rw [join_S, joinL_nil]
    exact q
theorem pe_joinE {o e : Expr} {to te : TE} {apos pos : Pos} (ho : PE X o to) (he : PE X e te) (hs : starEach [e] X.env = [(false, eval e X.env)] := by rfl) (hbase : attributeBase o "join" X.env (eval o X.env) = eval o X.env := by rfl) (hline : (apos.endLine == pos.line) = true := by rfl) :
    PE X (.Call (.Attribute o "join" apos) [e] [] pos) (tM1 (qJoin X.K) to te) :=
  pe_m1 PySem.F.slot_str_join PySem.F.type_str_join oq_join ho he hs hbase hline
end

/-! ### heaps -/
/-- all but what stands at h is kept -/
def ExB (h : Addr) (H H' : Hp) : Prop := ∀ a o, a ≠ h → H a = some o → H' a = some o
theorem ExB.refl (h : Addr) (H : Hp) : ExB h H H := fun _ _ _ e => e
theorem ExB.trans {h : Addr} {H H1 H2 : Hp} (a : ExB h H H1) (b : ExB h H1 H2) : ExB h H H2 := fun c o n e => b c o n (a c o n e)
theorem ExB.of {h : Addr} {H H' : Hp} (e : Same H H') : ExB h H H' := fun a o _ q => e a o q
theorem ExB.upd {h : Addr} {H : Hp} {o : HO} : ExB h H (upd H h o) := fun a u n e => by rw [upd_ne n]; exact e
theorem ExB.new {h p : Addr} {H : Hp} {o : HO} (n : H p = none) : ExB h H (L2.upd H p o) := fun a u _ e => by rw [upd_ne (ne_of_none e n)]; exact e
theorem Same.new {p : Addr} {H : Hp} {o : HO} (n : H p = none) : Same H (L2.upd H p o) := fun a u e => by rw [upd_ne (ne_of_none e n)]; exact e
/-- an object that was not there may change -/
theorem Same.mut {p : Addr} {H H' : Hp} {o : HO} (e : Same H H') (n : H p = none) : Same H (L2.upd H' p o) := fun a u q => by rw [upd_ne (ne_of_none q n)]; exact e a u q
theorem ExB.mut {h p : Addr} {H H' : Hp} {o : HO} (e : ExB h H H') (n : H p = none) : ExB h H (L2.upd H' p o) := fun a u m q => by rw [upd_ne (ne_of_none q n)]; exact e a u m q
theorem Same.seqT {K : PySem.W.Frag} {H H' : Hp} {a : Addr} {xs : List V} (e : Same H H') (h : SqT K H a xs) : SqT K H' a xs := by
  rcases h with (h | ⟨o, h⟩) | h
  · exact .inl (.inl (e _ _ h))
  · exact .inl (.inr ⟨o, e _ _ h⟩)
  · exact .inr h
theorem ExB.seq {h : Addr} {K : PySem.W.Frag} {H H' : Hp} {a : Addr} {xs : List V} (e : ExB h H H') (n : a ≠ h) (q : SqL K H a xs) : SqL K H' a xs := by
  rcases q with (q | ⟨o, q⟩) | q
  · exact .inl (.inl (e _ _ n q))
  · exact .inl (.inr ⟨o, e _ _ n q⟩)
  · exact .inr q

/-! ### the steps -/
section
variable {σ : St} {H : Hp} {Q : VK} {D : Ends} {t u : TS} {te ta tb : TE} {g : TG} {v x y : V} {i j : Int} {K : PySem.W.Frag} {tt tu : TT}
theorem rd_seq (h : t ⟨u D, D.rt, D.bk, D.ct⟩ σ H) : tSeq t u D σ H := h
theorem rd_next {nx : St → Hp → Prop} {rt : VK} {bk ct : St → Hp → Prop} (h : nx σ H) : tNext ⟨nx, rt, bk, ct⟩ σ H := h
theorem rd_asg {nx : St → Hp → Prop} {rt : VK} {bk ct : St → Hp → Prop} (h : te σ H fun x H1 => g x σ H1 nx) : tAsg te g ⟨nx, rt, bk, ct⟩ σ H := h
theorem rd_par {i j : Nat} {ta : TA} {nx : St → Hp → Prop} {rt : VK} {bk ct : St → Hp → Prop} (h : ta σ H fun vs H1 => ∃ v w, vs = [v, w] ∧ nx ((σ.set i (some v)).set j (some w)) H1) : tPar i j ta ⟨nx, rt, bk, ct⟩ σ H := h
theorem rd_if (h : tt σ H fun b H1 => if b = true then t D σ H1 else u D σ H1) : tIfS tt t u D σ H := h
theorem rd_ret {nx : St → Hp → Prop} {rt : VK} {bk ct : St → Hp → Prop} (h : te σ H rt) : tRet te ⟨nx, rt, bk, ct⟩ σ H := h
theorem rd_retN {nx : St → Hp → Prop} {rt : VK} {bk ct : St → Hp → Prop} (h : rt .non H) : tRetN ⟨nx, rt, bk, ct⟩ σ H := h
theorem rd_drop {nx : St → Hp → Prop} {rt : VK} {bk ct : St → Hp → Prop} (h : te σ H fun _ H1 => nx σ H1) : tDrop te ⟨nx, rt, bk, ct⟩ σ H := h
theorem rd_name {i : Nat} {P : St → Hp → Prop} (h : P (σ.set i (some v)) H) : gName i v σ H P := h
theorem rd_sub {to ti : TE} {ts : TSet} {P : St → Hp → Prop} (h : to σ H fun o H1 => ti σ H1 fun i H2 => ts o i v H2 fun H3 => P σ H3) : gSub to ti ts v σ H P := h
theorem rd_var {n : Nat} (e : σ[n]? = some (some v)) (q : Q v H) : tVar n σ H Q := ⟨v, e, q⟩
theorem rd_c (q : Q v H) : tC v σ H Q := q
theorem rd_op {r : R2} (h : ta σ H fun x H1 => tb σ H1 fun y H2 => r x y H2 Q) : tOp r ta tb σ H Q := h
theorem rd_un {r : V → Hp → VK → Prop} (h : ta σ H fun x H1 => r x H1 Q) : tUn r ta σ H Q := h
theorem rd_I0 {g : Int → Int → V} (q : Q (g i j) H) : rI0 g (.int i) (.int j) H Q := ⟨i, j, rfl, rfl, q⟩
theorem rd_I {C : Int → Int → Prop} {g : Int → Int → V} (c : C i j) (q : Q (g i j) H) : rI C g (.int i) (.int j) H Q := ⟨i, j, rfl, rfl, c, q⟩
theorem rd_U {g : Int → V} (q : Q (g i) H) : rU g (.int i) H Q := ⟨i, rfl, q⟩
theorem rd_eq (s : scal x y = true) (q : Q (.bl (decide (x = y))) H) : rEq x y H Q := ⟨s, q⟩
theorem rd_ne (s : scal x y = true) (q : Q (.bl (!decide (x = y))) H) : rNe x y H Q := ⟨s, q⟩
theorem rd_eqI (q : Q (.bl (decide (i = j))) H) : rEq (.int i) (.int j) H Q := ⟨rfl, by
  have e : decide (V.int i = V.int j) = decide (i = j) := by
    by_cases h : i = j
    · subst h; simp
    · rw [decide_eq_false h, decide_eq_false fun z => h (V.int.inj z)]
  rw [e]; exact q⟩
theorem rd_neI (q : Q (.bl (!decide (i = j))) H) : rNe (.int i) (.int j) H Q := ⟨rfl, by
  have e : decide (V.int i = V.int j) = decide (i = j) := by
    by_cases h : i = j
    · subst h; simp
    · rw [decide_eq_false h, decide_eq_false fun z => h (V.int.inj z)]
  rw [e]; exact q⟩
theorem dec_S (a b : List Nat) : decide (V.str (S a) = V.str (S b)) = decide (a = b) := by
  by_cases h : a = b
  · subst h; simp
  · rw [decide_eq_false h, decide_eq_false fun z => h (S_inj (V.str.inj z))]
theorem rd_eqS {a b : List Nat} (q : Q (.bl (decide (a = b))) H) : rEq (.str (S a)) (.str (S b)) H Q := ⟨rfl, by rw [dec_S]; exact q⟩
theorem rd_neS {a b : List Nat} (q : Q (.bl (!decide (a = b))) H) : rNe (.str (S a)) (.str (S b)) H Q := ⟨rfl, by rw [dec_S]; exact q⟩
theorem dec_bl (a b : Bool) : decide (V.bl a = V.bl b) = (a == b) := by cases a <;> cases b <;> rfl
theorem rd_eqB {a b : Bool} (q : Q (.bl (a == b)) H) : rEq (.bl a) (.bl b) H Q := ⟨rfl, by rw [dec_bl]; exact q⟩
theorem rd_neB {a b : Bool} (q : Q (.bl (!(a == b))) H) : rNe (.bl a) (.bl b) H Q := ⟨rfl, by rw [dec_bl]; exact q⟩
theorem rd_test {Q : Bool → Hp → Prop} (h : te σ H fun x H' => ∃ k, x = .bl k ∧ Q k H') : tTest te σ H Q := h
theorem rd_B {Q : Bool → Hp → Prop} (h : te σ H fun x H' => ∃ k, x = .bl k ∧ Q k H') : tB te σ H Q := h
theorem rd_and {Q : Bool → Hp → Prop} (h : tt σ H fun c H1 => if c = true then tu σ H1 Q else Q false H1) : tAnd tt tu σ H Q := h
theorem rd_or {Q : Bool → Hp → Prop} (h : tt σ H fun c H1 => if c = true then Q true H1 else tu σ H1 Q) : tOr tt tu σ H Q := h
theorem rd_not {Q : Bool → Hp → Prop} (h : tt σ H fun c H1 => Q (!c) H1) : tNot tt σ H Q := h
theorem rd_andV (h : ta σ H fun x H1 => ∃ c, x = .bl c ∧ if c = true then tb σ H1 Q else Q (.bl false) H1) : tAndV ta tb σ H Q := h
theorem rd_orV (h : ta σ H fun x H1 => ∃ c, x = .bl c ∧ if c = true then Q (.bl true) H1 else tb σ H1 Q) : tOrV ta tb σ H Q := h
theorem rd_notV (h : ta σ H fun x H1 => ∃ c, x = .bl c ∧ Q (.bl (!c)) H1) : tNotV ta σ H Q := h
theorem rd_ifE (h : tt σ H fun c H1 => if c = true then ta σ H1 Q else tb σ H1 Q) : tIf tt ta tb σ H Q := h
theorem rd_cons {ta : TE} {tr : TA} {Q : List V → Hp → Prop} (h : ta σ H fun x H1 => tr σ H1 fun xs H2 => Q (x :: xs) H2) : tCons ta tr σ H Q := h
theorem rd_nil {Q : List V → Hp → Prop} (h : Q [] H) : tNil σ H Q := h
theorem rd_lst {t : TA} (h : t σ H fun xs H1 => xs.length ≤ sizeLine ∧ ∀ p, H1 p = none → Q (.ref p) (upd H1 p (.lst xs))) : tLst t σ H Q := h
theorem rd_tup {t : TA} (h : t σ H fun xs H1 => xs.length ≤ sizeLine ∧ ∀ p, H1 p = none → Q (.ref p) (upd H1 p (.tup xs))) : tTup t σ H Q := h
theorem rd_len {α : Type} {xs : List α} {A : Prop} (h : xs.length ≤ sizeLine) (q : A) : xs.length ≤ sizeLine ∧ A := ⟨h, q⟩
theorem rd_CB {r : List V → Hp → VK → Prop} {t : TA} (h : t σ H fun vs H1 => r vs H1 Q) : tCB r t σ H Q := h
theorem rd_call {sp : Sp} {E : XK} {t : TA} (h : t σ H fun vs H1 => sp vs H1 Q E) : tCall sp [] E t σ H Q := by
  show t σ H fun vs H1 => sp (vs ++ []) H1 Q E
  have e : (fun (vs : List V) (H1 : Hp) => sp (vs ++ []) H1 Q E) = fun vs H1 => sp vs H1 Q E := by
    funext vs H1
    rw [List.append_nil]
  rw [e]
  exact h
theorem rd_sl {r : V → Option Int → Option Int → Hp → VK → Prop} {tl th : TO} (h : te σ H fun x H1 => tl σ H1 fun l H2 => th σ H2 fun u H3 => r x l u H3 Q) : L2.tSl r te tl th σ H Q := h
theorem rd_part {Q : Option Int → Hp → Prop} (h : te σ H fun x H1 => ∃ i, x = .int i ∧ Q (some i) H1) : tPart te σ H Q := h
theorem rd_nopart {Q : Option Int → Hp → Prop} (h : Q none H) : tNoPart σ H Q := h
theorem rd_isN (h : te σ H fun x H1 => Q (.bl (decide (x = .non))) H1) : tIsN te σ H Q := h
theorem rd_notN (h : te σ H fun x H1 => Q (.bl (!decide (x = .non))) H1) : tNotN te σ H Q := h
theorem rd_bool {b : Bool} {Q : Bool → Prop} (q : Q b) : ∃ k, V.bl b = .bl k ∧ Q k := ⟨b, rfl, q⟩
theorem rd_int {Q : Int → Prop} (q : Q i) : ∃ k, V.int i = .int k ∧ Q k := ⟨i, rfl, q⟩
theorem rd_true {A B : Prop} (h : A) : if true = true then A else B := by rw [if_pos rfl]; exact h
theorem rd_false {A B : Prop} (h : B) : if false = true then A else B := by rw [if_neg Bool.false_ne_true]; exact h
theorem rd_nt {A B : Prop} (h : B) : if (!true) = true then A else B := rd_false h
theorem rd_nf {A B : Prop} (h : A) : if (!false) = true then A else B := rd_true h
theorem rd_decT {p : Prop} [Decidable p] {A B : Prop} (hp : p) (h : A) : if decide p = true then A else B := by rw [decide_eq_true hp, if_pos rfl]; exact h
theorem rd_decF {p : Prop} [Decidable p] {A B : Prop} (hp : ¬ p) (h : B) : if decide p = true then A else B := by rw [decide_eq_false hp, if_neg Bool.false_ne_true]; exact h
theorem rd_ndecT {p : Prop} [Decidable p] {A B : Prop} (hp : ¬ p) (h : A) : if (!decide p) = true then A else B := by rw [decide_eq_false hp]; exact rd_true h
theorem rd_ndecF {p : Prop} [Decidable p] {A B : Prop} (hp : p) (h : B) : if (!decide p) = true then A else B := by rw [decide_eq_true hp]; exact rd_false h
theorem rd_ite {b : Bool} {A B : Prop} (h1 : b = true → A) (h2 : b = false → B) : if b = true then A else B := by
  cases b
  · rw [if_neg Bool.false_ne_true]; exact h2 rfl
  · rw [if_pos rfl]; exact h1 rfl
theorem rd_dec {p : Prop} [Decidable p] {A B : Prop} (h1 : p → A) (h2 : ¬ p → B) : if decide p = true then A else B := by
  by_cases h : p
  · rw [decide_eq_true h, if_pos rfl]; exact h1 h
  · rw [decide_eq_false h, if_neg Bool.false_ne_true]; exact h2 h
theorem rd_ndec {p : Prop} [Decidable p] {A B : Prop} (h1 : ¬ p → A) (h2 : p → B) : if (!decide p) = true then A else B := by
  by_cases h : p
  · rw [decide_eq_true h]; exact rd_false (h2 h)
  · rw [decide_eq_false h]; exact rd_true (h1 h)
theorem rd_strlen {l : List Nat} (hl : l.length ≤ 100000) (q : Q (.int (l.length : Nat)) H) : qLenS [.str (S l)] H Q := ⟨l, rfl, hl, q⟩
theorem rd_cat {l m : List Nat} (hl : l.length + m.length ≤ 100000) (q : Q (.str (S (l ++ m))) H) : qAddS (.str (S l)) (.str (S m)) H Q := ⟨l, m, rfl, rfl, hl, q⟩
theorem rd_ltS {l m : List Nat} (q : Q (.bl (decide (l < m))) H) : qLtS (.str (S l)) (.str (S m)) H Q := ⟨l, m, rfl, rfl, q⟩
theorem rd_leS {l m : List Nat} (q : Q (.bl (!decide (m < l))) H) : qLeS (.str (S l)) (.str (S m)) H Q := ⟨l, m, rfl, rfl, q⟩
theorem rd_gtS {l m : List Nat} (q : Q (.bl (decide (m < l))) H) : qGtS (.str (S l)) (.str (S m)) H Q := ⟨l, m, rfl, rfl, q⟩
theorem rd_geS {l m : List Nat} (q : Q (.bl (!decide (l < m))) H) : qGeS (.str (S l)) (.str (S m)) H Q := ⟨l, m, rfl, rfl, q⟩
theorem rd_inC {c : Nat} {l : List Nat} (q : Q (.bl (decide (c ∈ l))) H) : qInC (.str (S [c])) (.str (S l)) H Q := ⟨c, l, rfl, rfl, q⟩
theorem rd_notInC {c : Nat} {l : List Nat} (q : Q (.bl (!decide (c ∈ l))) H) : qNotInC (.str (S [c])) (.str (S l)) H Q := ⟨c, l, rfl, rfl, q⟩
theorem rd_abs (q : Q (.int (if i < 0 then -i else i)) H) : qAbs [.int i] H Q := ⟨i, rfl, q⟩
theorem rd_max2 (q : Q (.int (if j > i then j else i)) H) : qMax2 [.int i, .int j] H Q := ⟨i, j, rfl, q⟩
theorem rd_min2 (q : Q (.int (if j < i then j else i)) H) : qMin2 [.int i, .int j] H Q := ⟨i, j, rfl, q⟩
theorem rd_listS {l : List Nat} (hl : l.length ≤ 100000) (q : ∀ p, H p = none → Q (.ref p) (upd H p (.lst (signs l)))) : rListS [.str (S l)] H Q := ⟨l, rfl, hl, q⟩
theorem rd_join {p : Addr} {ws : List (List Nat)} (s : SqL K H p (ws.map fun w => V.str (S w))) (hl : ws.flatten.length ≤ 100000) (q : Q (.str (S ws.flatten)) H) : qJoin K (.str (S [])) [.ref p] H Q := ⟨p, ws, rfl, rfl, s, hl, q⟩
theorem rd_joinC {p : Addr} {l : List Nat} (s : SqL K H p (signs l)) (hl : l.length ≤ 100000) (q : Q (.str (S l)) H) : qJoin K (.str (S [])) [.ref p] H Q := by
  have e : ∀ l : List Nat, (l.map fun c => [c]).flatten = l := fun l => by
    induction l with
    | nil => rfl
    | cons a l ih => simp [ih]
  refine ⟨p, l.map fun c => [c], rfl, rfl, ?_, by rw [e]; exact hl, by rw [e]; exact q⟩
  rw [List.map_map]
  exact s
theorem rd_M1 {r : V → List V → Hp → VK → Prop} {to te : TE} (h : to σ H fun x H1 => (∃ a, x = .str a) ∧ te σ H1 fun y H2 => r x [y] H2 Q) : tM1 r to te σ H Q := h
theorem rd_isStr {a : Str} {A : Prop} (h : A) : (∃ b, V.str a = .str b) ∧ A := ⟨⟨a, rfl⟩, h⟩
theorem rd_mulS {l : List Nat} (h1 : -1000 ≤ i) (h2 : i ≤ 1000) (hl : l.length ≤ 1000) (q : Q (.str (S (repL l i.toNat))) H) : rMulS (.str (S l)) (.int i) H Q := ⟨l, i, rfl, rfl, h2, h1, hl, q⟩
theorem rd_ixL {p : Addr} {xs : List V} (s : SqL K H p xs) (a : atI xs i = some v) (q : Q v H) : L2.rIxL K (.ref p) (.int i) H Q := ⟨p, xs, i, v, rfl, rfl, s, a, q⟩
theorem rd_ixT {p : Addr} {xs : List V} (s : SqT K H p xs) (a : atI xs i = some v) (q : Q v H) : L2.rIxT K (.ref p) (.int i) H Q := ⟨p, xs, i, v, rfl, rfl, s, a, q⟩
theorem rd_ixS {l : List Nat} {c : Nat} (hl : l.length ≤ 100000) (a : atI l i = some c) (q : Q (.str (S [c])) H) : L2.rIxS (.str (S l)) (.int i) H Q := ⟨S l, i, c, rfl, rfl, by rw [S_len]; exact sz hl, a, q⟩
theorem rd_lenL {p : Addr} {xs : List V} (s : SqL K H p xs) (q : Q (.int (xs.length : Nat)) H) : qLen K [V.ref p] H Q := ⟨p, xs, rfl, .inl s, q⟩
theorem rd_lenT {p : Addr} {xs : List V} (s : SqT K H p xs) (q : Q (.int (xs.length : Nat)) H) : qLen K [V.ref p] H Q := ⟨p, xs, rfl, .inr s, q⟩
theorem rd_intI (q : Q (.int i) H) : qInt [V.int i] H Q := .inl ⟨i, rfl, q⟩
theorem rd_intB {k : Bool} (q : Q (.int (if k then 1 else 0)) H) : qInt [V.bl k] H Q := .inr ⟨k, rfl, q⟩
theorem rd_setL {p : Addr} {xs : List V} {n : Nat} {R : Hp → Prop} (h : H p = some (.lst xs)) (hj : ixN xs.length i = some n) (q : R (upd H p (.lst (xs.set n v)))) : L2.rSetL (.ref p) (.int i) v H R := ⟨p, xs, i, n, rfl, rfl, h, hj, q⟩
theorem rd_app {l : Addr} {xs : List V} (h : H l = some (.lst xs)) (hl : xs.length < 100000) (q : Q .non (upd H l (.lst (xs ++ [v])))) : rAppend (.ref l) [v] H Q := ⟨l, xs, v, rfl, rfl, h, szlt hl, q⟩
theorem rd_BM {r : V → List V → Hp → VK → Prop} {t : TA} {p : Addr} {ys : List V} {to : TE} (h : to σ H fun x H1 => tyV K "list" x H1 ∧ t σ H1 fun xs H2 => r x xs H2 Q) : tBM K "list" r to t σ H Q := h
theorem tyL {p : Addr} {xs : List V} (h : H p = some (.lst xs)) : tyV K "list" (.ref p) H := .inl ⟨rfl, _, SqL.of h⟩
theorem rd_slL {p : Addr} {xs : List V} {lo hi : Option Int} (s : SqL K H p xs) (q : ∀ p', H p' = none → Q (.ref p') (upd H p' (.lst (cutV xs lo hi)))) : L2.rSlL K (.ref p) lo hi H Q := ⟨p, xs, rfl, s, q⟩
theorem rd_slS_to {l : List Nat} (hl : l.length ≤ 100000) (h0 : 0 ≤ i) (q : Q (.str (S (l.take i.toNat))) H) : C8.rSlX (.str (S l)) none (some i) H Q := ⟨S l, rfl, by rw [S_len]; exact sz hl, by rw [slice_to h0]; exact q⟩
theorem rd_slS_from {l : List Nat} (hl : l.length ≤ 100000) (h0 : 0 ≤ i) (q : Q (.str (S (l.drop i.toNat))) H) : C8.rSlX (.str (S l)) (some i) none H Q := ⟨S l, rfl, by rw [S_len]; exact sz hl, by rw [slice_from h0]; exact q⟩
end
/-- a place in a list by a number that is not negative -/
theorem at_of {α : Type} {xs : List α} {i : Int} {v : α} (h0 : 0 ≤ i) (h : xs[i.toNat]? = some v) : atI xs i = some v := by
  obtain ⟨n, rfl⟩ := Int.eq_ofNat_of_zero_le h0
  exact atI_nat (by simpa using h)
end My
/-! Loops and comprehensions: what is walked, then one lemma each. -/
namespace My
open PySem PySem.Spec L2 SX
open PyProof.Rows hiding St

/-- what a comprehension over J asks -/
def LcG (J : It) (g : TG) (tt : TT) (te : TE) (vs : List Nat) (σ : St) (Q : VK) (H1 : Hp) : Prop := ∀ D, H1 D = none → ∃ W : Nat → Nat → Hp → Prop, (∃ m, W 0 m (upd H1 D (.lst []))) ∧ ∀ i m H, W i m H →
  (J.stop i H ∧ Q (.ref D) H) ∨ (J.go i H ∧ ∃ Nx : Hp → Prop, (∀ H', Nx H' → ∃ m', m' < m ∧ W (i + 1) m' H') ∧ ∀ x H', J.yld i H x H' → g x (wipe σ vs) H' fun σ2 H2 => wipe σ2 vs = wipe σ vs ∧ tt σ2 H2 fun b H3 =>
    if b = true then te σ2 H3 fun y H4 => ∃ acc, H4 D = some (.lst acc) ∧ acc.length < sizeLine ∧ Nx (upd H4 D (.lst (acc ++ [y]))) else Nx H3)
/-- what a for over J asks -/
def ForG (J : It) (g : TG) (tb : TS) (D : Ends) (σ : St) (H1 : Hp) : Prop := ∃ W : Nat → Nat → St → Hp → Prop, (∃ m, W 0 m σ H1) ∧ ∀ i m σ H, W i m σ H →
  (J.stop i H ∧ D.nx σ H) ∨ (J.go i H ∧ ∃ N : St → Hp → Prop, (∀ σ' H', N σ' H' → ∃ m', m' < m ∧ W (i + 1) m' σ' H') ∧ ∀ x H', J.yld i H x H' → g x σ H' fun σ2 H2 => tb { D with nx := N, ct := N, bk := D.nx } σ2 H2)
section
variable {σ : St} {H : Hp} {Q : VK} {D : Ends} {te tl : TE} {ta : TA} {g : TG} {tt : TT} {vs : List Nat} {K : PySem.W.Frag} {wi : TI} {tb : TS} {R : It → Hp → Prop} {i j c : Int}
theorem rd_lc (h : wi σ H fun J H1 => LcG J g tt te vs σ Q H1) : tLc wi g tt te vs σ H Q := h
theorem rd_for (h : wi σ H fun J H1 => ForG J g tb D σ H1) : tFor wi g tb D σ H := h
def qIl (K : PySem.W.Frag) (x : V) (H1 : Hp) (R : It → Hp → Prop) : Prop := ∃ a, x = .ref a ∧ (∃ xs, SqL K H1 a xs) ∧ R (Itl K a) H1
def qItu (K : PySem.W.Frag) (x : V) (H1 : Hp) (R : It → Hp → Prop) : Prop := ∃ a, x = .ref a ∧ (∃ xs, SqT K H1 a xs) ∧ R (Itt K a) H1
def qIr1 (vs : List V) (H1 : Hp) (R : It → Hp → Prop) : Prop := ∃ j : Int, vs = [.int j] ∧ -(2 ^ 62) ≤ j ∧ j < 2 ^ 62 ∧ R (Itr 0 j.toNat) H1
def qIr2 (vs : List V) (H1 : Hp) (R : It → Hp → Prop) : Prop := ∃ i j : Int, vs = [.int i, .int j] ∧ (-(2 ^ 62) ≤ i ∧ i < 2 ^ 62 ∧ -(2 ^ 62) ≤ j ∧ j < 2 ^ 62) ∧ R (Itr i (j - i).toNat) H1
def qIr3 (vs : List V) (H1 : Hp) (R : It → Hp → Prop) : Prop := ∃ (i j c : Int) (n : Nat), vs = [.int i, .int j, .int c] ∧ RgC i j c n ∧ R (Itc i c n) H1
def qIs (v : V) (H1 : Hp) (R : It → Hp → Prop) : Prop := ∃ x, v = .str x ∧ R (Its x) H1
theorem rd_iList (h : tl σ H fun x H1 => qIl K x H1 R) : iList K tl σ H R := h
theorem rd_iTup (h : tl σ H fun x H1 => qItu K x H1 R) : iTup K tl σ H R := h
theorem rd_iRng1 (h : ta σ H fun vs H1 => qIr1 vs H1 R) : iRng1 ta σ H R := h
theorem rd_iRng2 (h : ta σ H fun vs H1 => qIr2 vs H1 R) : iRng2 ta σ H R := h
theorem rd_iRng3 (h : ta σ H fun vs H1 => qIr3 vs H1 R) : iRng3 ta σ H R := h
theorem rd_iStr (h : tl σ H fun v H1 => qIs v H1 R) : iStr tl σ H R := h
theorem rd_qIl {p : Addr} {xs : List V} (s : SqL K H p xs) (q : R (Itl K p) H) : qIl K (.ref p) H R := ⟨p, rfl, ⟨xs, s⟩, q⟩
theorem rd_qItu {p : Addr} {xs : List V} (s : SqT K H p xs) (q : R (Itt K p) H) : qItu K (.ref p) H R := ⟨p, rfl, ⟨xs, s⟩, q⟩
theorem rd_qIr1 (h1 : -100000 ≤ i) (h2 : i ≤ 100000) (q : R (Itr 0 i.toNat) H) : qIr1 [.int i] H R := ⟨i, rfl, by omega, by omega, q⟩
theorem rd_qIr2 (h1 : -100000 ≤ i) (h2 : i ≤ 100000) (h3 : -100000 ≤ j) (h4 : j ≤ 100000) (q : R (Itr i (j - i).toNat) H) : qIr2 [.int i, .int j] H R := ⟨i, j, rfl, by omega, q⟩
theorem rd_qIr3 (h1 : -100000 ≤ i) (h2 : i ≤ 100000) (h3 : -100000 ≤ j) (h4 : j ≤ 100000) (q : R (Itc i (-1) (i - j).toNat) H) : qIr3 [.int i, .int j, .int (-1)] H R := ⟨i, j, -1, _, rfl, RgC.neg (by omega) (by omega) (by omega) (by omega), q⟩
theorem rd_qIs {l : List Nat} (q : R (Its (S l)) H) : qIs (.str (S l)) H R := ⟨S l, rfl, q⟩

/-- a pure test, a pure element -/
def PT0 (tt : TT) (σ : St) (H : Hp) (b : Bool) : Prop := ∀ H1, Same H H1 → ∀ Q : Bool → Hp → Prop, (∀ H2, Same H1 H2 → Q b H2) → tt σ H1 Q
def PE0 (te : TE) (σ : St) (H : Hp) (v : V) : Prop := ∀ H1, Same H H1 → ∀ Q : VK, (∀ H2, Same H1 H2 → Q v H2) → te σ H1 Q
theorem pt_yes : PT0 tYes σ H true := fun H1 _ Q q => q H1 (Same.refl _)

theorem lc_map {α : Type} (ls : List α) (e : α → V) {J : It} {G : Hp → Prop} {Y : Nat → Hp → V → Hp → Prop} (w : Walk J ls.length G Y) (hG : ∀ H', Same H H' → G H')
    (hY : ∀ i H x H', i < ls.length → Y i H x H' → H' = H ∧ ∃ y, ls[i]? = some y ∧ x = e y) {j : Nat} (hn : ls.length ≤ 50000)
    (hw : ∀ x, wipe ((wipe σ vs).set j (some x)) vs = wipe σ vs) (yes : α → Bool) (f : α → V)
    (ht : ∀ y ∈ ls, PT0 tt ((wipe σ vs).set j (some (e y))) H (yes y)) (he : ∀ y ∈ ls, yes y = true → PE0 te ((wipe σ vs).set j (some (e y))) H (f y))
    (q : ∀ D H', H D = none → Same H H' → H' D = some (.lst ((ls.filter yes).map f)) → Q (.ref D) H') : LcG J (gName j) tt te vs σ Q H := by
  intro D hD
  refine lc_it w (fun i H' => Same H H' ∧ H' D = some (.lst (((ls.take i).filter yes).map f))) ⟨Same.new hD, upd_same⟩ (fun i H' _ p => hG H' p.1) ?_ ?_
  · rintro i x H1 H1' hi ⟨s1, hd⟩ yy
    obtain ⟨rfl, y, hy, rfl⟩ := hY i _ _ _ hi yy
    have hm : y ∈ ls := List.mem_of_getElem? hy
    have htk : ls.take (i + 1) = ls.take i ++ [y] := by rw [List.take_succ, hy]; rfl
    refine ⟨hw _, ?_⟩
    refine ht y hm _ s1 _ fun H3 s3 => ?_
    refine rd_ite (fun hb => ?_) (fun hb => ?_)
    · refine he y hm hb _ (s1.trans s3) _ fun H4 s4 => ?_
      refine ⟨_, s4 _ _ (s3 _ _ hd), ?_, Same.mut ((s1.trans s3).trans s4) hD, ?_⟩
      · rw [List.length_map]
        have h1 := List.length_filter_le yes (ls.take i)
        have h2 : (ls.take i).length ≤ ls.length := by rw [List.length_take]; omega
        exact szlt (by omega)
      · rw [upd_same, htk, List.filter_append, List.map_append, List.filter_cons, if_pos hb]
        rfl
    · refine ⟨s1.trans s3, ?_⟩
      rw [htk, List.filter_append, List.map_append, List.filter_cons, if_neg (by rw [hb]; exact Bool.false_ne_true)]
      simp only [List.filter_nil, List.map_nil, List.append_nil]
      exact s3 _ _ hd
  · rintro H1 ⟨s1, hd⟩
    rw [List.take_length] at hd
    exact q D H1 hD s1 hd
theorem filter_yes {α : Type} (l : List α) : l.filter (fun _ => true) = l := List.filter_eq_self.mpr fun _ _ => rfl
/-- over a list -/
theorem lcL {α : Type} (ls : List α) (e : α → V) {p : Addr} (hs : SqL K H p (ls.map e)) {j : Nat} (yes : α → Bool) (f : α → V) (hn : ls.length ≤ 50000)
    (hw : ∀ x, wipe ((wipe σ vs).set j (some x)) vs = wipe σ vs)
    (ht : ∀ y ∈ ls, PT0 tt ((wipe σ vs).set j (some (e y))) H (yes y)) (he : ∀ y ∈ ls, yes y = true → PE0 te ((wipe σ vs).set j (some (e y))) H (f y))
    (q : ∀ D H', H D = none → Same H H' → H' D = some (.lst ((ls.filter yes).map f)) → Q (.ref D) H') : LcG (Itl K p) (gName j) tt te vs σ Q H := by
  have w := walk_list (K := K) (a := p) (xs := ls.map e)
  rw [List.length_map] at w
  refine lc_map ls e w (fun H' s => s.seq hs) (fun i H x H' hi y => ⟨y.1, ?_⟩) hn hw yes f ht he q
  have h2 := y.2
  rw [List.getElem?_map] at h2
  cases h3 : ls[i]? with
  | none => rw [h3] at h2; cases h2
  | some z =>
    rw [h3] at h2
    exact ⟨z, rfl, (Option.some.inj h2).symm⟩
/-- over a range -/
theorem lcR {lo : Int} {n : Nat} {j : Nat} (yes : Nat → Bool) (f : Nat → V) (hn : n ≤ 50000)
    (hw : ∀ x, wipe ((wipe σ vs).set j (some x)) vs = wipe σ vs)
    (ht : ∀ y, y < n → PT0 tt ((wipe σ vs).set j (some (.int (lo + y)))) H (yes y)) (he : ∀ y, y < n → yes y = true → PE0 te ((wipe σ vs).set j (some (.int (lo + y)))) H (f y))
    (q : ∀ D H', H D = none → Same H H' → H' D = some (.lst (((List.range n).filter yes).map f)) → Q (.ref D) H') : LcG (Itr lo n) (gName j) tt te vs σ Q H := by
  have w := walk_range (lo := lo) (n := n)
  refine lc_map (List.range n) (fun y => .int (lo + y)) (by rw [List.length_range]; exact w) (fun _ _ => trivial) (fun i H x H' hi (yy : YFn _ i H x H') => ⟨yy.1, i, ?_, yy.2⟩) (by rw [List.length_range]; exact hn) hw yes f
    (fun y hy => ht y (List.mem_range.mp hy)) (fun y hy => he y (List.mem_range.mp hy)) q
  rw [List.length_range] at hi
  simp [hi]
/-- over a text -/
theorem lcS {l : List Nat} {j : Nat} (yes : Nat → Bool) (f : Nat → V) (hn : l.length ≤ 50000)
    (hw : ∀ x, wipe ((wipe σ vs).set j (some x)) vs = wipe σ vs)
    (ht : ∀ y ∈ l, PT0 tt ((wipe σ vs).set j (some (.str (S [y])))) H (yes y)) (he : ∀ y ∈ l, yes y = true → PE0 te ((wipe σ vs).set j (some (.str (S [y])))) H (f y))
    (q : ∀ D H', H D = none → Same H H' → H' D = some (.lst ((l.filter yes).map f)) → Q (.ref D) H') : LcG (Its (S l)) (gName j) tt te vs σ Q H := by
  have w := walk_str (z := S l)
  have hz : (S l).cps.size = l.length := by simp
  rw [hz] at w
  refine lc_map l (fun y => .str (S [y])) w (fun _ _ => trivial) (fun i H x H' hi y => ⟨y.1, ?_⟩) hn hw yes f ht he q
  obtain ⟨c, h1, h2⟩ := y.2
  exact ⟨c, by simpa using h1, h2⟩

/-- over a range, the element's call may change what stands: acc what is made so far -/
theorem lcR_inv {lo : Int} {n : Nat} {j : Nat} (Pv : Addr → Nat → List V → Hp → Prop) (hn : n ≤ 50000) (hw : ∀ x, wipe ((wipe σ vs).set j (some x)) vs = wipe σ vs)
    (h0 : ∀ D, H D = none → Pv D 0 [] (upd H D (.lst [])))
    (hs : ∀ (D : Addr) (i : Nat) (acc : List V) (H' : Hp) (Q : VK), i < n → H D = none → acc.length = i → Pv D i acc H' → H' D = some (.lst acc) →
      (∀ y H2, H2 D = some (.lst acc) → Pv D (i + 1) (acc ++ [y]) (upd H2 D (.lst (acc ++ [y]))) → Q y H2) → te ((wipe σ vs).set j (some (.int (lo + (i : Nat))))) H' Q)
    (q : ∀ (D : Addr) (acc : List V) (H' : Hp), H D = none → acc.length = n → Pv D n acc H' → H' D = some (.lst acc) → Q (.ref D) H') : LcG (Itr lo n) (gName j) tYes te vs σ Q H := by
  intro D hD
  refine lc_it (walk_range (lo := lo) (n := n)) (fun i H' => ∃ acc : List V, H' D = some (.lst acc) ∧ acc.length = i ∧ Pv D i acc H') ⟨[], upd_same, rfl, h0 D hD⟩ (fun _ _ _ _ => trivial) ?_ ?_
  · rintro i x H1 H1' hi ⟨acc, ha, hl, p⟩ ⟨rfl, rfl⟩
    refine ⟨hw _, ?_⟩
    unfold tYes
    dsimp only
    rw [if_pos rfl]
    refine hs D i acc _ _ hi hD hl p ha fun y H2 h2 p2 => ⟨acc, h2, szlt (by omega), acc ++ [y], upd_same, ?_, p2⟩
    rw [List.length_append, hl]
    rfl
  · rintro H1 ⟨acc, ha, hl, p⟩
    exact q D acc H1 hD hl p ha
theorem cutV_to {xs : List V} {i : Int} (h : 0 ≤ i) : cutV xs none (some i) = xs.take i.toNat := by
  obtain ⟨n, rfl⟩ := Int.eq_ofNat_of_zero_le h
  unfold cutV
  rw [HT.sIx_none, HT.sIx_nat, List.drop_zero, Nat.sub_zero, Int.toNat_natCast]
  rw [Nat.min_def]
  split
  · rfl
  · rw [List.take_of_length_le (Nat.le_refl _), List.take_of_length_le (by omega)]
/-! ### for -/
variable {nx : St → Hp → Prop} {rt : VK} {bk ct : St → Hp → Prop}
theorem for_map {α : Type} (ls : List α) (e : α → V) {J : It} {G : Hp → Prop} {Y : Nat → Hp → V → Hp → Prop} (w : Walk J ls.length G Y)
    (hY : ∀ i H x H', i < ls.length → Y i H x H' → H' = H ∧ ∃ y, ls[i]? = some y ∧ x = e y) {j : Nat} (Pv : Nat → St → Hp → Prop) (h0 : Pv 0 σ H) (hG : ∀ i σ H, i ≤ ls.length → Pv i σ H → G H)
    (hs : ∀ i y σ H, ls[i]? = some y → Pv i σ H → tb ⟨Pv (i + 1), rt, nx, Pv (i + 1)⟩ (σ.set j (some (e y))) H) (hd : ∀ σ H, Pv ls.length σ H → nx σ H) : ForG J (gName j) tb ⟨nx, rt, bk, ct⟩ σ H :=
  for_it w Pv h0 hG (fun i x σ H H' hi p yy => by
    obtain ⟨rfl, y, hy, rfl⟩ := hY i _ _ _ hi yy
    exact hs i y σ _ hy p) hd
theorem forL {α : Type} (ls : List α) (e : α → V) {p : Addr} {j : Nat} (Pv : Nat → St → Hp → Prop) (h0 : Pv 0 σ H) (hG : ∀ i σ H, i ≤ ls.length → Pv i σ H → SqL K H p (ls.map e))
    (hs : ∀ i y σ H, ls[i]? = some y → Pv i σ H → tb ⟨Pv (i + 1), rt, nx, Pv (i + 1)⟩ (σ.set j (some (e y))) H) (hd : ∀ σ H, Pv ls.length σ H → nx σ H) : ForG (Itl K p) (gName j) tb ⟨nx, rt, bk, ct⟩ σ H := by
  have w := walk_list (K := K) (a := p) (xs := ls.map e)
  rw [List.length_map] at w
  refine for_map ls e w (fun i H x H' hi y => ⟨y.1, ?_⟩) Pv h0 hG hs hd
  have h2 := y.2
  rw [List.getElem?_map] at h2
  cases h3 : ls[i]? with
  | none => rw [h3] at h2; cases h2
  | some z =>
    rw [h3] at h2
    exact ⟨z, rfl, (Option.some.inj h2).symm⟩
theorem forR {lo : Int} {n : Nat} {j : Nat} (Pv : Nat → St → Hp → Prop) (h0 : Pv 0 σ H)
    (hs : ∀ i σ H, i < n → Pv i σ H → tb ⟨Pv (i + 1), rt, nx, Pv (i + 1)⟩ (σ.set j (some (.int (lo + (i : Nat))))) H) (hd : ∀ σ H, Pv n σ H → nx σ H) : ForG (Itr lo n) (gName j) tb ⟨nx, rt, bk, ct⟩ σ H :=
  for_it (walk_range (lo := lo) (n := n)) Pv h0 (fun _ _ _ _ _ => trivial) (fun i x σ H H' hi p y => by
    obtain ⟨rfl, rfl⟩ := y
    exact hs i σ _ hi p) hd
theorem forRC {lo c : Int} {n : Nat} {j : Nat} (Pv : Nat → St → Hp → Prop) (h0 : Pv 0 σ H)
    (hs : ∀ i σ H, i < n → Pv i σ H → tb ⟨Pv (i + 1), rt, nx, Pv (i + 1)⟩ (σ.set j (some (.int (lo + (i : Nat) * c)))) H) (hd : ∀ σ H, Pv n σ H → nx σ H) : ForG (Itc lo c n) (gName j) tb ⟨nx, rt, bk, ct⟩ σ H :=
  for_it (walk_rangeC (lo := lo) (n := n)) Pv h0 (fun _ _ _ _ _ => trivial) (fun i x σ H H' hi p y => by
    obtain ⟨rfl, rfl⟩ := y
    exact hs i σ _ hi p) hd
theorem forS {l : List Nat} {j : Nat} (Pv : Nat → St → Hp → Prop) (h0 : Pv 0 σ H)
    (hs : ∀ i y σ H, l[i]? = some y → Pv i σ H → tb ⟨Pv (i + 1), rt, nx, Pv (i + 1)⟩ (σ.set j (some (.str (S [y])))) H) (hd : ∀ σ H, Pv l.length σ H → nx σ H) : ForG (Its (S l)) (gName j) tb ⟨nx, rt, bk, ct⟩ σ H := by
  have w := walk_str (z := S l)
  have hz : (S l).cps.size = l.length := by simp
  rw [hz] at w
  refine for_map l (fun y => .str (S [y])) w (fun i H x H' hi y => ⟨y.1, ?_⟩) Pv h0 (fun _ _ _ _ _ => trivial) hs hd
  obtain ⟨c, h1, h2⟩ := y.2
  exact ⟨c, by simpa using h1, h2⟩
/-- while, by a word with its measure -/
def WhB (W : Nat → St → Hp → Prop) (m : Nat) (tb : TS) (rt : VK) (nx : St → Hp → Prop) (σ : St) (H1 : Hp) : Prop :=
  ∃ N : St → Hp → Prop, (∀ σ' H', N σ' H' → ∃ m', m' < m ∧ W m' σ' H') ∧ tb ⟨N, rt, nx, N⟩ σ H1
theorem rd_while (W : Nat → St → Hp → Prop) (m0 : Nat) (h0 : W m0 σ H)
    (hs : ∀ m σ H, W m σ H → tt σ H fun b H1 => if b = true then WhB W m tb rt nx σ H1 else nx σ H1) : tWhile tt tb ⟨nx, rt, bk, ct⟩ σ H :=
  ⟨W, ⟨m0, h0⟩, hs⟩
theorem rd_whb {W : Nat → St → Hp → Prop} {m : Nat} (h : tb ⟨fun σ' H' => ∃ m', m' < m ∧ W m' σ' H', rt, nx, fun σ' H' => ∃ m', m' < m ∧ W m' σ' H'⟩ σ H) : WhB W m tb rt nx σ H :=
  ⟨_, fun _ _ h => h, h⟩
end
end My
/-! isinstance, deep equality of plain data, sorted. -/
namespace My
open PySem PySem.Spec L2 SX
open PyProof.Rows hiding St
section
variable {H : Hp} {Q : VK} {K : PySem.W.Frag} {x y : V}
theorem rd_isi {a b : String} {r : Bool} (ty : TyX K H x (.type a)) (h : kitB a b = some r) (q : Q (.bl r) H) : rIsi K [x, .ty b] H Q := ⟨x, .ty b, .type a, .type b, r, rfl, .ty b, ty, kit_ty h, q⟩
theorem ty_str {z : Str} : TyX K H (.str z) (.type "str") := .base (.str z)
theorem ty_int {i : Int} : TyX K H (.int i) (.type "int") := .base (.int i)
theorem ty_bl {b : Bool} : TyX K H (.bl b) (.type "bool") := .base (.bl b)
theorem ty_lst {a : Addr} {xs : List V} (h : H a = some (.lst xs)) : TyX K H (.ref a) (.type "list") := .base (.lst h)
theorem ty_tup {a : Addr} {xs : List V} (h : H a = some (.tup xs)) : TyX K H (.ref a) (.type "tuple") := .base (.tup h)
theorem ty_non : TyX K H .non (.type "NoneType") := .base .non

theorem kb_str_str : kitB "str" "str" = some true := by decide +kernel
theorem kb_str_int : kitB "str" "int" = some false := by decide +kernel
theorem kb_str_bool : kitB "str" "bool" = some false := by decide +kernel
theorem kb_str_list : kitB "str" "list" = some false := by decide +kernel
theorem kb_str_tuple : kitB "str" "tuple" = some false := by decide +kernel
theorem kb_int_str : kitB "int" "str" = some false := by decide +kernel
theorem kb_int_int : kitB "int" "int" = some true := by decide +kernel
theorem kb_int_bool : kitB "int" "bool" = some false := by decide +kernel
theorem kb_int_list : kitB "int" "list" = some false := by decide +kernel
theorem kb_int_tuple : kitB "int" "tuple" = some false := by decide +kernel
theorem kb_bool_str : kitB "bool" "str" = some false := by decide +kernel
theorem kb_bool_int : kitB "bool" "int" = some true := by decide +kernel
theorem kb_bool_bool : kitB "bool" "bool" = some true := by decide +kernel
theorem kb_bool_list : kitB "bool" "list" = some false := by decide +kernel
theorem kb_bool_tuple : kitB "bool" "tuple" = some false := by decide +kernel
theorem kb_list_str : kitB "list" "str" = some false := by decide +kernel
theorem kb_list_int : kitB "list" "int" = some false := by decide +kernel
theorem kb_list_bool : kitB "list" "bool" = some false := by decide +kernel
theorem kb_list_list : kitB "list" "list" = some true := by decide +kernel
theorem kb_list_tuple : kitB "list" "tuple" = some false := by decide +kernel
theorem kb_tuple_str : kitB "tuple" "str" = some false := by decide +kernel
theorem kb_tuple_int : kitB "tuple" "int" = some false := by decide +kernel
theorem kb_tuple_bool : kitB "tuple" "bool" = some false := by decide +kernel
theorem kb_tuple_list : kitB "tuple" "list" = some false := by decide +kernel
theorem kb_tuple_tuple : kitB "tuple" "tuple" = some true := by decide +kernel
theorem kb_NoneType_str : kitB "NoneType" "str" = some false := by decide +kernel
theorem kb_NoneType_int : kitB "NoneType" "int" = some false := by decide +kernel
theorem kb_NoneType_bool : kitB "NoneType" "bool" = some false := by decide +kernel
theorem kb_NoneType_list : kitB "NoneType" "list" = some false := by decide +kernel
theorem kb_NoneType_tuple : kitB "NoneType" "tuple" = some false := by decide +kernel
/-! ### data -/
def dI (ns : List Int) : PyData := .list (ns.map PyData.int)
def dS (ws : List (List Nat)) : PyData := .list (ws.map fun w => PyData.str (S w))
def dSI (w : List Nat) (k : Int) : PyData := .tuple [.str (S w), .int k]
theorem canI : ∀ ns : List Int, PyData.canLayAll0 (ns.map PyData.int) = true
  | [] => rfl
  | n :: ns => by
    show (PyData.canLay0 (.int n) && PyData.canLayAll0 (ns.map PyData.int)) = true
    rw [canI ns]; rfl
theorem depI : ∀ ns : List Int, PyData.depthAll (ns.map PyData.int) = 0
  | [] => rfl
  | n :: ns => by
    show max (PyData.depth (.int n)) (PyData.depthAll (ns.map PyData.int)) = 0
    rw [depI ns]; rfl
theorem shI (ns : List Int) : SeqAt.shaped (dI ns) = true := by
  unfold SeqAt.shaped dI
  have h1 : PyData.canLay0 (.list (ns.map PyData.int)) = true := canI ns
  have h2 : PyData.depth (.list (ns.map PyData.int)) = 1 := by show PyData.depthAll _ + 1 = 1; rw [depI]
  rw [h1, h2]; rfl
theorem eqAllI : ∀ ns ms : List Int, PyData.eqvAll (ns.map PyData.int) (ms.map PyData.int) = decide (ns = ms)
  | [], [] => rfl
  | [], _ :: _ => rfl
  | _ :: _, [] => rfl
  | n :: ns, m :: ms => by
    show (PyData.eqv (.int n) (.int m) && PyData.eqvAll (ns.map PyData.int) (ms.map PyData.int)) = _
    rw [eqAllI ns ms]
    have h : PyData.eqv (.int n) (.int m) = decide (n = m) := by simp only [PyData.eqv]; by_cases e : n = m <;> simp [e]
    rw [h]
    by_cases e : n = m <;> by_cases e2 : ns = ms <;> simp [e, e2]
theorem eqI (ns ms : List Int) : PyData.eqv (dI ns) (dI ms) = decide (ns = ms) := by
  show PyData.eqvAll _ _ = _
  exact eqAllI ns ms
theorem dpAllI : ∀ ns : List Int, DpAll K H (ns.map V.int) (ns.map PyData.int)
  | [] => .nil
  | n :: ns => .cons (.int n) (dpAllI ns)
theorem dpI {a : Addr} {ns : List Int} (h : SqL K H a (ns.map V.int)) : Dp K H (.ref a) (dI ns) := .lst h (dpAllI ns)
/-- its code points are code points -/
def OkW (w : List Nat) : Prop := ∀ c ∈ w, c < 1114112
theorem canStr {w : List Nat} (h : OkW w) : PyData.canLay0 (.str (S w)) = true := by
  show PyData.strOk (S w) = true
  unfold PyData.strOk
  rw [← Array.all_toList]
  exact List.all_eq_true.mpr fun c hc => decide_eq_true (h c (by simpa using hc))
theorem canS : ∀ ws : List (List Nat), (∀ w ∈ ws, OkW w) → PyData.canLayAll0 (ws.map fun w => PyData.str (S w)) = true
  | [], _ => rfl
  | w :: ws, h => by
    show (PyData.canLay0 (.str (S w)) && PyData.canLayAll0 (ws.map fun w => PyData.str (S w))) = true
    rw [canS ws fun v hv => h v (List.mem_cons_of_mem _ hv), canStr (h w List.mem_cons_self)]; rfl
theorem depS : ∀ ws : List (List Nat), PyData.depthAll (ws.map fun w => PyData.str (S w)) = 0
  | [] => rfl
  | w :: ws => by
    show max (PyData.depth (.str (S w))) (PyData.depthAll (ws.map fun w => PyData.str (S w))) = 0
    rw [depS ws]; rfl
theorem shS (ws : List (List Nat)) (h : ∀ w ∈ ws, OkW w) : SeqAt.shaped (dS ws) = true := by
  unfold SeqAt.shaped dS
  have h1 : PyData.canLay0 (.list (ws.map fun w => PyData.str (S w))) = true := canS ws h
  have h2 : PyData.depth (.list (ws.map fun w => PyData.str (S w))) = 1 := by show PyData.depthAll _ + 1 = 1; rw [depS]
  rw [h1, h2]; rfl
theorem eqStr (v w : List Nat) : PyData.eqv (.str (S v)) (.str (S w)) = decide (v = w) := by
  simp only [PyData.eqv]
  exact S_beq_eq
theorem eqAllS : ∀ vs ws : List (List Nat), PyData.eqvAll (vs.map fun w => PyData.str (S w)) (ws.map fun w => PyData.str (S w)) = decide (vs = ws)
  | [], [] => rfl
  | [], _ :: _ => rfl
  | _ :: _, [] => rfl
  | v :: vs, w :: ws => by
    show (PyData.eqv (.str (S v)) (.str (S w)) && PyData.eqvAll (vs.map fun w => PyData.str (S w)) (ws.map fun w => PyData.str (S w))) = _
    rw [eqAllS vs ws, eqStr]
    by_cases e : v = w <;> by_cases e2 : vs = ws <;> simp [e, e2]
theorem eqS (vs ws : List (List Nat)) : PyData.eqv (dS vs) (dS ws) = decide (vs = ws) := eqAllS vs ws
theorem dpAllS : ∀ ws : List (List Nat), DpAll K H (ws.map fun w => V.str (S w)) (ws.map fun w => PyData.str (S w))
  | [] => .nil
  | w :: ws => .cons (.str (S w)) (dpAllS ws)
theorem dpS {a : Addr} {ws : List (List Nat)} (h : SqL K H a (ws.map fun w => V.str (S w))) : Dp K H (.ref a) (dS ws) := .lst h (dpAllS ws)
theorem dpSI {a : Addr} {w : List Nat} {k : Int} (h : SqT K H a [.str (S w), .int k]) : Dp K H (.ref a) (dSI w k) := .tup h (.cons (.str _) (.cons (.int _) .nil))
theorem shSI {w : List Nat} {k : Int} (h : OkW w) : SeqAt.shaped (dSI w k) = true := by
  unfold SeqAt.shaped dSI
  have h1 : PyData.canLay0 (.tuple [.str (S w), .int k]) = true := by
    show (PyData.canLay0 (.str (S w)) && (PyData.canLay0 (.int k) && true)) = true
    rw [canStr h]; rfl
  rw [h1]; rfl
theorem eqSI (v w : List Nat) (j k : Int) : PyData.eqv (dSI v j) (dSI w k) = decide (v = w ∧ j = k) := by
  show (PyData.eqv (.str (S v)) (.str (S w)) && (PyData.eqv (.int j) (.int k) && true)) = _
  have h : PyData.eqv (.int j) (.int k) = decide (j = k) := by simp only [PyData.eqv]; by_cases e : j = k <;> simp [e]
  rw [eqStr, h]
  by_cases e : v = w <;> by_cases e2 : j = k <;> simp [e, e2]
theorem rd_eqD {d e : PyData} (hd : Dp K H x d) (he : Dp K H y e) (sd : SeqAt.shaped d = true) (se : SeqAt.shaped e = true) (q : Q (.bl (PyData.eqv d e)) H) : rEqD K x y H Q := ⟨d, e, hd, he, sd, se, q⟩
theorem rd_neD {d e : PyData} (hd : Dp K H x d) (he : Dp K H y e) (sd : SeqAt.shaped d = true) (se : SeqAt.shaped e = true) (q : Q (.bl (!PyData.eqv d e)) H) : rNeD K x y H Q := ⟨d, e, hd, he, sd, se, q⟩
theorem rd_eqLI {p r : Addr} {ns ms : List Int} (h1 : SqL K H p (ns.map V.int)) (h2 : SqL K H r (ms.map V.int)) (q : Q (.bl (decide (ns = ms))) H) : rEqD K (.ref p) (.ref r) H Q := rd_eqD (dpI h1) (dpI h2) (shI _) (shI _) (by rw [eqI]; exact q)
theorem rd_neLI {p r : Addr} {ns ms : List Int} (h1 : SqL K H p (ns.map V.int)) (h2 : SqL K H r (ms.map V.int)) (q : Q (.bl (!decide (ns = ms))) H) : rNeD K (.ref p) (.ref r) H Q := rd_neD (dpI h1) (dpI h2) (shI _) (shI _) (by rw [eqI]; exact q)
theorem rd_eqLS {p r : Addr} {ns ms : List (List Nat)} (h1 : SqL K H p (ns.map fun w => V.str (S w))) (h2 : SqL K H r (ms.map fun w => V.str (S w))) (o1 : ∀ w ∈ ns, OkW w) (o2 : ∀ w ∈ ms, OkW w) (q : Q (.bl (decide (ns = ms))) H) : rEqD K (.ref p) (.ref r) H Q := rd_eqD (dpS h1) (dpS h2) (shS _ o1) (shS _ o2) (by rw [eqS]; exact q)
theorem rd_neLS {p r : Addr} {ns ms : List (List Nat)} (h1 : SqL K H p (ns.map fun w => V.str (S w))) (h2 : SqL K H r (ms.map fun w => V.str (S w))) (o1 : ∀ w ∈ ns, OkW w) (o2 : ∀ w ∈ ms, OkW w) (q : Q (.bl (!decide (ns = ms))) H) : rNeD K (.ref p) (.ref r) H Q := rd_neD (dpS h1) (dpS h2) (shS _ o1) (shS _ o2) (by rw [eqS]; exact q)
theorem rd_eqTSI {p r : Addr} {v w : List Nat} {j k : Int} (h1 : SqT K H p [.str (S v), .int j]) (h2 : SqT K H r [.str (S w), .int k]) (o1 : OkW v) (o2 : OkW w) (q : Q (.bl (decide (v = w ∧ j = k))) H) : rEqD K (.ref p) (.ref r) H Q := rd_eqD (dpSI h1) (dpSI h2) (shSI o1) (shSI o2) (by rw [eqSI]; exact q)
theorem rd_neTSI {p r : Addr} {v w : List Nat} {j k : Int} (h1 : SqT K H p [.str (S v), .int j]) (h2 : SqT K H r [.str (S w), .int k]) (o1 : OkW v) (o2 : OkW w) (q : Q (.bl (!decide (v = w ∧ j = k))) H) : rNeD K (.ref p) (.ref r) H Q := rd_neD (dpSI h1) (dpSI h2) (shSI o1) (shSI o2) (by rw [eqSI]; exact q)
/-- two sorted lists of the same ints are one -/
theorem sorted_one : ∀ {as bs : List Int}, as.Perm bs → as.Pairwise (· ≤ ·) → bs.Pairwise (· ≤ ·) → as = bs
  | [], bs, p, _, _ => (List.nil_perm.mp p).symm
  | a :: as, [], p, _, _ => absurd (List.perm_nil.mp p) (by simp)
  | a :: as, b :: bs, p, h1, h2 => by
    rw [List.pairwise_cons] at h1 h2
    have hab : a = b := by
      have h3 : a ∈ b :: bs := p.subset List.mem_cons_self
      have h4 : b ∈ a :: as := p.symm.subset List.mem_cons_self
      rcases List.mem_cons.mp h3 with h3 | h3
      · exact h3
      · rcases List.mem_cons.mp h4 with h4 | h4
        · exact h4.symm
        · have := h1.1 b h4
          have := h2.1 a h3
          omega
    subst hab
    rw [sorted_one ((List.perm_cons a).mp p) h1.2 h2.2]
theorem rd_sortedI {p : Addr} {ns ms : List Int} (h : SqL K H p (ns.map V.int)) (pm : ms.Perm ns) (srt : ms.Pairwise (· ≤ ·)) (q : ∀ r, H r = none → Q (.ref r) (upd H r (.lst (ms.map V.int)))) : rSortedI K [.ref p] H Q :=
  ⟨p, ns, rfl, h, fun ns' r p2 s2 nr => by
    have e : ns' = ms := sorted_one (p2.trans pm.symm) s2 srt
    rw [e]
    exact q r nr⟩
/-- a new list from two -/
theorem rd_catL {l b : Addr} {xs zs : List V} (h1 : H l = some (.lst xs)) (h2 : H b = some (.lst zs)) (hl : xs.length + zs.length ≤ 100000) (q : ∀ p, H p = none → Q (.ref p) (upd H p (.lst (xs ++ zs)))) : rCat (.ref l) (.ref b) H Q :=
  ⟨l, b, xs, zs, rfl, rfl, h1, h2, sz hl, q⟩
theorem rd_revL {σ : St} {te : TE} (h : te σ H fun x H1 => ∃ a xs, x = .ref a ∧ SqL K H1 a xs ∧ ∀ p, H1 p = none → Q (.ref p) (upd H1 p (.lst xs.reverse))) : tRevL K te σ H Q := h
end
end My
/-! All words over the first letters, up to a length. Plain. -/
namespace Wds
/-- the words of m letters over the first n -/
def exact (n : Nat) : Nat → List (List Nat)
  | 0 => [[]]
  | m + 1 => (List.range n).flatMap fun c => (exact n m).map fun w => (97 + c) :: w
def upto (n m : Nat) : List (List Nat) := (List.range (m + 1)).flatMap (exact n)
theorem mem_exact {n : Nat} : ∀ (m : Nat) (l : List Nat), l.length = m → (∀ c ∈ l, 97 ≤ c ∧ c < 97 + n) → l ∈ exact n m
  | 0, l, h, _ => by
    have : l = [] := List.length_eq_zero_iff.mp h
    subst this
    exact List.mem_singleton.mpr rfl
  | m + 1, [], h, _ => by cases h
  | m + 1, c :: l, h, w => by
    have h2 := w c List.mem_cons_self
    refine List.mem_flatMap.mpr ⟨c - 97, List.mem_range.mpr (by omega), List.mem_map.mpr ⟨l, mem_exact m l (by simpa using h) fun d hd => w d (List.mem_cons_of_mem _ hd), ?_⟩⟩
    rw [show 97 + (c - 97) = c by omega]
theorem mem_upto {n m : Nat} {l : List Nat} (h : l.length ≤ m) (w : ∀ c ∈ l, 97 ≤ c ∧ c < 97 + n) : l ∈ upto n m :=
  List.mem_flatMap.mpr ⟨l.length, List.mem_range.mpr (by omega), mem_exact _ l rfl w⟩
end Wds
/-! min of data, comprehensions over zip. -/
namespace My
open PySem PySem.Spec L2 SX
open PyProof.Rows hiding St
section
variable {X : Cx} {H : Hp} {Q : VK} {K : PySem.W.Frag}
/-- min(xs), xs a list of alike data -/
def rMinD (K : PySem.W.Frag) : List V → Hp → VK → Prop := fun vs H Q => ∃ (a : Addr) (xs : List V) (d : PyData) (ds : List PyData), vs = [V.ref a] ∧ SqL K H a xs ∧ DpAll K H xs (d :: ds) ∧ PySem.W.AlikeAll (d :: ds) ∧ SeqAt.shaped (.list (d :: ds)) = true ∧
  ∀ (i : Nat) (v : V), xs[i]? = some v → (d :: ds)[i]? = some (PySem.W.minD d ds) → Q v H
theorem dpAll_len : ∀ {xs : List V} {ds : List PyData}, DpAll K H xs ds → xs.length = ds.length
  | _, _, .nil => rfl
  | _, _, .cons _ t => by rw [List.length_cons, List.length_cons, dpAll_len t]
theorem reads_keep {h h' : Heap} (k : ∀ b o, h.get? b = some o → h'.get? b = some o) {v : Value} {d : PyData} {as : List Addr} (r : Reads h v d as) : Reads h' v d as := PyProof.Rows.Reads.keeps k r
theorem cr_minD (hc : X.calm = true) (hu : X.A.units + 100 < cLine) : CallR X (.builtin "min") (rMinD X.K) := by
  intro pins s σ H vs us Q I r h
  obtain ⟨a, xs, d, ds, rfl, hs, hd, hal, hsh, q⟩ := h
  obtain ⟨its, rv, hl, _⟩ := I.list hs
  rw [Vals.ref1 r]
  obtain ⟨as, hr⟩ := Dp.readsAll I (d :: ds) xs its hd rv
  have hcan : PyData.canLayAll0 (d :: ds) = true := SeqAt.canLay_of_shaped hsh
  have hdep : PyData.depthAll (d :: ds) + 1 ≤ 64 := SeqAt.depth_of_shaped hsh
  refine PySem.W.min_list_data (I.ok.hd hc) hl.isList (vs := its.toArray) (by simpa using hr) hal (by omega) fun i v h' tk bs hv hrd hk => ?_
  have hv2 : its[i]? = some v := by simpa using hv
  have hil : i < its.length := (List.getElem?_eq_some_iff.mp hv2).1
  have hxl : i < xs.length := by rw [rv.length]; exact hil
  obtain ⟨u, hu2, ru⟩ := rv.get (List.getElem?_eq_getElem hxl)
  rw [hv2] at hu2
  cases hu2
  have hdl : i < (d :: ds).length := by rw [← dpAll_len hd]; exact hxl
  have hvd : its[i]? = some v := hv2
  obtain ⟨bs2, r2, _, hm, _⟩ := PySem.W.readsAll_at hr i v hv2
  have hci : ((d :: ds).getD i .none).canLay0 = true := PyData.canLay0_of_mem (d :: ds) _ hcan hm
  have e := PySem.SeqAt.Reads.unique _ _ _ _ _ hci (reads_keep hk r2) hrd
  refine ⟨xs[i], H, I.kept hk, ru, q i _ (List.getElem?_eq_getElem hxl) ?_⟩
  rw [List.getElem?_eq_getElem hdl]
  rw [List.getD_eq_getElem?_getD, List.getElem?_eq_getElem hdl] at e
  exact congrArg some e

/-! ### pairs of a text and an int -/
def ltSI (a b : List Nat × Int) : Bool := decide (a.1 < b.1) || (decide (a.1 = b.1) && decide (a.2 < b.2))
def minSI (a : List Nat × Int) (l : List (List Nat × Int)) : List Nat × Int := l.foldl (fun m y => if ltSI y m then y else m) a
def toSI (a : List Nat × Int) : PyData := dSI a.1 a.2
theorem alikeSI (a b : List Nat × Int) : PySem.W.alike (toSI a) (toSI b) = true := by simp [toSI, dSI, PySem.W.alike, PySem.W.alikeAll]
theorem dataLtSI (a b : List Nat × Int) : PySem.W.dataLt (toSI a) (toSI b) = ltSI a b := by
  unfold toSI dSI ltSI
  rw [PySem.W.dataLt_pair (by simp [PySem.W.alike]) (by simp [PySem.W.alike]), PySem.W.dataLt_int, PySem.W.dataLt_str, eqStr]
  have e : PyData.eqv (.int a.2) (.int b.2) = decide (a.2 = b.2) := by simp only [PyData.eqv]; by_cases e : a.2 = b.2 <;> simp [e]
  rw [e]
  show (if decide (a.1 = b.1) = true then _ else decide (a.1 < b.1)) = _
  by_cases h1 : a.1 = b.1
  · rw [decide_eq_true h1, if_pos rfl, h1]
    have h2 : decide (b.1 < b.1) = false := decide_eq_false (List.lt_irrefl _)
    rw [h2]
    by_cases h3 : a.2 = b.2
    · simp [h3]
    · simp [h3]
  · rw [decide_eq_false h1, if_neg Bool.false_ne_true]
    simp
theorem minSI_D (a : List Nat × Int) : ∀ l : List (List Nat × Int), PySem.W.minD (toSI a) (l.map toSI) = toSI (minSI a l) := by
  intro l
  unfold PySem.W.minD minSI
  induction l generalizing a with
  | nil => rfl
  | cons b l ih =>
    rw [List.map_cons, List.foldl_cons, List.foldl_cons, dataLtSI]
    by_cases h : ltSI b a = true
    · rw [if_pos h, if_pos h]; exact ih b
    · rw [if_neg h, if_neg h]; exact ih a
theorem canSI (a : List Nat × Int) (h : OkW a.1) : (toSI a).canLay0 = true := by
  show (PyData.canLay0 (.str (S a.1)) && (PyData.canLay0 (.int a.2) && true)) = true
  rw [canStr h]; rfl
theorem canAllSI : ∀ l : List (List Nat × Int), (∀ a ∈ l, OkW a.1) → PyData.canLayAll0 (l.map toSI) = true
  | [], _ => rfl
  | a :: l, h => by
    show (PyData.canLay0 (toSI a) && PyData.canLayAll0 (l.map toSI)) = true
    rw [canAllSI l fun b hb => h b (List.mem_cons_of_mem _ hb), canSI a (h a List.mem_cons_self)]; rfl
theorem depAllSI : ∀ l : List (List Nat × Int), PyData.depthAll (l.map toSI) ≤ 1
  | [] => Nat.zero_le _
  | a :: l => by
    show max (PyData.depth (toSI a)) (PyData.depthAll (l.map toSI)) ≤ 1
    have h1 : PyData.depth (toSI a) = 1 := rfl
    have := depAllSI l
    omega
theorem toSI_inj {a b : List Nat × Int} (h : toSI a = toSI b) : a = b := by
  unfold toSI dSI at h
  injection h with h
  injection h with h1 h2
  injection h2 with h2 _
  injection h1 with h1
  injection h2 with h2
  exact Prod.ext (S_inj h1) h2
/-- the list's items: new tuples, as they stand -/
def TupsAt (H : Hp) : List V → List (List Nat × Int) → Prop := Paired fun v a => ∃ t, v = .ref t ∧ H t = some (.tup [.str (S a.1), .int a.2])
theorem dpTups : ∀ {vs : List V} {l : List (List Nat × Int)}, TupsAt H vs l → DpAll K H vs (l.map toSI)
  | _, _, .nil => .nil
  | _, _, .cons ⟨t, e, h⟩ r => by
    subst e
    exact .cons (dpSI (SqT.of h)) (dpTups r)
theorem tups_at {vs : List V} {l : List (List Nat × Int)} (h : TupsAt H vs l) {i : Nat} {v : V} {a : List Nat × Int} (hv : vs[i]? = some v) (ha : l[i]? = some a) : ∃ t, v = .ref t ∧ H t = some (.tup [.str (S a.1), .int a.2]) := by
  induction h generalizing i with
  | nil => simp at hv
  | cons r _ ih =>
    cases i with
    | zero =>
      simp at hv ha
      subst hv ha
      exact r
    | succ i => exact ih (by simpa using hv) (by simpa using ha)
theorem rd_minSI {p : Addr} {vs : List V} {a : List Nat × Int} {l : List (List Nat × Int)} (hs : SqL K H p vs) (ht : TupsAt H vs (a :: l)) (ho : ∀ b ∈ a :: l, OkW b.1)
    (q : ∀ t, H t = some (.tup [.str (S (minSI a l).1), .int (minSI a l).2]) → Q (.ref t) H) : rMinD K [.ref p] H Q := by
  refine ⟨p, vs, toSI a, l.map toSI, rfl, hs, dpTups ht, ⟨?_, ?_⟩, ?_, fun i v hv hd => ?_⟩
  · intro x hx y hy
    have hx2 : x ∈ (a :: l).map toSI := hx
    have hy2 : y ∈ (a :: l).map toSI := hy
    obtain ⟨b, _, rfl⟩ := List.mem_map.mp hx2
    obtain ⟨c, _, rfl⟩ := List.mem_map.mp hy2
    exact alikeSI b c
  · intro x hx
    have hx2 : x ∈ (a :: l).map toSI := hx
    obtain ⟨b, _, rfl⟩ := List.mem_map.mp hx2
    exact fun z => nomatch z
  · unfold SeqAt.shaped
    have h1 : PyData.canLay0 (.list ((a :: l).map toSI)) = true := canAllSI _ ho
    have h2 : PyData.depth (.list ((a :: l).map toSI)) ≤ 64 := by
      show PyData.depthAll ((a :: l).map toSI) + 1 ≤ 64
      have := depAllSI (a :: l)
      omega
    rw [Bool.and_eq_true]
    exact ⟨h1, decide_eq_true h2⟩
  · rw [minSI_D] at hd
    have hd2 : ((a :: l).map toSI)[i]? = some (toSI (minSI a l)) := hd
    rw [List.getElem?_map] at hd2
    cases e : (a :: l)[i]? with
    | none => rw [e] at hd2; cases hd2
    | some b =>
      rw [e] at hd2
      have e2 := toSI_inj (Option.some.inj hd2)
      subst e2
      obtain ⟨t, rfl, hst⟩ := tups_at ht hv e
      exact q t hst

/-! ### comprehensions over zip -/
variable {σ : St} {te : TE} {vs : List Nat} {R : It → Hp → Prop}
/-- the target (a, b) of names -/
abbrev g2 (K : PySem.W.Frag) (i j : Nat) : TG := gTup K 2 (gCons (gName i) (gCons (gName j) gNil))
theorem lcZ {J : It} {n : Nat} {G : Hp → Prop} {A B : Nat → Option V} (w : Walk J n G (YPair A B)) (hG : ∀ H', Same H H' → G H') {i j : Nat} (f : Nat → V) (hn : n ≤ 50000)
    (hw : ∀ x y, wipe (((wipe σ vs).set i (some x)).set j (some y)) vs = wipe σ vs)
    (he : ∀ k x y, k < n → A k = some x → B k = some y → PE0 te (((wipe σ vs).set i (some x)).set j (some y)) H (f k))
    (q : ∀ D H', H D = none → Same H H' → H' D = some (.lst ((List.range n).map f)) → Q (.ref D) H') : LcG J (g2 K i j) tYes te vs σ Q H := by
  intro D hD
  refine lc_it w (fun k H' => Same H H' ∧ H' D = some (.lst ((List.range k).map f))) ⟨Same.new hD, upd_same⟩ (fun k H' _ p => hG H' p.1) ?_ ?_
  · rintro k x H1 H1' hk ⟨s1, hd⟩ ⟨T, x, y, rfl, hT, rfl, ha, hb⟩
    refine ⟨T, [x, y], rfl, SqT.of upd_same, rfl, x, [y], rfl, y, [], rfl, rfl, hw x y, ?_⟩
    unfold tYes; dsimp only
    rw [if_pos rfl]
    have s2 : Same H (upd H1 T (.tup [x, y])) := fun b o e => by rw [upd_ne (ne_of_none (s1 b o e) hT)]; exact s1 b o e
    refine he k x y hk ha hb _ s2 _ fun H3 s3 => ?_
    have hDT : D ≠ T := ne_of_none hd hT
    refine ⟨_, s3 _ _ (by rw [upd_ne hDT]; exact hd), ?_, Same.mut (s2.trans s3) hD, ?_⟩
    · rw [List.length_map, List.length_range]
      exact szlt (by omega)
    · rw [upd_same, List.range_succ, List.map_append]
      rfl
  · rintro H1 ⟨s1, hd⟩
    exact q D H1 hD s1 hd
theorem walk_zipT {a b : Addr} {xs ys : List V} (hl : xs.length = ys.length) : Walk (RZ.ItzT K a b) xs.length (fun H => SqT K H a xs ∧ SqT K H b ys) (YPair (fun i => xs[i]?) (fun i => ys[i]?)) := by
  refine ⟨fun i _ hi q => ?_, fun _ q => ⟨xs, ys, q.1, q.2, .inl (Nat.le_refl _)⟩, fun i H v H' _ q y => ?_⟩
  · have h2 : i < ys.length := by omega
    exact ⟨xs, ys, xs[i], ys[i], q.1, q.2, by simp [hi], by simp [h2]⟩
  · obtain ⟨T, x, z, h1, h2, h3, h4, h5⟩ := y
    exact ⟨T, x, z, h1, h2, h3, h4 xs q.1, h5 ys q.2⟩
def qZip (K : PySem.W.Frag) (vs : List V) (H1 : Hp) (R : It → Hp → Prop) : Prop := ∃ a b xs ys, vs = [.ref a, .ref b] ∧ ((SqL K H1 a xs ∧ SqL K H1 b ys ∧ R (Itz K a b) H1) ∨ (SqT K H1 a xs ∧ SqT K H1 b ys ∧ R (RZ.ItzT K a b) H1))
theorem rd_iZip {ta : TA} (h : ta σ H fun vs H1 => qZip K vs H1 R) : RZ.iZipA K ta σ H R := h
theorem rd_zipL {a b : Addr} {xs ys : List V} (h1 : SqL K H a xs) (h2 : SqL K H b ys) (q : R (Itz K a b) H) : qZip K [.ref a, .ref b] H R := ⟨a, b, xs, ys, rfl, .inl ⟨h1, h2, q⟩⟩
theorem rd_zipT {a b : Addr} {xs ys : List V} (h1 : SqT K H a xs) (h2 : SqT K H b ys) (q : R (RZ.ItzT K a b) H) : qZip K [.ref a, .ref b] H R := ⟨a, b, xs, ys, rfl, .inr ⟨h1, h2, q⟩⟩
/-- all, any -/
theorem rd_all {p : Addr} {bs : List Bool} (h : SqL K H p (bs.map V.bl)) (q : Q (.bl (bs.all id)) H) : rAll K [.ref p] H Q := ⟨p, bs, rfl, h, q⟩
theorem rd_any {p : Addr} {bs : List Bool} (h : SqL K H p (bs.map V.bl)) (q : Q (.bl (bs.any id)) H) : rAny K [.ref p] H Q := ⟨p, bs, rfl, h, q⟩
/-- isinstance with a tuple of types just made -/
theorem rd_isiT {x : V} {t : Value} {tp : Addr} {cs : List V} {us : List Value} {b : Bool} (h : H tp = some (.tup cs)) (p : Paired ClsV cs us) (ty : TyX K H x t) (k : PySem.W.kitAny K t us = some b) (q : Q (.bl b) H) : rIsiT K [x, .ref tp] H Q := ⟨x, tp, cs, t, us, b, rfl, h, p, ty, k, q⟩
theorem rd_isiTL {x : V} {a : String} {tp : Addr} {r1 r2 : Bool} (h : H tp = some (.tup [.ty "tuple", .ty "list"])) (ty : TyX K H x (.type a)) (k1 : kitB a "tuple" = some r1) (k2 : kitB a "list" = some r2) (q : Q (.bl (r1 || r2)) H) : rIsiT K [x, .ref tp] H Q := by
  refine rd_isiT h (.cons (.ty _) (.cons (.ty _) .nil)) ty ?_ q
  cases r1 with
  | true => exact kitAny_cons (kit_ty k1) (fun z => nomatch z) fun _ => rfl
  | false =>
    refine kitAny_cons (b := false) (kit_ty k1) (fun _ => ?_) fun z => nomatch z
    cases r2 with
    | true => exact kitAny_cons (kit_ty k2) (fun z => nomatch z) fun _ => rfl
    | false => exact kitAny_cons (b := false) (kit_ty k2) (fun _ => kitAny_nil) fun z => nomatch z
end
end My
/-! Small rules: replace of written texts, room. -/
namespace My
open PySem PySem.Spec L2 SX
open PyProof.Rows hiding St
section
variable {X : Cx} {x y z : Str} {i j k : Nat} {cx c0 c1 apos pos : Pos}
theorem pe_replLit (l : List Nat) (hl : Txt.replace x y z = S l) (hb : x.length + (x.length + 1) * z.length ≤ 16777216) (hyz : (y == z) = false := by decide)
    (hst : starEach [.Constant (.str y) j c0, .Constant (.str z) k c1] X.env = [(false, eval (.Constant (.str y) j c0) X.env), (false, eval (.Constant (.str z) k c1) X.env)] := by rfl)
    (hbase : attributeBase (.Constant (.str x) i cx) "replace" X.env (eval (.Constant (.str x) i cx) X.env) = eval (.Constant (.str x) i cx) X.env := by rfl) (hline : (apos.endLine == pos.line) = true := by rfl) :
    PE X (.Call (.Attribute (.Constant (.str x) i cx) "replace" apos) [.Constant (.str y) j c0, .Constant (.str z) k c1] [] pos) (tC (.str (S l))) := by
  refine ⟨fun pins s σ H Q I h => ?_⟩
  refine PySem.Call_method2 hbase hst hline (Calls.Constant_str ?_)
  refine ⟨"str", _, PySem.F.plainAttrs_str, PySem.F.slot_str_replace, PySem.F.type_str_replace, typeIs_str _ _ _, (fun _ e => nomatch e), Calls.callWith_builtin rfl (Calls.evalArgs_plain (Calls.spliced_cons ?_))⟩
  refine Calls.Constant_str (Calls.spliced_cons (Calls.Constant_str (Calls.spliced_nil ?_)))
  refine PySem.SC.replace (by show s.toks + 1 ≠ 0; omega) (by show s.toks + 1 + 1 ≠ 0; omega) (by show s.toks + 1 ≠ s.toks + 1 + 1; omega) hyz hb fun t' hk => ⟨.str (S l), H, (I.tok _).tok hk, ⟨t', by rw [hl]⟩, h⟩
end
theorem pg_two {X : Cx} {i j k : Nat} {x y : Str} {p q pos : Pos} (K : PySem.W.Frag) (hK : X.K = K) (hc : X.calm = true) (hN : X.N.Nodup) (hi : X.N[i]? = some x) (hx : Loc X.env.scope x) (hj : X.N[j]? = some y) (hy : Loc X.env.scope y)
    (h1 : X.fn x = true ∨ X.env.scope.names.lookup x = some .local := by first | exact .inl rfl | exact .inr rfl | assumption)
    (h2 : X.fn y = true ∨ X.env.scope.names.lookup y = some .local := by first | exact .inl rfl | exact .inr rfl | assumption) :
    PG X (.Tuple [.Name x p, .Name y q] k pos) (gTup K 2 (gCons (gName i) (gCons (gName j) gNil))) := by
  subst hK
  exact pg_tup hc (pgs_cons (pg_name hN hi hx h1) (pgs_cons (pg_name hN hj hy h2) pgs_nil))
theorem rd_slS_mid {H : Hp} {Q : VK} {l : List Nat} {i j : Int} (hl : l.length ≤ 100000) (h0 : 0 ≤ i) (h1 : i ≤ j) (h2 : j ≤ (l.length : Int)) (q : Q (.str (S ((l.drop i.toNat).take (j - i).toNat))) H) : C8.rSlX (.str (S l)) (some i) (some j) H Q := by
  refine ⟨S l, rfl, by rw [S_len]; exact sz hl, ?_⟩
  have e : Txt.slice (S l) (some i) (some j) = S ((l.drop i.toNat).take (j - i).toNat) :=
    (beq_iff_eq.mp (PyProof.Rows.slice_closesL (x := S l) h0 h1 (by rw [S_len]; exact h2))).trans (TL.ext_tl rfl)
  rw [e]
  exact q
theorem one_lt {x y : Nat} : [x] < [y] ↔ x < y := by
  rw [List.cons_lt_cons_iff]
  simp
theorem paired_snoc {α β : Type} {R : α → β → Prop} {as : List α} {bs : List β} {a : α} {b : β} (h : Paired R as bs) (r : R a b) : Paired R (as ++ [a]) (bs ++ [b]) := by
  induction h with
  | nil => exact .cons r .nil
  | cons x _ ih => exact .cons x ih
/-- a while with what holds behind it said once -/
theorem rd_whileX {σ : St} {H : Hp} {tt : TT} {tb : TS} {nx : St → Hp → Prop} {rt : VK} {bk ct : St → Hp → Prop} (W : Nat → St → Hp → Prop) (Ex : St → Hp → Prop) (m0 : Nat) (h0 : W m0 σ H) (hx : ∀ σ H, Ex σ H → nx σ H)
    (hs : (∀ σ H, Ex σ H → nx σ H) → ∀ m σ H, W m σ H → tt σ H fun b H1 => if b = true then WhB W m tb rt nx σ H1 else nx σ H1) : tWhile tt tb ⟨nx, rt, bk, ct⟩ σ H :=
  rd_while W m0 h0 (hs hx)
theorem rd_two {a b : V} {R : V → V → Prop} (h : R a b) : ∃ v w, [a, b] = [v, w] ∧ R v w := ⟨a, b, rfl, h⟩
theorem rd_evT {b : Bool} {A B : Prop} (h : b = true) (q : A) : if b = true then A else B := by rw [if_pos h]; exact q
theorem rd_evF {b : Bool} {A B : Prop} (h : b = false) (q : B) : if b = true then A else B := by rw [if_neg (by rw [h]; exact Bool.false_ne_true)]; exact q
theorem Room.u100 {k : Nat} {A : Around} (r : Room k A) : A.units + 100 < cLine := by have := r.un; omega
theorem Room.u65 {k : Nat} {A : Around} (r : Room k A) : A.units + 65 < cLine := by have := r.un; omega
end My
/-! zip of two texts. -/
namespace My
open PySem PySem.Spec L2 SX
open PyProof.Rows hiding St
/-- the signs of two texts, in new pairs -/
def ItzS (x y : Str) : It :=
  ⟨fun i _ => i < min x.cps.size y.cps.size, fun i H v H' => ∃ T c d, v = .ref T ∧ H T = none ∧ H' = upd H T (.tup [.str ⟨#[c]⟩, .str ⟨#[d]⟩]) ∧ x.cps[i]? = some c ∧ y.cps[i]? = some d, fun i _ => i = min x.cps.size y.cps.size⟩
theorem turn_zipS {P : Program} {w : World} {K : PySem.W.Frag} {elts : List Expr} {kk : Nat} {tpos : Pos} {z TI TO i1 i2 : Addr} {x y : Str} {t u : Tok} (D : ZipSep2 z TI TO i1 i2 [i1] [i2]) :
    Turn P w K (.Tuple elts kk tpos) (ItzS x y) [z, TI, TO, i1, i2] z (fun i h => IsZip h z TI TO .none ∧ IsTupOf2 h TI (.ref i1) (.ref i2) ∧ (∃ a b, IsTupOf2 h TO a b) ∧ h.IsStrIter i1 (strIterType x) x t i ∧ h.IsStrIter i2 (strIterType y) y u i) where
  mem := by simp
  obj := fun i h st c hc => by
    obtain ⟨hz, hTI, ⟨a, b, hTO⟩, ⟨o1, e1, _, d1⟩, ⟨o2, e2, _, d2⟩⟩ := st
    have e' : c = z ∨ c = TI ∨ c = TO ∨ c = i1 ∨ c = i2 := by simpa using hc
    rcases e' with q | q | q | q | q
    · rw [q]; exact ⟨_, hz, fun v q => nomatch q⟩
    · rw [q]; exact ⟨_, hTI, fun v q => nomatch q⟩
    · rw [q]; exact ⟨_, hTO, fun v q => nomatch q⟩
    · rw [q]; exact ⟨o1, e1, fun v q => by rw [d1] at q; cases q⟩
    · rw [q]; exact ⟨o2, e2, fun v q => by rw [d2] at q; cases q⟩
  keep := fun i h h' st k => by
    obtain ⟨hz, hTI, ⟨a, b, hTO⟩, ⟨o1, e1, r1⟩, ⟨o2, e2, r2⟩⟩ := st
    exact ⟨k z (by simp) _ hz, k TI (by simp) _ hTI, ⟨a, b, k TO (by simp) _ hTO⟩, ⟨o1, k i1 (by simp) _ e1, r1⟩, ⟨o2, k i2 (by simp) _ e2, r2⟩⟩
  item := by
    intro X hP hw hK hc i pins s σ H E I hf st hg
    subst hP hw hK
    obtain ⟨hz, hTI, ⟨x0, y0, hTO⟩, h1, h2⟩ := st
    have hg2 : i < min x.cps.size y.cps.size := hg
    have hzl : z < s.heap.objs.size := Heap.lt_size hz
    have D1 := Draws.text (prog := X.prog) (w := X.w) (A := X.A.in1) (I.ok.hd hc) i1 x t
    have D2 := Draws.text (prog := X.prog) (w := X.w) (A := X.A.in1) (I.ok.hd hc) i2 y u
    refine wpAny_pyNext_zipD2_item (i := i) D D1 D2 hz hTI hTO h1 h2 (by omega) (by omega) fun v1 v2 h' tk p1 p2 z' TO' h1' h2' hT hsz hk => ?_
    obtain ⟨c, t1, hc1, rfl⟩ := p1
    obtain ⟨d, t2, hd2, rfl⟩ := p2
    refine ⟨_, rfl, wpAny_letOwnedTupleGo_zip (s := { s with heap := h', toks := tk }) z' fun h'' z'' sb => ?_⟩
    have hT2 : h''.get? s.heap.objs.size = some { cls := .type "tuple", data := .seq #[.str ⟨#[c]⟩ t1, .str ⟨#[d]⟩ t2] } := (sb.2 _ (Nat.ne_of_gt hzl)).trans hT
    have new : ObjOk X.prog X.w (upd H s.heap.objs.size (.tup [.str ⟨#[c]⟩, .str ⟨#[d]⟩])) h'' s.heap.objs.size (.tup [.str ⟨#[c]⟩, .str ⟨#[d]⟩]) :=
      ⟨by show 2 ≤ sizeLine; decide, [.str ⟨#[c]⟩ t1, .str ⟨#[d]⟩ t2], .cons ⟨t1, rfl⟩ (.cons ⟨t2, rfl⟩ .nil), ⟨_, hT2, rfl, _, rfl⟩⟩
    have I1 : Inv X pins σ (upd H s.heap.objs.size (.tup [.str ⟨#[c]⟩, .str ⟨#[d]⟩])) { s with heap := h'', toks := tk } :=
      I.turnedNew (t' := tk) (ch := [z, TI, TO, i1, i2]) (fun c o hb q => (sb.2 c (fun q' => hb (by simp [q']))).trans (hk c o (fun q' => hb (by simp [q'])) (fun q' => hb (by simp [q'])) (fun q' => hb (by simp [q'])) (fun q' => hb (by simp [q'])) q)) hf (Nat.le_refl _) new
    refine ⟨.ref s.heap.objs.size, _, I1, rfl, ⟨_, c, d, rfl, I.hok.fresh (Nat.le_refl _), rfl, hc1, hd2⟩, ⟨z'', ?_, ⟨.str ⟨#[c]⟩ t1, .str ⟨#[d]⟩ t2, ?_⟩, ?_, ?_⟩, fun b hbm => ?_⟩
    · exact (sb.2 _ D.TIz).trans (hk _ _ D.TIz D.TITO D.TIi1 D.TIi2 hTI)
    · exact (sb.2 _ D.TOz).trans TO'
    · obtain ⟨o, e, r⟩ := h1'
      exact ⟨o, (sb.2 _ (Ne.symm D.zi1)).trans e, r⟩
    · obtain ⟨o, e, r⟩ := h2'
      exact ⟨o, (sb.2 _ (Ne.symm D.zi2)).trans e, r⟩
    · have hlt : b < s.heap.objs.size := by
        have e' : b = z ∨ b = TI ∨ b = TO ∨ b = i1 ∨ b = i2 := by simpa using hbm
        rcases e' with q | q | q | q | q
        · rw [q]; exact hzl
        · rw [q]; exact Heap.lt_size hTI
        · rw [q]; exact Heap.lt_size hTO
        · rw [q]; obtain ⟨_, e1, _⟩ := h1; exact Heap.lt_size e1
        · rw [q]; obtain ⟨_, e2, _⟩ := h2; exact Heap.lt_size e2
      rw [upd_ne (Nat.ne_of_lt hlt)]
      exact (hf b hbm).1
  done := by
    intro X hP hw hK hc i pins s σ H E I hf st hg
    subst hP hw hK
    obtain ⟨hz, hTI, ⟨x0, y0, hTO⟩, h1, h2⟩ := st
    have hg2 : i = min x.cps.size y.cps.size := hg
    have D1 := Draws.text (prog := X.prog) (w := X.w) (A := X.A.in1) (I.ok.hd hc) i1 x t
    have D2 := Draws.text (prog := X.prog) (w := X.w) (A := X.A.in1) (I.ok.hd hc) i2 y u
    exact wpAny_pyNext_zipD2_end (i := i) D D1 D2 hz hTI hTO h1 h2 (by omega) (by omega) (by omega) fun h' tk hk => ⟨rfl, I.turnedL (t' := tk) (ch := [z, TI, TO, i1, i2]) (fun c o hb q =>
      hk c o (fun q' => hb (by simp [q'])) (fun q' => hb (by simp [q'])) (fun q' => hb (by simp [q'])) (fun q' => hb (by simp [q'])) q) hf⟩
  self := fun A i s Q E st h => wpAny_pyIter_zip st.1 h
def iZipS (ta : TA) : TI := fun σ H R => ta σ H fun vs H1 => ∃ x y, vs = [.str x, .str y] ∧ R (ItzS x y) H1
theorem pi_zipS {X : Cx} {e e2 : Expr} {ta : TA} {p pos tpos : Pos} {elts : List Expr} {kk : Nat} (hg : Gl X "zip") (hm : X.mg "zip" = none) (ha : PA X [e, e2] ta)
    (hs : starEach [e, e2] X.env = (false, eval e X.env) :: starEach [e2] X.env := by rfl) (hpl : (backTo pos (starEach [e2] X.env)).any (·.1) = false := by rfl) :
    PI X (.Tuple elts kk tpos) (.Call (.Name "zip" p) [e, e2] [] pos) (iZipS ta) := by
  refine ⟨fun pins s σ H R I h => ?_⟩
  refine Call_ (ld_blt I hg hm PyProof.Rows.boot_zip (PyProof.Rows.callWith_type1 (thn (ha.run pos pins s σ H _ I h) fun us s1 ⟨vs, H1, I1, r1, q1⟩ => ?_) hs hpl))
  obtain ⟨x, y, ex, q⟩ := q1
  subst ex
  cases r1 with
  | cons r rr =>
    cases rr with
    | cons r' rr =>
      cases rr
      obtain ⟨t, rfl⟩ := r
      obtain ⟨u, rfl⟩ := r'
      have fresh5 : ∀ c, c ∈ [s1.heap.objs.size + 4, s1.heap.objs.size + 2, s1.heap.objs.size + 3, s1.heap.objs.size, s1.heap.objs.size + 1] → FpOk X pins H1 c := fun c hcm => by
        have e' : c = s1.heap.objs.size + 4 ∨ c = s1.heap.objs.size + 2 ∨ c = s1.heap.objs.size + 3 ∨ c = s1.heap.objs.size ∨ c = s1.heap.objs.size + 1 := by simpa using hcm
        have hle : s1.heap.objs.size ≤ c := by omega
        exact I1.fpOk hle (I1.hok.fresh hle)
      refine zip_begins2 (begins_text x t) (begins_text y u) trivial trivial fun h' hz hTI hTO h1 h2 hsz hk => wpAny_pyIter_zip hz ?_
      have I2 : Inv X pins σ H1 { s1 with heap := h' } := I1.kept (t' := s1.toks) hk
      refine ⟨s1.heap.objs.size + 4, [s1.heap.objs.size + 4, s1.heap.objs.size + 2, s1.heap.objs.size + 3, s1.heap.objs.size, s1.heap.objs.size + 1], _, _, H1, rfl, I2, turn_zipS (t := t) (u := u) ?_, ⟨hz, hTI, ⟨_, _, hTO⟩, ⟨_, h1, rfl, rfl⟩, ⟨_, h2, rfl, rfl⟩⟩, fresh5, q⟩
      constructor <;> first | omega | simp
section
variable {σ : St} {H : Hp} {te : TE} {ta : TA} {vs : List Nat} {Q : VK} {R : It → Hp → Prop}
def qZipS (vs : List V) (H1 : Hp) (R : It → Hp → Prop) : Prop := ∃ x y, vs = [.str x, .str y] ∧ R (ItzS x y) H1
theorem rd_iZipS (h : ta σ H fun vs H1 => qZipS vs H1 R) : iZipS ta σ H R := h
theorem rd_zipS {l m : List Nat} (q : R (ItzS (S l) (S m)) H) : qZipS [.str (S l), .str (S m)] H R := ⟨S l, S m, rfl, q⟩
theorem walk_zipS {l m : List Nat} (hl : m.length ≤ l.length) : Walk (ItzS (S l) (S m)) m.length (fun _ => True) (YPair (fun i => l[i]?.map fun c => V.str (S [c])) (fun i => m[i]?.map fun c => V.str (S [c]))) := by
  have e1 : (S l).cps.size = l.length := by simp
  have e2 : (S m).cps.size = m.length := by simp
  refine ⟨fun i _ hi _ => ?_, fun _ _ => ?_, fun i H v H' _ _ y => ?_⟩
  · show i < min _ _
    omega
  · show m.length = min _ _
    omega
  · obtain ⟨T, c, d, h1, h2, h3, h4, h5⟩ := y
    refine ⟨T, .str ⟨#[c]⟩, .str ⟨#[d]⟩, h1, h2, h3, ?_, ?_⟩
    · have : l[i]? = some c := by simpa using h4
      dsimp only
      rw [this]
      rfl
    · have : m[i]? = some d := by simpa using h5
      dsimp only
      rw [this]
      rfl
end
end My
/-! x in a tuple of lists, list(range), dicts of ints, unpacking of lists, max. -/
namespace My
open PySem PySem.Spec L2 SX
open PyProof.Rows hiding St
section
variable {X : Cx} {K : PySem.W.Frag} {H : Hp} {Q : VK} {σ : St}
def rInT (K : PySem.W.Frag) (neg : Bool) : R2 := fun x y H Q => ∃ d ds, Dp K H x d ∧ Dp K H y (.tuple ds) ∧ SeqAt.shaped d = true ∧ SeqAt.shaped (.tuple ds) = true ∧ Q (.bl (if neg then !(ds.any fun z => PyData.eqv z d) else ds.any fun z => PyData.eqv z d)) H
theorem op_inT (K : PySem.W.Frag) (hK : X.K = K) (hu : X.A.units + 65 < cLine) : OpR X (compareOp .In) (rInT K false) := by
  subst hK
  intro pins s σ H x y v u Q I rx ry h
  obtain ⟨d, ds, hd, he, sd, se, q⟩ := h
  obtain ⟨as, r1⟩ := Dp.reads I d x v hd rx
  obtain ⟨bs, r2⟩ := Dp.reads I (.tuple ds) y u he ry
  exact SeqAt.in_tuple_reads r2 r1 (SeqAt.canLay_of_shaped se) (SeqAt.canLay_of_shaped sd) (room_in_shaped sd hu) ⟨.bl _, H, I, rfl, q⟩
theorem op_notInT (K : PySem.W.Frag) (hK : X.K = K) (hu : X.A.units + 65 < cLine) : OpR X (compareOp .NotIn) (rInT K true) := by
  subst hK
  intro pins s σ H x y v u Q I rx ry h
  obtain ⟨d, ds, hd, he, sd, se, q⟩ := h
  obtain ⟨as, r1⟩ := Dp.reads I d x v hd rx
  obtain ⟨bs, r2⟩ := Dp.reads I (.tuple ds) y u he ry
  exact SeqAt.notIn_tuple_reads r2 r1 (SeqAt.canLay_of_shaped se) (SeqAt.canLay_of_shaped sd) (room_in_shaped sd hu) ⟨.bl _, H, I, rfl, q⟩
/-- a list of ints not in a tuple of two such lists -/
theorem rd_notInT2 {p t q r : Addr} {a b c : List Int} (hp : SqL K H p (a.map V.int)) (ht : SqT K H t [.ref q, .ref r]) (hq : SqL K H q (b.map V.int)) (hr : SqL K H r (c.map V.int))
    (k : Q (.bl (!(decide (b = a) || decide (c = a)))) H) : rInT K true (.ref p) (.ref t) H Q := by
  refine ⟨dI a, [dI b, dI c], dpI hp, .tup ht (.cons (dpI hq) (.cons (dpI hr) .nil)), shI _, ?_, ?_⟩
  · have h1 := shI b
    have h2 := shI c
    unfold SeqAt.shaped at h1 h2 ⊢
    rw [Bool.and_eq_true] at h1 h2 ⊢
    have e1 : PyData.canLay0 (.tuple [dI b, dI c]) = (PyData.canLay0 (dI b) && (PyData.canLay0 (dI c) && true)) := rfl
    have e2 : PyData.depth (.tuple [dI b, dI c]) = max (PyData.depth (dI b)) (max (PyData.depth (dI c)) 0) + 1 := rfl
    have e3 : ∀ ns : List Int, PyData.depth (dI ns) = 1 := fun ns => by
      show PyData.depthAll (ns.map PyData.int) + 1 = 1
      rw [depI]
    refine ⟨by rw [e1, h1.1, h2.1]; rfl, decide_eq_true ?_⟩
    rw [e2, e3, e3]
    decide
  · show Q (.bl (!(PyData.eqv (dI b) (dI a) || (PyData.eqv (dI c) (dI a) || false)))) H
    rw [eqI, eqI, Bool.or_false]
    exact k
theorem op_inQ (K : PySem.W.Frag) (hK : X.K = K) : OpR X (compareOp .In) (rIn K false) := by
  subst hK
  exact op_in_seq
theorem op_notInQ (K : PySem.W.Frag) (hK : X.K = K) : OpR X (compareOp .NotIn) (rIn K true) := by
  subst hK
  exact op_notIn_seq
theorem cr_allK (K : PySem.W.Frag) (hK : X.K = K) (hc : X.calm = true) : CallR X (.builtin "all") (rAll K) := by
  subst hK
  exact cr_all hc
/-! list(range(..)) -/
def qRg (a b : Int) (H1 : Hp) (Q : VK) : Prop := RgOk a b ∧ ∀ q, H1 q = none → Q (.ref q) (upd H1 q (.lst (rgV a b)))
theorem rd_lstRg {te : St → Hp → (Int → Int → Hp → Prop) → Prop} (h : te σ H fun a b H1 => qRg a b H1 Q) : tLstRg te σ H Q := h
theorem rd_tRg1 {ta : TE} {R : Int → Int → Hp → Prop} (h : ta σ H fun x H1 => ∃ n, x = .int n ∧ R 0 n H1) : tRg1 ta σ H R := h
theorem rd_tRg2 {ta tb : TE} {R : Int → Int → Hp → Prop} (h : ta σ H fun x H1 => tb σ H1 fun y H2 => ∃ i j, x = .int i ∧ y = .int j ∧ R i j H2) : tRg2 ta tb σ H R := h
theorem rd_rg1 {n : Int} {R : Int → Prop} (h : R n) : ∃ m, V.int n = V.int m ∧ R m := ⟨n, rfl, h⟩
theorem rd_rg2 {i j : Int} {R : Int → Int → Prop} (h : R i j) : ∃ m k, V.int i = V.int m ∧ V.int j = V.int k ∧ R m k := ⟨i, j, rfl, rfl, h⟩
theorem rd_qRg {a b : Int} (h : 0 ≤ a ∧ a ≤ 100000 ∧ 0 ≤ b ∧ b ≤ 100000) (q : ∀ p, H p = none → Q (.ref p) (upd H p (.lst (rgV a b)))) : qRg a b H Q := ⟨RgOk.of_le (by omega) (by omega) (by omega) (by omega), q⟩
/-! dicts whose keys are ints -/
def qDGet (x y : V) (H2 : Hp) (Q : VK) : Prop := ∃ a v, x = .ref a ∧ DGet H2 a y (some v) ∧ Q v H2
theorem rd_tDGet {td ty : TE} (h : td σ H fun x H1 => ty σ H1 fun y H2 => qDGet x y H2 Q) : tDGet td ty σ H Q := h
theorem rd_dget {a : Addr} {kvs : List (Key × V)} {i : Int} {v : V} (h : H a = some (.dK kvs)) (e : valV kvs (.inl i) = some v) (q : Q v H) : qDGet (.ref a) (.int i) H Q := ⟨a, v, rfl, by
  have := DGet.k (k := Sum.inl i) h
  rw [e] at this
  exact this, q⟩
def qDPut (x y v : V) (H3 : Hp) (R : Hp → Prop) : Prop := ∃ a H4, x = .ref a ∧ DPut H3 a y v H4 ∧ R H4
theorem rd_sDPut {td ty tv : TE} {D : Ends} (h : tv σ H fun v H1 => td σ H1 fun x H2 => ty σ H2 fun y H3 => qDPut x y v H3 fun H4 => D.nx σ H4) : sDPut td ty tv D σ H := h
theorem rd_dput {a : Addr} {kvs : List (Key × V)} {i : Int} {v : V} {R : Hp → Prop} (h : H a = some (.dK kvs)) (hl : kvs.length < 100000) (q : R (upd H a (.dK (putK kvs (.inl i) v)))) : qDPut (.ref a) (.int i) v H R :=
  ⟨a, _, rfl, DPut.k (k := Sum.inl i) h (szlt hl), q⟩
theorem putK_len {kvs : List (Key × V)} {k : Key} {v : V} : (putK kvs k v).length ≤ kvs.length + 1 := by
  unfold putK
  split
  · rw [List.length_map]; omega
  · rw [List.length_append]; exact Nat.le_refl _
theorem rd_dnew (h : ∀ p, H p = none → Q (.ref p) (upd H p (.dK []))) : tDNewK σ H Q := h
/-! unpacking a list of three -/
theorem pg_unl3 {i j l k : Nat} {x y z : Str} {p q r pos : Pos} (K : PySem.W.Frag) (hK : X.K = K) (hc : X.calm = true) (hN : X.N.Nodup) (hi : X.N[i]? = some x) (hx : Loc X.env.scope x) (hj : X.N[j]? = some y) (hy : Loc X.env.scope y) (hl : X.N[l]? = some z) (hz : Loc X.env.scope z)
    (h1 : X.fn x = true ∨ X.env.scope.names.lookup x = some .local := by first | exact .inl rfl | exact .inr rfl | assumption)
    (h2 : X.fn y = true ∨ X.env.scope.names.lookup y = some .local := by first | exact .inl rfl | exact .inr rfl | assumption)
    (h3 : X.fn z = true ∨ X.env.scope.names.lookup z = some .local := by first | exact .inl rfl | exact .inr rfl | assumption) :
    PG X (.Tuple [.Name x p, .Name y q, .Name z r] k pos) (gUnl K 3 (gCons (gName i) (gCons (gName j) (gCons (gName l) gNil)))) := by
  subst hK
  exact pg_unl hc (pgs_cons (pg_name hN hi hx h1) (pgs_cons (pg_name hN hj hy h2) (pgs_cons (pg_name hN hl hz h3) pgs_nil)))
theorem rd_unl3 {a : Addr} {u v w : V} {i j l : Nat} {R : St → Hp → Prop} (h : SqL K H a [u, v, w]) (q : R (((σ.set i (some u)).set j (some v)).set l (some w)) H) : gUnl K 3 (gCons (gName i) (gCons (gName j) (gCons (gName l) gNil))) (.ref a) σ H R :=
  ⟨a, _, rfl, h, rfl, _, _, rfl, _, _, rfl, _, _, rfl, rfl, q⟩
/-! max of a list of ints -/
theorem rd_max {p : Addr} {ns : List Int} {m : Int} (h : SqL K H p (ns.map V.int)) (hm : m ∈ ns) (hle : ∀ y ∈ ns, y ≤ m) (q : Q (.int m) H) : rMax K [.ref p] H Q :=
  ⟨p, ns, rfl, h, List.length_pos_of_mem hm, fun m2 hm2 hle2 => by
    have e : m2 = m := Int.le_antisymm (hle m2 hm2) (hle2 m hm)
    rw [e]
    exact q⟩
/-! x in a list of ints -/
theorem inV_int {x : Int} : ∀ ns : List Int, inV (.int x) (ns.map V.int) = decide (x ∈ ns)
  | [] => rfl
  | n :: ns => by
    show (eqV (.int n) (.int x) || inV (.int x) (ns.map V.int)) = _
    rw [inV_int ns]
    have e : eqV (.int n) (.int x) = decide (n = x) := by
      first | rfl | (unfold eqV; simp) | simp [eqV]
    rw [e]
    by_cases h : x = n
    · subst h; simp
    · have h2 : ¬ n = x := fun z => h z.symm
      simp [h, h2]
theorem flat_ints (ns : List Int) : (ns.map V.int).all flatV = true := by
  rw [List.all_eq_true]
  intro v hv
  obtain ⟨n, _, rfl⟩ := List.mem_map.mp hv
  rfl
theorem rd_inI {p : Addr} {x : Int} {ns : List Int} (h : SqL K H p (ns.map V.int)) (q : Q (.bl (decide (x ∈ ns))) H) : rIn K false (.int x) (.ref p) H Q := ⟨p, _, rfl, .inl h, rfl, flat_ints ns, by rw [if_neg Bool.false_ne_true, inV_int]; exact q⟩
theorem rd_notInI {p : Addr} {x : Int} {ns : List Int} (h : SqL K H p (ns.map V.int)) (q : Q (.bl (!decide (x ∈ ns))) H) : rIn K true (.int x) (.ref p) H Q := ⟨p, _, rfl, .inl h, rfl, flat_ints ns, by rw [if_pos rfl, inV_int]; exact q⟩
theorem rd_chain {r r' : R2} {ta tb tc : TE} (h : ta σ H fun x H1 => tb σ H1 fun y H2 => r x y H2 fun z H3 => ∃ k, z = .bl k ∧ (if k = true then tc σ H3 fun w' H4 => r' y w' H4 Q else Q (.bl false) H3)) : tChain r r' ta tb tc σ H Q := h
theorem rd_g2 {T : Addr} {u v : V} {i j : Nat} {R : St → Hp → Prop} (h : SqT K H T [u, v]) (q : R ((σ.set i (some u)).set j (some v)) H) : gTup K 2 (gCons (gName i) (gCons (gName j) gNil)) (.ref T) σ H R :=
  ⟨T, _, rfl, h, rfl, _, _, rfl, _, _, rfl, rfl, q⟩
theorem at_int {hs : List Int} {i : Int} (h0 : 0 ≤ i) (h : i < (hs.length : Int)) : atI (hs.map V.int) i = some (.int (hs.getD i.toNat 0)) := by
  refine at_of h0 ?_
  have h2 : i.toNat < hs.length := by omega
  rw [List.getElem?_map, List.getElem?_eq_getElem h2, List.getD_eq_getElem?_getD, List.getElem?_eq_getElem h2]
  rfl
theorem forT {α : Type} (ls : List α) (e : α → V) {p : Addr} {j : Nat} {tb : TS} {nx : St → Hp → Prop} {rt : VK} {bk ct : St → Hp → Prop} (Pv : Nat → St → Hp → Prop) (h0 : Pv 0 σ H) (hG : ∀ i σ H, i ≤ ls.length → Pv i σ H → SqT K H p (ls.map e))
    (hs : ∀ i y σ H, ls[i]? = some y → Pv i σ H → tb ⟨Pv (i + 1), rt, nx, Pv (i + 1)⟩ (σ.set j (some (e y))) H) (hd : ∀ σ H, Pv ls.length σ H → nx σ H) : ForG (Itt K p) (gName j) tb ⟨nx, rt, bk, ct⟩ σ H := by
  have w := walk_tup (K := K) (a := p) (xs := ls.map e)
  rw [List.length_map] at w
  refine for_map ls e w (fun i H x H' hi y => ⟨y.1, ?_⟩) Pv h0 hG hs hd
  have h2 := y.2
  rw [List.getElem?_map] at h2
  cases h3 : ls[i]? with
  | none => rw [h3] at h2; cases h2
  | some z =>
    rw [h3] at h2
    exact ⟨z, rfl, (Option.some.inj h2).symm⟩
end
end My
/-! zip of a text and a list. -/
namespace My
open PySem PySem.Spec L2 SX
open PyProof.Rows hiding St
/-- the signs of a text and the items of the list at b, in new pairs -/
def ItzSL (K : PySem.W.Frag) (x : Str) (b : Addr) : It where
  go := fun i H => ∃ ys, SqL K H b ys ∧ i < min x.cps.size ys.length
  yld := fun i H v H' => ∃ T c d, v = .ref T ∧ H T = none ∧ H' = upd H T (.tup [.str ⟨#[c]⟩, d]) ∧ x.cps[i]? = some c ∧ ∀ ys, SqL K H b ys → ys[i]? = some d
  stop := fun i H => ∃ ys, SqL K H b ys ∧ i = min x.cps.size ys.length
theorem turn_zipSL {P : Program} {w : World} {K : PySem.W.Frag} {elts : List Expr} {kk : Nat} {tpos : Pos} {z TI TO i1 i2 b : Addr} {x : Str} {t : Tok} (D : ZipSep2 z TI TO i1 i2 [i1] [i2, b]) (hb2 : b ≠ i2) :
    Turn P w K (.Tuple elts kk tpos) (ItzSL K x b) [z, TI, TO, i1, i2] z (fun i h => IsZip h z TI TO .none ∧ IsTupOf2 h TI (.ref i1) (.ref i2) ∧ (∃ p q, IsTupOf2 h TO p q) ∧ h.IsStrIter i1 (strIterType x) x t i ∧ h.IsListIter i2 b i) := by
  have five : ∀ {c : Addr} {G : Addr → Prop}, c ∈ [z, TI, TO, i1, i2] → G z → G TI → G TO → G i1 → G i2 → G c := fun {c G} hc a1 a2 a3 a4 a5 => by
    rcases List.mem_cons.mp hc with q | hc
    · rw [q]; exact a1
    rcases List.mem_cons.mp hc with q | hc
    · rw [q]; exact a2
    rcases List.mem_cons.mp hc with q | hc
    · rw [q]; exact a3
    rcases List.mem_cons.mp hc with q | hc
    · rw [q]; exact a4
    · rw [List.mem_singleton.mp hc]; exact a5
  refine { mem := by simp, obj := ?_, keep := ?_, item := ?_, done := ?_, self := fun A i s Q E st h => wpAny_pyIter_zip st.1 h }
  · rintro i h ⟨hz, hTI, ⟨p, q, hTO⟩, ⟨o1, e1, _, d1⟩, ⟨o2, e2, _, d2⟩⟩ c hc
    refine five (G := fun c => ∃ o, h.get? c = some o ∧ ∀ v, o.data ≠ .cell v) hc ⟨_, hz, fun v q => (nomatch q)⟩ ⟨_, hTI, fun v q => (nomatch q)⟩ ⟨_, hTO, fun v q => (nomatch q)⟩ ⟨o1, e1, fun v q => ?_⟩ ⟨o2, e2, fun v q => ?_⟩
    · rw [d1] at q; cases q
    · rw [d2] at q; cases q
  · rintro i h h' ⟨hz, hTI, ⟨p, q, hTO⟩, ⟨o1, e1, r1⟩, h2⟩ k
    exact ⟨k z (by simp) _ hz, k TI (by simp) _ hTI, ⟨p, q, k TO (by simp) _ hTO⟩, ⟨o1, k i1 (by simp) _ e1, r1⟩, h2.at fun o e => k i2 (by simp) o e⟩
  · intro X hP hw hK hc i pins s σ H E I hf st hg
    subst hP hw hK
    obtain ⟨hz, hTI, ⟨p0, q0, hTO⟩, h1, h2⟩ := st
    obtain ⟨ys, hq, hlt⟩ := hg
    obtain ⟨its, rv, pl, _⟩ := I.list hq
    have len := rv.length
    have hzl : z < s.heap.objs.size := Heap.lt_size hz
    have D1 := Draws.text (prog := X.prog) (w := X.w) (A := X.A.in1) (I.ok.hd hc) i1 x t
    have D2 := Draws.list (prog := X.prog) (w := X.w) (A := X.A.in1) (I.ok.hd hc) i2 b hb2 its.toArray
    refine wpAny_pyNext_zipD2_item (i := i) D D1 D2 hz hTI hTO h1 ⟨h2, pl.isList⟩ (by omega) (by rw [List.size_toArray]; omega) fun v1 v2 h' tk p1 p2 z' TO' h1' h2' hT hsz hk => ?_
    obtain ⟨c, t1, hc1, rfl⟩ := p1
    have p3 : its[i]? = some v2 := by simpa using p2
    have hil : i < ys.length := by omega
    obtain ⟨u, hu, ru⟩ := rv.get (List.getElem?_eq_getElem hil)
    rw [p3] at hu
    cases hu
    refine ⟨_, rfl, wpAny_letOwnedTupleGo_zip (s := { s with heap := h', toks := tk }) z' fun h'' z'' sb => ?_⟩
    have hT2 : h''.get? s.heap.objs.size = some { cls := .type "tuple", data := .seq #[.str ⟨#[c]⟩ t1, v2] } := (sb.2 _ (Nat.ne_of_gt hzl)).trans hT
    have new : ObjOk X.prog X.w (upd H s.heap.objs.size (.tup [.str ⟨#[c]⟩, ys[i]])) h'' s.heap.objs.size (.tup [.str ⟨#[c]⟩, ys[i]]) :=
      ⟨by show 2 ≤ sizeLine; decide, [.str ⟨#[c]⟩ t1, v2], .cons ⟨t1, rfl⟩ (.cons ru .nil), ⟨_, hT2, rfl, _, rfl⟩⟩
    have old : ∀ c o, c ∉ [z, TI, TO, i1, i2] → s.heap.get? c = some o → h''.get? c = some o := fun c o hb q => by
      simp only [List.mem_cons, List.not_mem_nil, or_false, not_or] at hb
      obtain ⟨b1, b2, b3, b4, b5⟩ := hb
      exact (sb.2 c b1).trans (hk c o b1 b3 b4 b5 q)
    have I1 : Inv X pins σ (upd H s.heap.objs.size (.tup [.str ⟨#[c]⟩, ys[i]])) { s with heap := h'', toks := tk } := I.turnedNew (t' := tk) (ch := [z, TI, TO, i1, i2]) old hf (Nat.le_refl _) new
    refine ⟨.ref s.heap.objs.size, _, I1, rfl, ⟨_, c, ys[i], rfl, I.hok.fresh (Nat.le_refl _), rfl, hc1, fun l hl => by rw [I.list_inj hl hq]; exact List.getElem?_eq_getElem hil⟩, ⟨z'', ?_, ⟨.str ⟨#[c]⟩ t1, v2, ?_⟩, ?_, ?_⟩, fun b hbm => ?_⟩
    · exact (sb.2 _ D.TIz).trans (hk _ _ D.TIz D.TITO D.TIi1 D.TIi2 hTI)
    · exact (sb.2 _ D.TOz).trans TO'
    · obtain ⟨o, e, r⟩ := h1'
      exact ⟨o, (sb.2 _ (Ne.symm D.zi1)).trans e, r⟩
    · exact h2'.1.at fun o e => (sb.2 _ (Ne.symm D.zi2)).trans e
    · have lt : b < s.heap.objs.size := by
        obtain ⟨o1, e1, _⟩ := h1
        obtain ⟨o2, e2, _⟩ := h2
        exact five (G := fun c => c < s.heap.objs.size) hbm hzl (Heap.lt_size hTI) (Heap.lt_size hTO) (Heap.lt_size e1) (Heap.lt_size e2)
      rw [upd_ne (Nat.ne_of_lt lt)]
      exact (hf b hbm).1
  · intro X hP hw hK hc i pins s σ H E I hf st hg
    subst hP hw hK
    obtain ⟨hz, hTI, ⟨p0, q0, hTO⟩, h1, h2⟩ := st
    obtain ⟨ys, hq, hend⟩ := hg
    obtain ⟨its, rv, pl, _⟩ := I.list hq
    have len := rv.length
    have D1 := Draws.text (prog := X.prog) (w := X.w) (A := X.A.in1) (I.ok.hd hc) i1 x t
    have D2 := Draws.list (prog := X.prog) (w := X.w) (A := X.A.in1) (I.ok.hd hc) i2 b hb2 its.toArray
    have sz2 : its.toArray.size = ys.length := by rw [List.size_toArray]; omega
    refine wpAny_pyNext_zipD2_end (i := i) D D1 D2 hz hTI hTO h1 ⟨h2, pl.isList⟩ (by omega) (by omega) (by omega) fun h' tk hk => ⟨rfl, I.turnedL (t' := tk) (ch := [z, TI, TO, i1, i2]) (fun c o hb q => ?_) hf⟩
    simp only [List.mem_cons, List.not_mem_nil, or_false, not_or] at hb
    obtain ⟨b1, b2, b3, b4, b5⟩ := hb
    exact hk c o b1 b3 b4 b5 q
def iZipSL (K : PySem.W.Frag) (ta : TA) : TI := fun σ H R => ta σ H fun vs H1 => ∃ x b ys, vs = [.str x, .ref b] ∧ SqL K H1 b ys ∧ R (ItzSL K x b) H1
theorem pi_zipSL {X : Cx} {e e2 : Expr} {ta : TA} {p pos tpos : Pos} {elts : List Expr} {kk : Nat} (hg : Gl X "zip") (hm : X.mg "zip" = none) (ha : PA X [e, e2] ta)
    (ns : starEach [e, e2] X.env = (false, eval e X.env) :: starEach [e2] X.env := by rfl) (np : (backTo pos (starEach [e2] X.env)).any (·.1) = false := by rfl) : PI X (.Tuple elts kk tpos) (.Call (.Name "zip" p) [e, e2] [] pos) (iZipSL X.K ta) := by
  refine ⟨fun pins s σ H R I h => Call_ (ld_blt I hg hm PyProof.Rows.boot_zip (PyProof.Rows.callWith_type1 (thn (ha.run pos pins s σ H _ I h) fun us s1 ⟨vs, H1, I1, r1, q1⟩ => ?_) ns np))⟩
  obtain ⟨x, b, ys, ex, hq, q⟩ := q1
  subst ex
  cases r1 with
  | cons r rr =>
    cases rr with
    | cons r' rr =>
      cases rr
      obtain ⟨t, rfl⟩ := r
      cases r'
      obtain ⟨its, rv, pl, _⟩ := I1.list hq
      have hb : b < s1.heap.objs.size := pl.lt
      have big : ∀ c, c ∈ [s1.heap.objs.size + 4, s1.heap.objs.size + 2, s1.heap.objs.size + 3, s1.heap.objs.size, s1.heap.objs.size + 1] → s1.heap.objs.size ≤ c := fun c hc => by
        simp only [List.mem_cons, List.not_mem_nil, or_false] at hc
        rcases hc with z | z | z | z | z <;> rw [z] <;> first | exact Nat.le_add_right _ _ | exact Nat.le_refl _
      refine zip_begins2 (begins_text x t) (begins_list b its.toArray) trivial pl.isList fun h' hz hTI hTO h1 h2 hsz hk => wpAny_pyIter_zip hz ?_
      have I2 : Inv X pins σ H1 { s1 with heap := h' } := I1.kept (t' := s1.toks) hk
      refine ⟨s1.heap.objs.size + 4, [s1.heap.objs.size + 4, s1.heap.objs.size + 2, s1.heap.objs.size + 3, s1.heap.objs.size, s1.heap.objs.size + 1], _, _, H1, rfl, I2, turn_zipSL (t := t) ?_ ?_, ⟨hz, hTI, ⟨_, _, hTO⟩, ⟨_, h1, rfl, rfl⟩, ⟨_, h2, rfl, rfl⟩⟩, fun c hc => I1.fpOk (big c hc) (I1.hok.fresh (big c hc)), q⟩
      · have nb : ∀ k, s1.heap.objs.size + k ≠ b := fun k e => by
          have : b < s1.heap.objs.size := hb
          rw [← e] at this
          exact absurd this (Nat.not_lt_of_le (Nat.le_add_right _ _))
        have nb0 : s1.heap.objs.size ≠ b := nb 0
        constructor <;> first | omega | (simp; done) | (simp [nb, nb0]; done) | (simp only [List.mem_cons, List.not_mem_nil, or_false, not_or]; exact ⟨by omega, nb _⟩) | (simp only [List.mem_cons, List.not_mem_nil, or_false, not_or]; exact ⟨by omega, nb0⟩)
      · intro e
        exact absurd hb (by rw [e]; exact Nat.not_lt_of_le (Nat.le_add_right _ _))
section
variable {σ : St} {H : Hp} {ta : TA} {R : It → Hp → Prop} {K : PySem.W.Frag}
def qZipSL (K : PySem.W.Frag) (vs : List V) (H1 : Hp) (R : It → Hp → Prop) : Prop := ∃ x b ys, vs = [.str x, .ref b] ∧ SqL K H1 b ys ∧ R (ItzSL K x b) H1
theorem rd_iZipSL (h : ta σ H fun vs H1 => qZipSL K vs H1 R) : iZipSL K ta σ H R := h
theorem rd_zipSL {l : List Nat} {b : Addr} {ys : List V} (h : SqL K H b ys) (q : R (ItzSL K (S l) b) H) : qZipSL K [.str (S l), .ref b] H R := ⟨S l, b, ys, rfl, h, q⟩
theorem walk_zipSL {l : List Nat} {b : Addr} {ys : List V} (hl : ys.length ≤ l.length) : Walk (ItzSL K (S l) b) ys.length (fun H => SqL K H b ys) (YPair (fun i => l[i]?.map fun c => V.str (S [c])) (fun i => ys[i]?)) := by
  have e1 : (S l).cps.size = l.length := by simp
  refine ⟨fun i H hi h => ⟨ys, h, by omega⟩, fun H h => ⟨ys, h, by omega⟩, fun i H v H' _ hq y => ?_⟩
  obtain ⟨T, c, d, h1, h2, h3, h4, h5⟩ := y
  refine ⟨T, .str ⟨#[c]⟩, d, h1, h2, h3, ?_, h5 ys hq⟩
  have : l[i]? = some c := by simpa using h4
  dsimp only
  rw [this]
  rfl
end
end My
/-! enumerate of a tuple; dict(zip(a list, a range)) with tuples as keys. -/
namespace My
open PySem PySem.Spec L2 SX
open PyProof.Rows hiding St
theorem enT_new {v : Value} {o : Obj} {G : Heap → Prop} (B : Begins v o G) : Meets (Builtin.«enumerate.__new__» ⟨[.type "enumerate", v], []⟩) (fun _ R s => G s.heap ∧
    R (.ok (.ret (.ref (s.heap.push o).objs.size))) { s with heap := (s.heap.push o).push { cls := .type "enumerate", data := .fields #[.none, .bool false, .ref s.heap.objs.size, rawInt 0, .none, .none] } }) :=
  .of_wp fun prog w A R s hh => by
    obtain ⟨hp, ge, dr, tk, os⟩ := s
    obtain ⟨h1, h2⟩ := hh
    have hsub := sub_enumerate
    have it : ∀ {A' : Around} {E Q : Value → Shared → Prop}, Q (.ref hp.objs.size) ⟨hp.push o, ge, dr, tk, os⟩ → wpAny (model prog w) A' (pyIter v) Q E ⟨hp, ge, dr, tk, os⟩ := fun q => B.iter prog w _ _ ⟨hp, ge, dr, tk, os⟩ _ h1 q
    wp_walk using it
    refine wpAny_stack_any fun st => wpAny_pure ?_
    split
    · rename_i c _ _ _ _ _
      cases (c == Value.type "enumerate")
      · wp_walk using it
        exact ⟨_, rfl, h2⟩
      · wp_walk using it
        exact ⟨_, rfl, h2⟩
    · wp_walk using it
      exact ⟨_, rfl, h2⟩
section
variable {prog : Program} {w : World} {A : Around} {E : Value → Shared → Prop} {s : Shared}
theorem enT_begins {v : Value} {o : Obj} {G : Heap → Prop} {Q : Value → Shared → Prop} (B : Begins v o G) (h1 : G s.heap)
    (h : ∀ h', IsEnum h' (s.heap.objs.size + 1) s.heap.objs.size 0 .none → h'.get? s.heap.objs.size = some o → h'.objs.size = s.heap.objs.size + 2 → (∀ b u, s.heap.get? b = some u → h'.get? b = some u) → Q (.ref (s.heap.objs.size + 1)) { s with heap := h' }) :
    wpAny (model prog w) A (call (.type "enumerate") [v]) Q E s := by
  refine callType_new F.called_enumerate (by decide) (F.typeCall_enumerate_1 _) (F.newCall_enumerate_1 _) (fun obj => F.args_object_init_2 obj _) F.entry_enumerate_new (enT_new B) ⟨h1, ?_⟩
  have sz : (s.heap.push o).objs.size = s.heap.objs.size + 1 := Heap.size_push ..
  show _ ∧ _
  rw [sz]
  have e1 : ((s.heap.push o).push { cls := .type "enumerate", data := .fields #[.none, .bool false, .ref s.heap.objs.size, rawInt 0, .none, .none] }).get? (s.heap.objs.size + 1) = some { cls := .type "enumerate", data := .fields #[.none, .bool false, .ref s.heap.objs.size, rawInt 0, .none, .none] } := by
    have := Heap.get?_push_size (s.heap.push o) (o := { cls := .type "enumerate", data := .fields #[.none, .bool false, .ref s.heap.objs.size, rawInt 0, .none, .none] }) rfl
    rwa [sz] at this
  exact ⟨⟨_, e1, rfl⟩, h _ e1 (Heap.get?_push_of_some _ (Heap.get?_push_size _ B.free)) (by rw [Heap.size_push, sz]) fun b u x => Heap.get?_push_of_some _ (Heap.get?_push_of_some _ x)⟩
end
/-- the items of the tuple at a, numbered, in new pairs -/
def IteT (K : PySem.W.Frag) (a : Addr) : It where
  go := fun i H => ∃ ys, SqT K H a ys ∧ i < ys.length
  yld := fun i H v H' => ∃ T x, v = .ref T ∧ H T = none ∧ H' = upd H T (.tup [.int (i : Nat), x]) ∧ ∀ ys, SqT K H a ys → ys[i]? = some x
  stop := fun i H => ∃ ys, SqT K H a ys ∧ i = ys.length
theorem tup_inj {X : Cx} {pins : List (Addr × Obj)} {σ : L2.St} {H : Hp} {s : Shared} {a : Addr} {xs ys : List V} (I : Inv X pins σ H s) (h1 : SqT X.K H a xs) (h2 : SqT X.K H a ys) : xs = ys := by
  exact I.tuple_inj h1 h2
theorem turn_enT {P : Program} {w : World} {K : PySem.W.Frag} {elts : List Expr} {kk : Nat} {tpos : Pos} (a e it : Addr) (hae : a ≠ it) :
    Turn P w K (.Tuple elts kk tpos) (IteT K a) [e, it] e (fun i h => (∃ old, IsEnum h e it ((i : Nat) : Int) old) ∧ h.IsTupleIter it a i ∧ e ≠ it ∧ e ≠ a) := by
  have two : ∀ {b : Addr} {G : Addr → Prop}, b ∈ [e, it] → G e → G it → G b := fun {b G} hb g1 g2 => by
    rcases List.mem_cons.mp hb with z | z
    · rw [z]; exact g1
    · rw [List.mem_singleton.mp z]; exact g2
  refine { mem := by simp, obj := ?_, keep := ?_, item := ?_, done := ?_, self := fun A i s Q E st h => let ⟨⟨_, he⟩, _⟩ := st; wpAny_pyIter_enum he h }
  · rintro i h ⟨⟨old, he⟩, ⟨o, ho, hc, hd⟩, _⟩ b hb
    refine two (G := fun b => ∃ o, h.get? b = some o ∧ ∀ v, o.data ≠ .cell v) hb ⟨_, he, fun v q => (nomatch q)⟩ ⟨o, ho, fun v q => ?_⟩
    rw [hd] at q; cases q
  · rintro i h h' ⟨⟨old, he⟩, hi, hne⟩ k
    exact ⟨⟨old, k e (by simp) _ he⟩, hi.at fun o q => k it (by simp) o q, hne⟩
  · intro X hP hw hK hc i pins s σ H E I hf st hg
    subst hP hw hK
    obtain ⟨⟨old, he⟩, hit, hne, hea⟩ := st
    obtain ⟨ys, hq, hlt⟩ := hg
    obtain ⟨its, rv, pl, hz⟩ := I.tuple hq
    have len := rv.length
    have hel : e < s.heap.objs.size := Heap.lt_size he
    have hil : it < s.heap.objs.size := by obtain ⟨_, q, _⟩ := hit; exact Heap.lt_size q
    have D := Draws.tuple (prog := X.prog) (w := X.w) (A := X.A.in1) (I.ok.hd hc) it a hae its.toArray
    refine wpAny_pyNext_enum_itemD (n := its.toArray.size) D he ⟨hit, pl⟩ (by rw [List.size_toArray]; omega) hne (by simp only [List.mem_cons, List.not_mem_nil, or_false, not_or]; exact ⟨hne, hea⟩) fun u h' tk hu ho hit' hT hsz hk => ?_
    obtain ⟨w1, hw1, rw1⟩ := rv.get (List.getElem?_eq_getElem hlt)
    have hu2 : its[i]? = some u := by simpa using hu
    rw [hw1] at hu2
    cases hu2
    refine ⟨_, rfl, wpAny_letOwnedTupleGo_enum (s := { s with heap := h', toks := tk + 1 }) ho fun h'' he' sb => ?_⟩
    have hT2 : h''.get? s.heap.objs.size = some { cls := .type "tuple", data := .seq #[.int i tk, u] } := (sb.2 _ (Nat.ne_of_gt hel)).trans hT
    have new : ObjOk X.prog X.w (upd H s.heap.objs.size (.tup [.int (i : Nat), ys[i]])) h'' s.heap.objs.size (.tup [.int (i : Nat), ys[i]]) :=
      ⟨by show 2 ≤ sizeLine; decide, [.int i tk, u], .cons ⟨_, rfl⟩ (.cons rw1 .nil), ⟨_, hT2, rfl, _, rfl⟩⟩
    have I1 : Inv X pins σ (upd H s.heap.objs.size (.tup [.int (i : Nat), ys[i]])) { s with heap := h'', toks := tk + 1 } := by
      refine I.turnedNew (t' := tk + 1) (ch := [e, it]) (fun b ob hb q => ?_) hf (Nat.le_refl _) new
      simp only [List.mem_cons, List.not_mem_nil, or_false, not_or] at hb
      exact (sb.2 b hb.1).trans (hk b ob hb.1 hb.2 q)
    refine ⟨.ref s.heap.objs.size, _, I1, rfl, ⟨_, ys[i], rfl, I.hok.fresh (Nat.le_refl _), rfl, fun zs hz2 => by rw [tup_inj I hz2 hq]; exact List.getElem?_eq_getElem hlt⟩, ⟨⟨u, ?_⟩, hit'.1.at fun o q => (sb.2 it (Ne.symm hne)).trans q, hne, hea⟩, fun b hb => ?_⟩
    · have e1 : ((i + 1 : Nat) : Int) = (i : Int) + 1 := by omega
      rw [e1]; exact he'
    · have hb' : b < s.heap.objs.size := two (G := fun b => b < s.heap.objs.size) hb hel hil
      rw [upd_ne (Nat.ne_of_lt hb')]
      exact (hf b hb).1
  · intro X hP hw hK hc i pins s σ H E I hf st hg
    subst hP hw hK
    obtain ⟨⟨old, he⟩, hit, hne, hea⟩ := st
    obtain ⟨ys, hq, hend⟩ := hg
    obtain ⟨its, rv, pl, hz⟩ := I.tuple hq
    have len := rv.length
    have ei : its.toArray.size = i := by rw [List.size_toArray]; omega
    have D := Draws.tuple (prog := X.prog) (w := X.w) (A := X.A.in1) (I.ok.hd hc) it a hae its.toArray
    refine wpAny_pyNext_enum_endD (n := its.toArray.size) D he (by rw [ei]; exact ⟨hit, pl⟩) fun h' eb => ⟨rfl, I.turnedL (t' := s.toks) (ch := [e, it]) (fun b o hb q => eb b o ?_ q) hf⟩
    simp only [List.mem_cons, List.not_mem_nil, or_false, not_or] at hb
    exact hb.2
def iEnT (K : PySem.W.Frag) (ta : TA) : TI := fun σ H R => ta σ H fun vs H1 => ∃ a ys, vs = [.ref a] ∧ SqT K H1 a ys ∧ R (IteT K a) H1
theorem pi_enT {X : Cx} {e : Expr} {ta : TA} {p pos tpos : Pos} {elts : List Expr} {kk : Nat} (hg : Gl X "enumerate") (hm : X.mg "enumerate" = none) (ha : PA X [e] ta) (hs : starEach [e] X.env = [(false, eval e X.env)] := by rfl) :
    PI X (.Tuple elts kk tpos) (.Call (.Name "enumerate" p) [e] [] pos) (iEnT X.K ta) := by
  refine ⟨fun pins s σ H R I h => Call_ (ld_blt I hg hm boot_enumerate (PyProof.Rows.callWith_type1 (thn (ha.run pos pins s σ H _ I h) fun us s1 ⟨vs, H1, I1, r1, q1⟩ => ?_) hs rfl))⟩
  obtain ⟨a, ys, ex, hq, q⟩ := q1
  subst ex
  obtain rfl := Vals.ref1 r1
  obtain ⟨its, rv, pl, hz⟩ := I1.tuple hq
  have hal : a < s1.heap.objs.size := by obtain ⟨o, e, _⟩ := pl; exact Heap.lt_size e
  refine enT_begins (begins_tuple a its.toArray) pl fun h' he hit hsz hk => wpAny_pyIter_enum he ?_
  have I2 : Inv X pins σ H1 { s1 with heap := h' } := I1.kept (t' := s1.toks) hk
  have nb : ∀ k, s1.heap.objs.size + k ≠ a := fun k z => by
    rw [← z] at hal
    exact absurd hal (Nat.not_lt_of_le (Nat.le_add_right _ _))
  refine ⟨s1.heap.objs.size + 1, [s1.heap.objs.size + 1, s1.heap.objs.size], _, _, H1, rfl, I2, turn_enT a (s1.heap.objs.size + 1) s1.heap.objs.size (Ne.symm (nb 0)), ⟨⟨.none, he⟩, ⟨_, hit, rfl, rfl⟩, Nat.succ_ne_self _, nb 1⟩, fun b hb => ?_, q⟩
  have hle : s1.heap.objs.size ≤ b := by
    rcases List.mem_cons.mp hb with z | z
    · rw [z]; exact Nat.le_add_right _ _
    · rw [List.mem_singleton.mp z]; exact Nat.le_refl _
  exact I1.fpOk hle (I1.hok.fresh hle)
section
variable {σ : St} {H : Hp} {ta : TA} {R : It → Hp → Prop} {K : PySem.W.Frag}
def qEnT (K : PySem.W.Frag) (vs : List V) (H1 : Hp) (R : It → Hp → Prop) : Prop := ∃ a ys, vs = [.ref a] ∧ SqT K H1 a ys ∧ R (IteT K a) H1
theorem rd_iEnT (h : ta σ H fun vs H1 => qEnT K vs H1 R) : iEnT K ta σ H R := h
theorem rd_enT {a : Addr} {ys : List V} (h : SqT K H a ys) (q : R (IteT K a) H) : qEnT K [.ref a] H R := ⟨a, ys, rfl, h, q⟩
def qEnL (K : PySem.W.Frag) (vs : List V) (H1 : Hp) (R : It → Hp → Prop) : Prop := ∃ a ys, vs = [.ref a] ∧ SqL K H1 a ys ∧ R (Ite K a) H1
theorem rd_iEnL (h : ta σ H fun vs H1 => qEnL K vs H1 R) : iEnum K ta σ H R := h
theorem rd_enL {a : Addr} {ys : List V} (h : SqL K H a ys) (q : R (Ite K a) H) : qEnL K [.ref a] H R := ⟨a, ys, rfl, h, q⟩
theorem walk_enT {a : Addr} {ys : List V} : Walk (IteT K a) ys.length (fun H => SqT K H a ys) (YPair (fun i => some (.int (i : Nat))) (fun i => ys[i]?)) := by
  refine ⟨fun i H hi q => ⟨ys, q, hi⟩, fun H q => ⟨ys, q, rfl⟩, fun i H v H' _ q y => ?_⟩
  obtain ⟨T, x, h1, h2, h3, h4⟩ := y
  exact ⟨T, .int (i : Nat), x, h1, h2, h3, rfl, h4 ys q⟩
end
end My
/-! dict(zip(a list of tuples, range(n))). -/
namespace My
open PySem PySem.Spec L2 SX
open PyProof.Rows hiding St
section
variable {prog : Program} {w : World} {A : Around} {E : Value → Shared → Prop} {s : Shared}
theorem next_rg {it : Addr} {x left : Int} {Q : Value → Shared → Prop} (hit : IsRangeIter s.heap it x left 1) (hleft : 0 < left)
    (hQ : ∀ h', IsRangeIter h' it (x + 1) (left - 1) 1 → Heap.SameBut it s.heap h' → Q (.int x s.toks) { s with heap := h', toks := s.toks + 1 }) : wpAny (model prog w) A (Builtin.SmallTypes.nextOf (.ref it)) Q E s := by
  have hT : s.TypeIs (.ref it) "range_iterator" := ⟨_, hit, rfl⟩
  unfold Builtin.SmallTypes.nextOf
  refine wpAny_bind (wpAny_callSpecial?_slot (name := Str.ofString "__next__") hT F.slot_range_iterator_next
    (call_meets F.slot_range_iterator_next hT F.entry_range_iterator_next (F.args_range_iterator_next_1 _) (AutoRange.range_iterator___next___range_iterator_1 it x left 1 (by omega)) ⟨hit, ?_⟩))
  exact wpAny_pure (hQ _ (Heap.get?_update_self _ (Heap.get?_update_self _ hit rfl) rfl) ((Heap.SameBut.update ..).trans (Heap.SameBut.update ..)))
theorem end_rg {it : Addr} {x left : Int} {Q : Value → Shared → Prop} (hh : A.handled = none) (hit : IsRangeIter s.heap it x left 1) (hleft : left ≤ 0)
    (hE : ∀ h' e, Heap.ExtBut it s.heap h' → (∃ o, h'.get? e = some o ∧ o.cls = .type "StopIteration") → E (.ref e) { s with heap := h' }) : wpAny (model prog w) A (Builtin.SmallTypes.nextOf (.ref it)) Q E s := by
  have hT : s.TypeIs (.ref it) "range_iterator" := ⟨_, hit, rfl⟩
  unfold Builtin.SmallTypes.nextOf
  refine wpAny_bind (wpAny_callSpecial?_slot (name := Str.ofString "__next__") hT F.slot_range_iterator_next
    (wpAny_call_entry F.slot_range_iterator_next hT F.entry_range_iterator_next ?_ (F.args_range_iterator_next_1 _)))
  show wpAny _ _ (field (.ref it) 0 >>= _) _ _ s
  refine wpAny_bind (wpAny_field hit rfl (x := rawInt x) rfl ?_)
  show wpAny _ _ (field (.ref it) 1 >>= _) _ _ s
  refine wpAny_bind (wpAny_field hit rfl (x := rawInt left) rfl ?_)
  show wpAny _ _ (field (.ref it) 2 >>= _) _ _ s
  refine wpAny_bind (wpAny_field hit rfl (x := rawInt 1) rfl ?_)
  show wpAny _ _ (if left ≤ 0 then _ else _) _ _ s
  rw [if_pos hleft]
  refine wpAny_bind (wpAny_rule ?_)
  refine wpAny_bind ?_
  show wpAny _ _ (newExc (.type "StopIteration") [] >>= _) _ _ _
  refine wpAny_bind ?_
  simp only [newExc, newTuple]
  refine wpAny_bind (wpAny_newObj_type ?_ (by size_fits))
  refine wpAny_bind (m := firstArgMember _ _) (wpAny_of_eq (a := Value.none) (by first | rfl | (simp only [firstArgMember]; rfl)) ?_)
  refine wpAny_newObj_type ?_ (by size_fits)
  simp only [raiseNew]
  refine wpAny_bind (wpAny_handled ?_)
  first | rw [show A.in1.handled = none from hh] | rw [hh]
  refine wpAny_bind (wpAny_pure (wpAny_throw ?_))
  exact hE _ _ (((Heap.ExtBut.refl it s.heap).push _).push _) ⟨_, Heap.get?_push_size _ rfl, rfl⟩
theorem draws_rg (hh : A.handled = none) (it : Addr) (n : Nat) : Draws prog w A it [it] n (fun i v => ∃ t, v = .int (i : Nat) t) (fun i h => IsRangeIter h it (i : Nat) ((n : Int) - (i : Nat)) 1) where
  live := fun _ _ st => ⟨_, st⟩
  frame := fun _ _ _ st hk => hk it (by simp) _ st
  item := fun i s Q E hi st hQ => by
    refine next_rg st (by omega) fun h' a b => ?_
    refine hQ _ h' _ ⟨_, rfl⟩ ?_ b
    rw [show ((i + 1 : Nat) : Int) = (i : Nat) + 1 by omega, show (n : Int) - ((i : Nat) + 1) = (n : Int) - (i : Nat) - 1 by omega]
    exact a
  done := fun s Q E st hE => end_rg hh st (by omega) hE
theorem begins_rg (r : Addr) (n : Nat) (t u v : Tok) (hn : n ≤ 100000) : Begins (.ref r) { cls := .type "range_iterator", data := .fields #[rawInt 0, rawInt (n : Nat), rawInt 1] } fun h => IsRange h r 0 n 1 t u v where
  iter := fun prog w A E s Q hl h => by
    refine wpAny_pyIter_range hl (small_one (by omega) (by omega) (by omega) (by omega)) ?_
    rw [rangeSize_nat 0 n, show (((n : Int) - 0).toNat) = n by omega]
    exact h
  keeps := fun h h' x hk => hk _ _ x
  free := rfl
variable {z TI TO T i1 i2 : Addr} {fp1 fp2 : List Addr} {n1 n2 i : Nat} {P1 P2 : Nat → Value → Prop} {St1 St2 : Nat → Heap → Prop} {f : Bool} {oT : Obj}
theorem zipH_item {Q : Value → Shared → Prop} (S : ZipSep2 z TI TO i1 i2 fp1 fp2) (D1 : Draws prog w A i1 fp1 n1 P1 St1) (D2 : Draws prog w A i2 fp2 n2 P2 St2) (hz : IsZipHeld s.heap z TI TO T f) (hT : s.heap.get? T = some oT) (hTI : IsTupOf2 s.heap TI (.ref i1) (.ref i2))
    (st1 : St1 i s.heap) (st2 : St2 i s.heap) (l1 : i < n1) (l2 : i < n2)
    (hQ : ∀ x1 x2 h' tk, P1 i x1 → P2 i x2 → IsZipHeld h' z TI TO T true → St1 (i + 1) h' → St2 (i + 1) h' → IsTupOf2 h' s.heap.objs.size x1 x2 → h'.objs.size = s.heap.objs.size + 1 → (∀ c o, c ≠ z → c ≠ i1 → c ≠ i2 → s.heap.get? c = some o → h'.get? c = some o) →
      Q (.ref s.heap.objs.size) { s with heap := h', toks := tk }) :
    wpAny (model prog w) A (Builtin.«zip.__next__» ⟨[.ref z], []⟩) (fun fin s' => ∃ v, fin = .done (.ret v) ∧ Q v s') E s := by
  obtain ⟨hp, g, d, tk0, os⟩ := s
  show wpAny _ _ (field (.ref z) 2 >>= _) _ _ _
  refine wpAny_bind (wpAny_field hz rfl (x := .bool false) rfl ?_)
  show wpAny _ _ (field (.ref z) 3 >>= _) _ _ _
  refine wpAny_bind (wpAny_field hz rfl (x := .ref TI) rfl ?_)
  refine wpAny_bind (wpAny_seqItems hTI rfl ?_)
  show wpAny _ _ (Builtin.SmallTypes.ownedTupleIsFree (.ref z) >>= _) _ _ _
  refine wpAny_bind (wpAny_tupleHeld_zip hz hT fun g0 hz0 hs0 => ?_)
  replace hs0 : Heap.SameBut z hp g0 := hs0
  simp only [Bool.false_eq_true, if_false]
  refine wpAny_bind ?_
  rw [← Array.forIn_toList]
  simp only [List.forIn_cons, List.forIn_nil]
  refine wpAny_bind (wpAny_bind (wpAny_holding ?_))
  show wpAny _ _ (Builtin.SmallTypes.nextOf (.ref i1) >>= _) _ _ ⟨g0, g, d, tk0, os⟩
  refine wpAny_bind (D1.item i _ _ _ l1 (D1.over st1 hs0 S.zf1) fun x1 p1 tk1 hx1 sn1 hp1 => wpAny_pure ?_)
  replace hp1 : Heap.SameBut i1 g0 p1 := hp1
  refine wpAny_pure ?_
  refine wpAny_bind (wpAny_bind (wpAny_holding ?_))
  show wpAny _ _ (Builtin.SmallTypes.nextOf (.ref i2) >>= _) _ _ ⟨p1, g, d, tk1, os⟩
  refine wpAny_bind (D2.item i _ _ _ l2 (D2.over (D2.over st2 hs0 S.zf2) hp1 S.sep1_2) fun x2 p2 tk2 hx2 sn2 hp2 => wpAny_pure ?_)
  replace hp2 : Heap.SameBut i2 p1 p2 := hp2
  refine wpAny_pure (wpAny_pure ?_)
  show wpAny _ _ (newTuple [x1, x2] >>= _) _ _ _
  refine wpAny_bind (wpAny_newTuple ?_)
  have hsz : p2.objs.size = hp.objs.size := by rw [hp2.1, hp1.1, hs0.1]
  have hz2 : IsZipHeld p2 z TI TO T true := hp2.extBut _ _ S.zi2 (hp1.extBut _ _ S.zi1 hz0)
  have hk : ∀ c o, c ≠ z → c ≠ i1 → c ≠ i2 → hp.get? c = some o → p2.get? c = some o := fun c o c1 c2 c3 e => hp2.extBut _ _ c3 (hp1.extBut _ _ c2 (hs0.extBut _ _ c1 e))
  have up : ∀ c o, p2.get? c = some o → (p2.push { cls := .type "tuple", data := .seq #[x1, x2] }).get? c = some o := fun c o e => Heap.get?_push_of_some _ e
  have q1 : St1 (i + 1) p2 := D1.over sn1 hp2 S.sep2_1
  have hp3 : IsTupOf2 (p2.push { cls := .type "tuple", data := .seq #[x1, x2] }) p2.objs.size x1 x2 := Heap.get?_push_size _ rfl
  have hz4 : (p2.push { cls := .type "tuple", data := .seq #[x1, x2] }).objs.size = p2.objs.size + 1 := Heap.size_push ..
  refine wpAny_pure ⟨_, rfl, ?_⟩
  show Q (.ref p2.objs.size) _
  rw [hsz] at hp3 hz4 ⊢
  exact hQ x1 x2 _ tk2 hx1 hx2 (up _ _ hz2) (D1.frame _ _ _ q1 fun b hb o e => up b o e) (D2.frame _ _ _ sn2 fun b hb o e => up b o e) hp3 hz4 fun c o c1 c2 c3 e => up c o (hk c o c1 c2 c3 e)
theorem zipH_end {Q : Fin → Shared → Prop} (S : ZipSep2 z TI TO i1 i2 fp1 fp2) (D1 : Draws prog w A i1 fp1 n1 P1 St1) (hz : IsZipHeld s.heap z TI TO T f) (hT : s.heap.get? T = some oT) (hTI : IsTupOf2 s.heap TI (.ref i1) (.ref i2))
    (st1 : St1 n1 s.heap) (hE : ∀ h' tk e, (∀ c o, c ≠ z → c ≠ i1 → s.heap.get? c = some o → h'.get? c = some o) → (∃ o, h'.get? e = some o ∧ o.cls = .type "StopIteration") → E (.ref e) { s with heap := h', toks := tk }) :
    wpAny (model prog w) A (Builtin.«zip.__next__» ⟨[.ref z], []⟩) Q E s := by
  obtain ⟨hp, g, d, tk0, os⟩ := s
  show wpAny _ _ (field (.ref z) 2 >>= _) _ _ _
  refine wpAny_bind (wpAny_field hz rfl (x := .bool false) rfl ?_)
  show wpAny _ _ (field (.ref z) 3 >>= _) _ _ _
  refine wpAny_bind (wpAny_field hz rfl (x := .ref TI) rfl ?_)
  refine wpAny_bind (wpAny_seqItems hTI rfl ?_)
  show wpAny _ _ (Builtin.SmallTypes.ownedTupleIsFree (.ref z) >>= _) _ _ _
  refine wpAny_bind (wpAny_tupleHeld_zip hz hT fun g0 hz0 hs0 => ?_)
  replace hs0 : Heap.SameBut z hp g0 := hs0
  simp only [Bool.false_eq_true, if_false]
  refine wpAny_bind ?_
  rw [← Array.forIn_toList]
  simp only [List.forIn_cons, List.forIn_nil]
  refine wpAny_bind (wpAny_bind (wpAny_holding ?_))
  show wpAny _ _ (Builtin.SmallTypes.nextOf (.ref i1) >>= _) _ _ ⟨g0, g, d, tk0, os⟩
  refine wpAny_bind (D1.done ⟨g0, g, d, tk0, os⟩ _ _ (D1.over st1 hs0 S.zf1) fun q e hq he => ?_)
  replace hq : Heap.ExtBut i1 g0 q := hq
  exact hE q tk0 e (fun c o c1 c2 x => hq _ _ c2 (hs0.extBut _ _ c1 x)) he
end
section
variable {prog : Program} {w : World}
/-- dict's argument: zip of two things that are told by what they draw, of one length -/
theorem arg_zipD {z TI TO i1 i2 : Addr} {fp1 fp2 : List Addr} {n : Nat} {P1 P2 : Nat → Value → Prop} {St1 St2 : Nat → Heap → Prop} (S : ZipSep2 z TI TO i1 i2 fp1 fp2) (D1 : ∀ A : Around, A.handled = none → Draws prog w A i1 fp1 n P1 St1) (D2 : ∀ A : Around, A.handled = none → Draws prog w A i2 fp2 n P2 St2)
    (th : ∀ h, St1 0 h → St2 0 h → ∀ b, b ∈ fp1 ∨ b ∈ fp2 → ∃ o, h.get? b = some o) :
    PairArg prog w "zip" z (z :: TI :: TO :: (fp1 ++ fp2)) [z, TO, i1, i2] n (fun i k v => P1 i k ∧ P2 i v)
      (fun h => IsZip h z TI TO .none ∧ IsTupOf2 h TI (.ref i1) (.ref i2) ∧ (∃ a b, IsTupOf2 h TO a b) ∧ St1 0 h ∧ St2 0 h) where
  type := fun s ok => ⟨_, ok.1, rfl⟩
  notDict := by decide
  keep := fun h h' ⟨hz, hTI, ⟨a, b, hTO⟩, h1, h2⟩ hk => by
    have A0 : callerA.handled = none := rfl
    exact ⟨hk _ _ hz, hk _ _ hTI, ⟨a, b, hk _ _ hTO⟩, (D1 callerA A0).frame _ _ _ h1 fun b _ o e => hk b o e, (D2 callerA A0).frame _ _ _ h2 fun b _ o e => hk b o e⟩
  there := fun h ⟨hz, hTI, ⟨a, c, hTO⟩, h1, h2⟩ b hb => by
    rcases List.mem_cons.mp hb with e | hb
    · rw [e]; exact ⟨_, hz⟩
    rcases List.mem_cons.mp hb with e | hb
    · rw [e]; exact ⟨_, hTI⟩
    rcases List.mem_cons.mp hb with e | hb
    · rw [e]; exact ⟨_, hTO⟩
    · exact th h h1 h2 b (List.mem_append.mp hb)
  sub := fun b hb => by
    simp only [List.mem_cons, List.not_mem_nil, or_false] at hb
    rcases hb with e | e | e | e
    · rw [e]; exact List.mem_cons_self
    · rw [e]; simp
    · rw [e]; exact List.mem_cons_of_mem _ (List.mem_cons_of_mem _ (List.mem_cons_of_mem _ (List.mem_append_left _ S.mem1)))
    · rw [e]; exact List.mem_cons_of_mem _ (List.mem_cons_of_mem _ (List.mem_cons_of_mem _ (List.mem_append_right _ S.mem2)))
  noKeys := fun A s Q E hA ok h => getAttrOr_miss_zip ok.1 rfl rfl rfl zip_no_keys (by decide +kernel) hA h
  iter := fun A s d Q E hA ⟨hz, hTI, ⟨a, b, hTO⟩, h1, h2⟩ hd hdf h => by
    have dz : d ≠ z := fun e => hdf (by rw [e]; exact List.mem_cons_self)
    have dTI : d ≠ TI := fun e => hdf (by rw [e]; simp)
    have dTO : d ≠ TO := fun e => hdf (by rw [e]; simp)
    have d1 : d ∉ fp1 := fun e => hdf (List.mem_cons_of_mem _ (List.mem_cons_of_mem _ (List.mem_cons_of_mem _ (List.mem_append_left _ e))))
    have d2 : d ∉ fp2 := fun e => hdf (List.mem_cons_of_mem _ (List.mem_cons_of_mem _ (List.mem_cons_of_mem _ (List.mem_append_right _ e))))
    have di1 : d ≠ i1 := fun e => d1 (by rw [e]; exact S.mem1)
    have di2 : d ≠ i2 := fun e => d2 (by rw [e]; exact S.mem2)
    refine wpAny_pyIter_zip hz (h z [z, TO, i1, i2] (fun i h => IsTupOf2 h TI (.ref i1) (.ref i2) ∧ St1 i h ∧ St2 i h ∧ ((IsZip h z TI TO .none ∧ ∃ a b, IsTupOf2 h TO a b) ∨ ∃ T f oT, IsZipHeld h z TI TO T f ∧ h.get? T = some oT ∧ T ≠ z ∧ T ≠ i1 ∧ T ≠ i2 ∧ T ≠ d)) s.heap s.toks ?_
      ⟨hTI, h1, h2, .inl ⟨hz, a, b, hTO⟩⟩ (fun _ _ e => e) fun b hb => .inl hb)
    have E1 := D1 A.in1 hA
    have E2 := D2 A.in1 hA
    refine { off := fun hm => ?_, frame := fun i h₁ h₂ st hk => ?_, item := fun i s₁ Q₁ E₁ hi st hds hQ => ?_, done := fun s₁ Q₁ E₁ st hQ => ?_ }
    · simp only [List.mem_cons, List.not_mem_nil, or_false] at hm
      rcases hm with e | e | e | e
      · exact dz e
      · exact dTO e
      · exact di1 e
      · exact di2 e
    · obtain ⟨hTI, h1, h2, hz⟩ := st
      refine ⟨hk _ _ (Ne.symm dTI) hTI, E1.frame _ _ _ h1 fun b hb o e => hk b o (fun q => d1 (q ▸ hb)) e, E2.frame _ _ _ h2 fun b hb o e => hk b o (fun q => d2 (q ▸ hb)) e, ?_⟩
      rcases hz with ⟨hz, a, b, hTO⟩ | ⟨T, f, oT, hz, hT, r1, r2, r3, r4⟩
      · exact .inl ⟨hk _ _ (Ne.symm dz) hz, a, b, hk _ _ (Ne.symm dTO) hTO⟩
      · exact .inr ⟨T, f, oT, hk _ _ (Ne.symm dz) hz, hk _ _ r4 hT, r1, r2, r3, r4⟩
    · obtain ⟨hTI, h1, h2, hz⟩ := st
      have lt : ∀ {c o}, s₁.heap.get? c = some o → s₁.heap.objs.size ≠ c := fun e => Nat.ne_of_gt (Heap.lt_size e)
      have m1 : s₁.heap.objs.size ≠ i1 := let ⟨_, e⟩ := E1.live _ _ h1; lt e
      have m2 : s₁.heap.objs.size ≠ i2 := let ⟨_, e⟩ := E2.live _ _ h2; lt e
      rcases hz with ⟨hz, a, b, hTO⟩ | ⟨T, f, oT, hz, hT, r1, r2, r3, r4⟩
      · refine wpAny_pyNext_zipD2_item S E1 E2 hz hTI hTO h1 h2 hi hi fun x1 x2 h' tk y1 y2 b1 b2 e1 e2 b5 b6 hk => ?_
        exact hQ s₁.heap.objs.size _ _ h' tk ⟨y1, y2⟩ (.inl ⟨_, b5, rfl, _, rfl⟩)
          ⟨hk _ _ S.TIz S.TITO S.TIi1 S.TIi2 hTI, e1, e2, .inr ⟨s₁.heap.objs.size, false, _, b1, b5, lt hz, m1, m2, Nat.ne_of_gt hds⟩⟩
          fun c o hc e => by
            simp only [List.mem_cons, List.not_mem_nil, or_false, not_or] at hc
            exact hk c o hc.1 hc.2.1 hc.2.2.1 hc.2.2.2 e
      · have hTy : s₁.TypeIs (.ref z) "zip" := ⟨_, hz, rfl⟩
        unfold pyNext
        refine wpAny_bind (wpAny_attempt (wpAny_callSpecial?_slot (name := Str.ofString "__next__") hTy F.slot_zip_next (wpAny_call_entry F.slot_zip_next hTy F.entry_zip_next
          (zipH_item S E1 E2 hz hT hTI h1 h2 hi hi fun x1 x2 h' tk y1 y2 b1 e1 e2 b5 b6 hk => wpAny_pure ?_) (F.args_zip_next_1 _))))
        exact hQ s₁.heap.objs.size _ _ h' tk ⟨y1, y2⟩ (.inl ⟨_, b5, rfl, _, rfl⟩)
          ⟨hk _ _ S.TIz S.TIi1 S.TIi2 hTI, e1, e2, .inr ⟨T, true, oT, b1, hk _ _ r1 r2 r3 hT, r1, r2, r3, r4⟩⟩
          fun c o hc e => by
            simp only [List.mem_cons, List.not_mem_nil, or_false, not_or] at hc
            exact hk c o hc.1 hc.2.2.1 hc.2.2.2 e
    · obtain ⟨hTI, h1, h2, hz⟩ := st
      rcases hz with ⟨hz, a, b, hTO⟩ | ⟨T, f, oT, hz, hT, r1, r2, r3, r4⟩
      · refine wpAny_pyNext_zipD2_end S E1 E2 hz hTI hTO h1 h2 (Nat.le_refl _) (Nat.le_refl _) (.inl rfl) fun h' tk hk => hQ h' tk fun c o hc e => ?_
        simp only [List.mem_cons, List.not_mem_nil, or_false, not_or] at hc
        exact hk c o hc.1 hc.2.1 hc.2.2.1 hc.2.2.2 e
      · have hTy : s₁.TypeIs (.ref z) "zip" := ⟨_, hz, rfl⟩
        unfold pyNext
        refine wpAny_bind (wpAny_attempt (wpAny_callSpecial?_slot (name := Str.ofString "__next__") hTy F.slot_zip_next
          (wpAny_call_entry F.slot_zip_next hTy F.entry_zip_next (zipH_end S E1 hz hT hTI h1 fun h' tk e hk he => ?_) (F.args_zip_next_1 _))))
        obtain ⟨o, ho, hc⟩ := he
        refine wpAny_bind (wpAny_isInstance (T := "StopIteration") (b := true) ⟨o, ho, hc⟩ isSubtype_stop ?_)
        refine wpAny_pure (hQ _ _ fun c o hc e => ?_)
        simp only [List.mem_cons, List.not_mem_nil, or_false, not_or] at hc
        exact hk c o hc.1 hc.2.2.1 e
end
end My
/-! The rule for dict(zip(xs, range(n))), xs a list of tuples. -/
namespace My
open PySem PySem.Spec L2 SX
open PyProof.Rows hiding St
/-- the tuples at the addresses, told by their items -/
def KeysAt (H : Hp) (ka : List (List Key × Addr)) : Prop := ∀ p ∈ ka, H p.2 = some (.tup (p.1.map kV))
/-- numbered keys -/
def numK (n : Nat) (ks : List (List Key)) : List (List Key × V) := (ks.zipIdx n).map fun p => (p.1, V.int ((p.2 : Nat) : Int))
theorem numK_len (n : Nat) (ks : List (List Key)) : (numK n ks).length = ks.length := by unfold numK; simp
/-- what stands in the dict so far -/
def Filled (ka : List (List Key × Addr)) (i : Nat) (ps : List (List Key × Addr × Value)) : Prop := ps.length = i ∧ ∀ (j : Nat) (p : List Key × Addr), j < i → ka[j]? = some p → ∃ t, ps[j]? = some (p.1, p.2, Value.int ((j : Nat) : Int) t)
theorem Filled.keys {ka : List (List Key × Addr)} {i : Nat} {ps : List (List Key × Addr × Value)} (f : Filled ka i ps) (hi : i ≤ ka.length) : ps.map (·.1) = (ka.take i).map (·.1) := by
  refine List.ext_getElem? fun j => ?_
  rw [List.getElem?_map, List.getElem?_map]
  by_cases hj : j < i
  · have h1 : j < ka.length := by omega
    obtain ⟨t, e⟩ := f.2 j _ hj (List.getElem?_eq_getElem h1)
    rw [e, List.getElem?_take_of_lt hj, List.getElem?_eq_getElem h1]; rfl
  · rw [List.getElem?_eq_none (by rw [f.1]; omega), List.getElem?_eq_none (by rw [List.length_take]; omega)]; rfl
theorem paired_num {H : Hp} : ∀ (n : Nat) (ka : List (List Key × Addr)) (ps : List (List Key × Addr × Value)), KeysAt H ka → ps.length = ka.length → (∀ (j : Nat) (p : List Key × Addr), ka[j]? = some p → ∃ t, ps[j]? = some (p.1, p.2, Value.int ((n + j : Nat) : Int) t)) →
    Paired (fun (p : List Key × V) (q : List Key × Addr × Value) => p.1 = q.1 ∧ H q.2.1 = some (.tup (p.1.map kV)) ∧ RelV p.2 q.2.2) (numK n (ka.map (·.1))) ps
  | _, [], [], _, _, _ => .nil
  | _, [], _ :: _, _, h, _ => by cases h
  | _, _ :: _, [], _, h, _ => by cases h
  | n, a :: ka, p :: ps, hk, hl, h => by
    obtain ⟨t, e⟩ := h 0 a rfl
    have e2 : p = (a.1, a.2, .int ((n : Nat) : Int) t) := Option.some.inj e
    have ih := paired_num (n + 1) ka ps (fun q hq => hk q (List.mem_cons_of_mem _ hq)) (by simpa using hl) fun j q hq => by
      have := h (j + 1) q hq
      rwa [show n + (j + 1) = n + 1 + j by omega] at this
    subst e2
    exact .cons ⟨rfl, hk a List.mem_cons_self, ⟨_, rfl⟩⟩ ih
def tDictZR (K : PySem.W.Frag) (te : TE) (tr : St → Hp → (Int → Int → Hp → Prop) → Prop) : TE := fun σ H Q => te σ H fun x H1 => ∃ a, x = .ref a ∧ tr σ H1 fun lo hi H2 => lo = 0 ∧ ∃ ka : List (List Key × Addr), SqL K H2 a (ka.map fun p => V.ref p.2) ∧ hi = ((ka.length : Nat) : Int) ∧ ka.length ≤ 100000 ∧ KeysAt H2 ka ∧ (ka.map (·.1)).Nodup ∧
  ∀ p, H2 p = none → Q (.ref p) (upd H2 p (.dT (numK 0 (ka.map (·.1)))))
section
variable {X : Cx} {e e2 : Expr} {te : TE} {tr : St → Hp → (Int → Int → Hp → Prop) → Prop} {p1 p2 pos1 pos2 : Pos}
theorem pe_dictZR (hc : X.calm = true) (hu : X.A.units + 65 < cLine) (hgd : Gl X "dict") (hmd : X.mg "dict" = none) (hgz : Gl X "zip") (hmz : X.mg "zip" = none) (he : PE X e te) (hr : PRg X e2 tr)
    (n1 : starEach [.Call (.Name "zip" p2) [e, e2] [] pos2] X.env = (false, eval (.Call (.Name "zip" p2) [e, e2] [] pos2) X.env) :: starEach [] X.env := by rfl)
    (n2 : starEach [e, e2] X.env = (false, eval e X.env) :: starEach [e2] X.env := by rfl) (n3 : starEach [e2] X.env = (false, eval e2 X.env) :: starEach [] X.env := by rfl) (np : (backTo pos2 (starEach [e2] X.env)).any (·.1) = false := by rfl) :
    PE X (.Call (.Name "dict" p1) [.Call (.Name "zip" p2) [e, e2] [] pos2] [] pos1) (tDictZR X.K te tr) := by
  refine ⟨fun pins s σ H Q I h => ?_⟩
  refine Call_ (ld_blt I hgd hmd boot_dict (PyProof.Rows.callWith_type1 (args_cons (Call_ (ld_blt I hgz hmz boot_zip (PyProof.Rows.callWith_type1 (args_cons (thn (he.run pins s σ H _ I h) fun v s1 ⟨x, H1, I1, r1, q1⟩ => ?_) n2) n2 np))) n1) n1))
  obtain ⟨a, rfl, q1⟩ := q1
  obtain rfl : v = Value.ref a := r1
  refine args_cons (thn (hr pins s1 σ H1 _ I1 q1) fun v2 s2 ⟨r, lo, hi, t, u, w0, H2, ev, hrg, I2, elo, ka, hs, ehi, hl, hk, hn, q⟩ => args_nil ?_) n3
  subst ev
  subst elo
  subst ehi
  obtain ⟨its, rv, pl, hz⟩ := I2.list hs
  have hlen : its.length = ka.length := by rw [← rv.length, List.length_map]
  have hal : a < s2.heap.objs.size := pl.lt
  have hrl : r < s2.heap.objs.size := Heap.lt_size hrg
  refine zip_begins2 (begins_list a its.toArray) (begins_rg r ka.length t u w0 hl) pl.isList hrg fun h' g1 g2 g3 g4 g5 g6 g7 => args_nil ?_
  have nb : ∀ k, s2.heap.objs.size + k ≠ a := fun k z => by
    rw [← z] at hal
    exact absurd hal (Nat.not_lt_of_le (Nat.le_add_right _ _))
  have nb0 : s2.heap.objs.size ≠ a := nb 0
  have S : ZipSep2 (s2.heap.objs.size + 4) (s2.heap.objs.size + 2) (s2.heap.objs.size + 3) s2.heap.objs.size (s2.heap.objs.size + 1) [s2.heap.objs.size, a] [s2.heap.objs.size + 1] := by
    refine zip_sep2 (fp1 := [a]) (fp2 := []) (fun b hb => ?_) (fun b hb => nomatch hb)
    rw [List.mem_singleton.mp hb]; exact hal
  have P := arg_zipD (prog := X.prog) (w := X.w) (n := ka.length) S (fun A hA => by
      have := Draws.list (prog := X.prog) (w := X.w) hA s2.heap.objs.size a (Ne.symm nb0) its.toArray
      have ez : its.toArray.size = ka.length := by simp [hlen]
      rw [ez] at this
      exact this) (fun A hA => draws_rg hA (s2.heap.objs.size + 1) ka.length) (fun h0 st1 st2 b hb => by
      rcases hb with hb | hb
      · rcases List.mem_cons.mp hb with z | z
        · rw [z]; obtain ⟨⟨o, e, _⟩, _⟩ := st1; exact ⟨o, e⟩
        · rw [List.mem_singleton.mp z]; obtain ⟨_, ⟨o, e, _⟩⟩ := st1; exact ⟨o, e⟩
      · rw [List.mem_singleton.mp hb]; exact ⟨_, st2⟩)
  have ok : IsZip h' (s2.heap.objs.size + 4) (s2.heap.objs.size + 2) (s2.heap.objs.size + 3) .none ∧ IsTupOf2 h' (s2.heap.objs.size + 2) (.ref s2.heap.objs.size) (.ref (s2.heap.objs.size + 1)) ∧ (∃ b c, IsTupOf2 h' (s2.heap.objs.size + 3) b c) ∧
      (h'.IsListIter s2.heap.objs.size a 0 ∧ h'.IsList a its.toArray) ∧ IsRangeIter h' (s2.heap.objs.size + 1) ((0 : Nat) : Int) ((ka.length : Int) - ((0 : Nat) : Int)) 1 := by
    refine ⟨g1, g2, ⟨_, _, g3⟩, ⟨⟨_, g4, rfl, rfl⟩, pl.isList.at fun o e => g7 _ _ e⟩, ?_⟩
    rw [show ((ka.length : Int) - ((0 : Nat) : Int)) = (ka.length : Nat) by omega]
    exact g5
  have hh : X.A.handled = none := I2.ok.hd hc
  have I3 : Inv X pins σ H2 { s2 with heap := h' } := I2.kept (t' := s2.toks) g7
  refine call_dict_arg P ok fun s₃ hs₃ hdf ok₃ => ?_
  subst hs₃
  have up : ∀ b o, s2.heap.get? b = some o → (h'.push { cls := .type "dict", data := .dict #[] }).get? b = some o := fun b o e => Heap.get?_push_of_some _ (g7 b o e)
  have hlt2 : ∀ b o, s2.heap.get? b = some o → b ≠ h'.objs.size ∧ b ∉ [s2.heap.objs.size + 4, s2.heap.objs.size + 3, s2.heap.objs.size, s2.heap.objs.size + 1] := fun b o e => by
    have h1 : b < s2.heap.objs.size := Heap.lt_size e
    refine ⟨fun z => ?_, fun z => ?_⟩
    · rw [z, g6] at h1
      exact absurd h1 (Nat.not_lt_of_le (Nat.le_add_right _ _))
    · simp only [List.mem_cons, List.not_mem_nil, or_false] at z
      rcases z with z | z | z | z
      · rw [z] at h1; exact absurd h1 (Nat.not_lt_of_le (Nat.le_add_right _ _))
      · rw [z] at h1; exact absurd h1 (Nat.not_lt_of_le (Nat.le_add_right _ _))
      · rw [z] at h1; exact absurd h1 (Nat.lt_irrefl _)
      · rw [z] at h1; exact absurd h1 (Nat.not_lt_of_le (Nat.le_add_right _ _))
  refine updateFrom_arg (A := X.A.in1) (Tab := fun i h => (∀ b o, s2.heap.get? b = some o → h.get? b = some o) ∧ i ≤ ka.length ∧ ∃ ps, Filled ka i ps ∧ h.DictOfH (tupleKind (mixKind X.prog X.w)) h'.objs.size ps) P .none hh ok₃ hdf
    ⟨up, Nat.zero_le _, [], ⟨rfl, fun j p hj => absurd hj (Nat.not_lt_zero _)⟩, Heap.DictOfH.new h'⟩ (fun i h0 tb => let ⟨_, _, ps, _, dd⟩ := tb; dd.lt_size) ?_ ?_ ?_
  · rintro i h1 h2 wr' hd hw ⟨k1, hle, ps, f, dd⟩ hkp
    have k2 : ∀ b o, s2.heap.get? b = some o → h2.get? b = some o := fun b o e => hkp b o (fun hm => by
      rcases hw b hm with z | z
      · exact (hlt2 b o e).2 z
      · have := up b o e
        have z' : (h'.push { cls := .type "dict", data := .dict #[] }).get? b = none := z
        rw [z'] at this; cases this) (k1 b o e)
    have ok2 := I2.hok.kept k2
    refine ⟨k2, hle, ps, f, dd.at' (fun o e => hkp _ o hd e) fun y hy => ?_⟩
    obtain ⟨j, hj⟩ := List.mem_iff_getElem?.mp hy
    have hj2 : j < i := by rw [← f.1]; exact (List.getElem?_eq_some_iff.mp hj).1
    have hja : j < ka.length := by omega
    obtain ⟨tt, e⟩ := f.2 j _ hj2 (List.getElem?_eq_getElem hja)
    rw [hj] at e
    cases e
    exact key_of ok2 (hk _ (List.getElem_mem hja))
  · rintro i key v s' Q' E' hi ⟨hk1, hk2⟩ ⟨k1, hle, ps, f, dd⟩ _ hQ
    obtain ⟨tt, rfl⟩ := hk2
    have hik : its[i]? = some key := by simpa using hk1
    obtain ⟨w1, hw1, rw1⟩ := rv.get (i := i) (x := .ref (ka[i]).2) (by rw [List.getElem?_map, List.getElem?_eq_getElem hi]; rfl)
    rw [hik] at hw1
    cases hw1
    obtain rfl : key = Value.ref (ka[i]).2 := rw1
    have ok2 := I2.hok.kept k1
    have hnew : atKey ps (ka[i]).1 = none := by
      unfold atKey
      rw [Option.map_eq_none_iff, List.find?_eq_none]
      intro y hy
      have hkeys := f.keys (Nat.le_of_lt hi)
      have h2 : y.1 ∈ (ka.take i).map (·.1) := by rw [← hkeys]; exact List.mem_map.mpr ⟨y, hy, rfl⟩
      have h3 : (ka.map (·.1)) = (ka.take i).map (·.1) ++ (ka.drop i).map (·.1) := by rw [← List.map_append, List.take_append_drop]
      rw [h3, List.nodup_append] at hn
      have h4 : (ka[i]).1 ∈ (ka.drop i).map (·.1) := List.mem_map.mpr ⟨ka[i], by rw [List.drop_eq_getElem_cons hi]; exact List.mem_cons_self, rfl⟩
      have h5 := hn.2.2 _ h2 _ h4
      simpa using h5
    have hpl : ps.length ≤ sizeLine := by rw [f.1]; exact Nat.le_of_lt (Nat.lt_of_lt_of_le hi (sz hl))
    refine wpAny_dictSet_heap (hsz := hpl) (tupleKind_room_in1 (by show X.A.units + 1 + 1 < cLine; omega)) (key_of ok2 (hk _ (List.getElem_mem hi))) dd fun h2 dd2 sb => ?_
    refine hQ h2 _ ⟨fun b o e => sb.extBut b o (hlt2 b o e).1 (k1 b o e), hi, _, ?_, dd2⟩ sb
    rw [storedH_new hnew]
    refine ⟨by rw [List.length_append, f.1]; rfl, fun j p hj hp => ?_⟩
    by_cases hji : j < i
    · obtain ⟨t5, e5⟩ := f.2 j p hji hp
      exact ⟨t5, by rw [List.getElem?_append_left (by rw [f.1]; exact hji)]; exact e5⟩
    · have ej : j = i := by omega
      subst ej
      rw [List.getElem?_eq_getElem hi] at hp
      cases hp
      exact ⟨tt, by rw [List.getElem?_append_right (by rw [f.1]; exact Nat.le_refl _), f.1]; simp⟩
  · rintro h2 tk ⟨k1, hle, ps, f, dd⟩ hkp
    have hq := q h'.objs.size (I2.hok.fresh (by rw [g6]; exact Nat.le_add_right _ _))
    refine ⟨rfl, ?_⟩
    obtain ⟨o, es, ep, e1, e2, e3, e4, e5, e6⟩ := dd
    have hfr : H2 h'.objs.size = none := I2.hok.fresh (by rw [g6]; exact Nat.le_add_right _ _)
    refine ⟨.ref h'.objs.size, _, I2.laid (t' := tk) k1 (by rw [g6]; exact Nat.le_add_right _ _) ?_, rfl, hq⟩
    refine ⟨by rw [numK_len, List.length_map]; exact sz hl, ?_, ps, ?_, o, es, ep, e1, e2, e3, e4, e6⟩
    · have h8 := I3.big
      have h9 : h'.objs.size ≠ sysModules := Nat.ne_of_gt h8
      simpa using h9
    · refine paired_num 0 ka ps (fun p hp => ?_) f.1 fun j p hp => ?_
      · rw [upd_ne (ne_of_none (hk p hp) hfr)]; exact hk p hp
      · rw [Nat.zero_add]
        exact f.2 j p (List.getElem?_eq_some_iff.mp hp).1 hp
end
end My
/-! Tables of monoids, their trees, least words, rules. Plain. -/
namespace Mon
abbrev Tab := List (List Nat)
def at2 (T : Tab) (n l : Nat) : Nat := (T.getD n []).getD l 0
/-- where a word leads; its signs are codes of letters -/
def run (T : Tab) (n : Nat) (w : List Nat) : Nat := w.foldl (fun n c => at2 T n (c - 97)) n
theorem run_snoc (T : Tab) (n : Nat) (w : List Nat) (c : Nat) : run T n (w ++ [c]) = at2 T (run T n w) (c - 97) := by
  unfold run; rw [List.foldl_append]; rfl
/-- the pairs at which a new number comes -/
def trR (T : Tab) (n : Nat) : Nat → List (Nat × Nat) → List (Nat × Nat)
  | 0, a => a
  | j + 1, a => if at2 T n j = (trR T n j a).length then trR T n j a ++ [(n, j)] else trR T n j a
def trT (T : Tab) (m : Nat) : Nat → List (Nat × Nat)
  | 0 => [(0, 0)]
  | n + 1 => trR T n m (trT T m n)
/-- numbers come in order -/
def Ord (T : Tab) (m N : Nat) : Prop := ∀ n, n < N → n < (trT T m n).length ∧ ∀ j, j < m → at2 T n j ≤ (trR T n j (trT T m n)).length
/-- a list built along a tree -/
def along {α : Type} (x0 : α) (g : List α → Nat × Nat → α) (tr : List (Nat × Nat)) : List α := tr.tail.foldl (fun a p => a ++ [g a p]) [x0]

theorem rev_ind {α : Type} {P : List α → Prop} (h0 : P []) (hs : ∀ l p, P l → P (l ++ [p])) (l : List α) : P l := by
  have key : ∀ r : List α, P r.reverse := fun r => by
    induction r with
    | nil => exact h0
    | cons a r ih => rw [List.reverse_cons]; exact hs _ _ ih
  have := key l.reverse
  rwa [List.reverse_reverse] at this
/-! ### lists built along -/
section
variable {α : Type} {x0 : α} {g : List α → Nat × Nat → α}
theorem fold_len (l : List (Nat × Nat)) : ∀ a : List α, (l.foldl (fun a p => a ++ [g a p]) a).length = a.length + l.length := by
  induction l with
  | nil => intro a; rfl
  | cons p l ih => intro a; rw [List.foldl_cons, ih]; simp; omega
theorem fold_pre (l : List (Nat × Nat)) : ∀ a : List α, ∃ b, l.foldl (fun a p => a ++ [g a p]) a = a ++ b := by
  induction l with
  | nil => intro a; exact ⟨[], by simp⟩
  | cons p l ih =>
    intro a
    obtain ⟨b, h⟩ := ih (a ++ [g a p])
    exact ⟨g a p :: b, by rw [List.foldl_cons, h]; simp⟩
theorem along_len {tr : List (Nat × Nat)} (h : tr ≠ []) : (along x0 g tr).length = tr.length := by
  unfold along
  rw [fold_len]
  cases tr with
  | nil => exact absurd rfl h
  | cons p l => simp; omega
theorem along_snoc {tr : List (Nat × Nat)} (h : tr ≠ []) (p : Nat × Nat) : along x0 g (tr ++ [p]) = along x0 g tr ++ [g (along x0 g tr) p] := by
  unfold along
  cases tr with
  | nil => exact absurd rfl h
  | cons q l => simp [List.foldl_append]
/-- the k-th item by what stands ahead -/
theorem along_get {tr : List (Nat × Nat)} {k : Nat} (hk : 0 < k) (h : k < tr.length) (d : α) : (along x0 g tr).getD k d = g ((along x0 g tr).take k) (tr.getD k (0, 0)) := by
  revert k
  refine rev_ind (P := fun tr => ∀ {k : Nat}, 0 < k → k < tr.length → (along x0 g tr).getD k d = g ((along x0 g tr).take k) (tr.getD k (0, 0))) ?_ ?_ tr
  · intro k hk h; simp at h
  · intro l p ih k hk h
    by_cases hl : l = []
    · subst hl; simp at h; omega
    · rw [along_snoc hl]
      have ll := along_len (x0 := x0) (g := g) hl
      by_cases hk2 : k < l.length
      · have e1 : (along x0 g l ++ [g (along x0 g l) p]).getD k d = (along x0 g l).getD k d := by
          rw [List.getD_eq_getElem?_getD, List.getD_eq_getElem?_getD, List.getElem?_append_left (by omega)]
        have e2 : (l ++ [p]).getD k (0, 0) = l.getD k (0, 0) := by
          rw [List.getD_eq_getElem?_getD, List.getD_eq_getElem?_getD, List.getElem?_append_left (by omega)]
        rw [e1, e2, List.take_append_of_le_length (by omega)]
        exact ih hk hk2
      · have ek : k = l.length := by simp at h; omega
        subst ek
        have e1 : (along x0 g l ++ [g (along x0 g l) p]).getD l.length d = g (along x0 g l) p := by
          rw [List.getD_eq_getElem?_getD, List.getElem?_append_right (by omega), ll]; simp
        have e2 : (l ++ [p]).getD l.length (0, 0) = p := by
          rw [List.getD_eq_getElem?_getD, List.getElem?_append_right (by omega)]; simp
        rw [e1, e2, List.take_append_of_le_length (by omega), List.take_of_length_le (by omega)]
theorem along_zero {tr : List (Nat × Nat)} (d : α) : (along x0 g tr).getD 0 d = x0 := by
  unfold along
  obtain ⟨b, h⟩ := fold_pre (g := g) tr.tail [x0]
  rw [h]; rfl
end

/-! ### the tree -/
def lx (p q : Nat × Nat) : Prop := p.1 < q.1 ∨ (p.1 = q.1 ∧ p.2 < q.2)
theorem getD_left {α : Type} {a b : List α} {k : Nat} {d : α} (h : k < a.length) : (a ++ b).getD k d = a.getD k d := by
  rw [List.getD_eq_getElem?_getD, List.getD_eq_getElem?_getD, List.getElem?_append_left h]
theorem getD_at {α : Type} {a : List α} {x d : α} {k : Nat} (h : k = a.length) : (a ++ [x]).getD k d = x := by
  subst h; rw [List.getD_eq_getElem?_getD, List.getElem?_append_right (Nat.le_refl _)]; simp
structure TI (T : Tab) (m n j : Nat) (b : List (Nat × Nat)) : Prop where
  ne : 0 < b.length
  fst : ∀ k, 0 < k → k < b.length → (b.getD k (0, 0)).1 < k ∧ (b.getD k (0, 0)).2 < m ∧ at2 T (b.getD k (0, 0)).1 (b.getD k (0, 0)).2 = k ∧ lx (b.getD k (0, 0)) (n, j)
  inc : ∀ k k', 0 < k → k < k' → k' < b.length → lx (b.getD k (0, 0)) (b.getD k' (0, 0))
  seen : ∀ n' j', lx (n', j') (n, j) → j' < m → at2 T n' j' < b.length
  ear : ∀ n' j', lx (n', j') (n, j) → j' < m → 0 < at2 T n' j' → b.getD (at2 T n' j') (0, 0) = (n', j') ∨ lx (b.getD (at2 T n' j') (0, 0)) (n', j')
theorem lx_step {p : Nat × Nat} {n j : Nat} (h : lx p (n, j)) : lx p (n, j + 1) := by
  unfold lx at *; dsimp only at *; omega
theorem lx_split {n' j' n j : Nat} (h : lx (n', j') (n, j + 1)) : lx (n', j') (n, j) ∨ (n' = n ∧ j' = j) := by
  unfold lx at *; dsimp only at *; omega
theorem TI.zero {T : Tab} {m : Nat} : TI T m 0 0 [(0, 0)] :=
  ⟨by decide, fun k h1 h2 => by simp at h2; omega, fun k k' h1 h2 h3 => by simp at h3; omega, fun n' j' h => by unfold lx at h; dsimp only at h; omega, fun n' j' h => by unfold lx at h; dsimp only at h; omega⟩
theorem TI.step {T : Tab} {m n j : Nat} {b : List (Nat × Nat)} (t : TI T m n j b) (hj : j < m) (hn : n < b.length) (hv : at2 T n j ≤ b.length) : TI T m n (j + 1) (if at2 T n j = b.length then b ++ [(n, j)] else b) := by
  by_cases h : at2 T n j = b.length
  · rw [if_pos h]
    have hl : (b ++ [(n, j)]).length = b.length + 1 := by simp
    refine ⟨by omega, fun k h1 h2 => ?_, fun k k' h1 h2 h3 => ?_, fun n' j' hx hj' => ?_, fun n' j' hx hj' h0 => ?_⟩
    · by_cases hk : k < b.length
      · rw [getD_left hk]
        obtain ⟨a1, a2, a3, a4⟩ := t.fst k h1 hk
        exact ⟨a1, a2, a3, lx_step a4⟩
      · have hk : k = b.length := by omega
        rw [getD_at hk]
        exact ⟨by dsimp only; omega, hj, by dsimp only; omega, .inr ⟨rfl, Nat.lt_succ_self _⟩⟩
    · by_cases hk : k' < b.length
      · rw [getD_left hk, getD_left (by omega)]
        exact t.inc k k' h1 h2 hk
      · rw [getD_at (k := k') (by omega), getD_left (by omega)]
        exact (t.fst k h1 (by omega)).2.2.2
    · rcases lx_split hx with hx | ⟨rfl, rfl⟩
      · have := t.seen n' j' hx hj'; omega
      · omega
    · rcases lx_split hx with hx | ⟨rfl, rfl⟩
      · rw [getD_left (t.seen n' j' hx hj')]
        exact t.ear n' j' hx hj' h0
      · exact .inl (getD_at h)
  · rw [if_neg h]
    refine ⟨t.ne, fun k h1 h2 => ?_, t.inc, fun n' j' hx hj' => ?_, fun n' j' hx hj' h0 => ?_⟩
    · obtain ⟨a1, a2, a3, a4⟩ := t.fst k h1 h2
      exact ⟨a1, a2, a3, lx_step a4⟩
    · rcases lx_split hx with hx | ⟨rfl, rfl⟩
      · exact t.seen n' j' hx hj'
      · omega
    · rcases lx_split hx with hx | ⟨rfl, rfl⟩
      · exact t.ear n' j' hx hj' h0
      · have h2 := (t.fst (at2 T n' j') h0 (by omega)).2.2.2
        exact .inr h2
theorem TI.row {T : Tab} {m n : Nat} {b : List (Nat × Nat)} (t : TI T m n m b) : TI T m (n + 1) 0 b := by
  have up : ∀ {p : Nat × Nat}, lx p (n, m) → lx p (n + 1, 0) := fun {p} h => by unfold lx at *; dsimp only at *; omega
  have dn : ∀ {n' j' : Nat}, j' < m → lx (n', j') (n + 1, 0) → lx (n', j') (n, m) := fun {n' j'} hj h => by unfold lx at *; dsimp only at *; omega
  exact ⟨t.ne, fun k h1 h2 => let ⟨a1, a2, a3, a4⟩ := t.fst k h1 h2; ⟨a1, a2, a3, up a4⟩, t.inc, fun n' j' hx hj => t.seen n' j' (dn hj hx) hj, fun n' j' hx hj h0 => t.ear n' j' (dn hj hx) hj h0⟩
theorem trR_mono {T : Tab} {n : Nat} {a : List (Nat × Nat)} : ∀ j, a.length ≤ (trR T n j a).length
  | 0 => Nat.le_refl _
  | j + 1 => by
    have := trR_mono (T := T) (n := n) (a := a) j
    unfold trR
    split
    · simp; omega
    · exact this
theorem TI.rowj {T : Tab} {m n : Nat} {a : List (Nat × Nat)} (t : TI T m n 0 a) (hn : n < a.length) : ∀ j, j ≤ m → (∀ i, i < j → at2 T n i ≤ (trR T n i a).length) → TI T m n j (trR T n j a)
  | 0, _, _ => t
  | j + 1, h, hv => by
    have ih := TI.rowj t hn j (by omega) (fun i hi => hv i (by omega))
    exact ih.step (by omega) (Nat.lt_of_lt_of_le hn (trR_mono j)) (hv j (by omega))
theorem TI.all {T : Tab} {m N : Nat} (hO : Ord T m N) : ∀ n, n ≤ N → TI T m n 0 (trT T m n)
  | 0, _ => TI.zero
  | n + 1, h => by
    have o := hO n (by omega)
    exact ((TI.all hO n (by omega)).rowj o.1 m (Nat.le_refl _) o.2).row
/-- what a table must be -/
structure Good (T : Tab) (m N : Nat) : Prop where
  pos : 0 < N
  ord : Ord T m N
  lt : ∀ n l, n < N → l < m → at2 T n l < N
  row : ∀ n, n < N → (T.getD n []).length = m
def tree (T : Tab) (m N : Nat) : List (Nat × Nat) := trT T m N
section
variable {T : Tab} {m N : Nat}
theorem trR_le {n B : Nat} {a : List (Nat × Nat)} (ha : a.length ≤ B) : ∀ j, (∀ i, i < j → at2 T n i < B) → (trR T n j a).length ≤ B
  | 0, _ => ha
  | j + 1, h => by
    have ih := trR_le ha j (fun i hi => h i (by omega))
    have := h j (Nat.lt_succ_self _)
    unfold trR
    split
    · simp; omega
    · exact ih
theorem trT_le {B : Nat} (h1 : 1 ≤ B) : ∀ n, (∀ i l, i < n → l < m → at2 T i l < B) → (trT T m n).length ≤ B
  | 0, _ => h1
  | n + 1, h => trR_le (trT_le h1 n fun i l hi hl => h i l (by omega) hl) m fun i hi => h n i (Nat.lt_succ_self _) hi
theorem trT_mono {n : Nat} : (trT T m n).length ≤ (trT T m (n + 1)).length := trR_mono m
theorem Good.len (g : Good T m N) : (tree T m N).length = N := by
  have h1 : (tree T m N).length ≤ N := trT_le g.pos N g.lt
  obtain ⟨n, rfl⟩ : ∃ n, N = n + 1 := ⟨N - 1, by have := g.pos; omega⟩
  have h2 := (g.ord n (Nat.lt_succ_self _)).1
  have h3 := trT_mono (T := T) (m := m) (n := n)
  unfold tree at *
  omega
theorem Good.ti (g : Good T m N) : TI T m N 0 (tree T m N) := TI.all g.ord N (Nat.le_refl _)
end
end Mon
namespace Mon
/-! ### shorter first, then by letters -/
def slt (u v : List Nat) : Prop := u.length < v.length ∨ (u.length = v.length ∧ u < v)
theorem lt_app : ∀ {u v : List Nat} (x y : List Nat), u.length = v.length → u < v → u ++ x < v ++ y
  | [], [], _, _, _, h => absurd h (List.lt_irrefl _)
  | [], _ :: _, _, _, h, _ => by cases h
  | _ :: _, [], _, _, h, _ => by cases h
  | a :: u, b :: v, x, y, hl, h => by
    rw [List.cons_append, List.cons_append]
    rcases List.cons_lt_cons_iff.mp h with h2 | ⟨h3, h2⟩
    · exact List.cons_lt_cons_iff.mpr (.inl h2)
    · exact List.cons_lt_cons_iff.mpr (.inr ⟨h3, lt_app x y (by simpa using hl) h2⟩)
theorem app_lt {c d : Nat} (h : c < d) : ∀ u : List Nat, u ++ [c] < u ++ [d]
  | [] => List.cons_lt_cons_iff.mpr (.inl h)
  | a :: u => List.cons_lt_cons_iff.mpr (.inr ⟨rfl, app_lt h u⟩)
theorem slt_app {u v : List Nat} (c d : Nat) (h : slt u v) : slt (u ++ [c]) (v ++ [d]) := by
  rcases h with h | ⟨h1, h2⟩
  · exact .inl (by simp; omega)
  · exact .inr ⟨by simp; omega, lt_app _ _ h1 h2⟩
theorem slt_last (u : List Nat) {c d : Nat} (h : c < d) : slt (u ++ [c]) (u ++ [d]) := .inr ⟨by simp, app_lt h u⟩
theorem slt_cons {u v : List Nat} (c : Nat) (h : slt u v) : slt (c :: u) (c :: v) := by
  rcases h with h | ⟨h1, h2⟩
  · exact .inl (by simp; omega)
  · exact .inr ⟨by simp; omega, List.cons_lt_cons_iff.mpr (.inr ⟨rfl, h2⟩)⟩
theorem slt_irr (u : List Nat) : ¬ slt u u := fun h => by
  rcases h with h | ⟨_, h⟩
  · omega
  · exact List.lt_irrefl _ h
theorem slt_trans {u v w : List Nat} (h : slt u v) (h' : slt v w) : slt u w := by
  rcases h with h | ⟨h1, h2⟩
  · rcases h' with h' | ⟨h3, h4⟩
    · exact .inl (by omega)
    · exact .inl (by omega)
  · rcases h' with h' | ⟨h3, h4⟩
    · exact .inl (by omega)
    · exact .inr ⟨by omega, List.lt_trans h2 h4⟩
theorem slt_snoc (u : List Nat) (c : Nat) : slt u (u ++ [c]) := .inl (by simp)

section
variable {T : Tab} {m N : Nat}
/-- the least words, by the tree -/
def wds (tr : List (Nat × Nat)) : List (List Nat) := along [] (fun ws p => ws.getD p.1 [] ++ [97 + p.2]) tr
def W (T : Tab) (m N k : Nat) : List Nat := (wds (tree T m N)).getD k []
theorem getD_take {α : Type} {l : List α} {i k : Nat} {d : α} (h : i < k) : (l.take k).getD i d = l.getD i d := by
  rw [List.getD_eq_getElem?_getD, List.getD_eq_getElem?_getD, List.getElem?_take_of_lt h]
abbrev P1 (T : Tab) (m N k : Nat) : Nat := ((tree T m N).getD k (0, 0)).1
abbrev P2 (T : Tab) (m N k : Nat) : Nat := ((tree T m N).getD k (0, 0)).2
theorem Good.ne (g : Good T m N) : tree T m N ≠ [] := fun h => by have := g.len; rw [h] at this; have := g.pos; simp at *; omega
theorem Good.fst (g : Good T m N) {k : Nat} (h0 : 0 < k) (h : k < N) : P1 T m N k < k ∧ P2 T m N k < m ∧ at2 T (P1 T m N k) (P2 T m N k) = k ∧ P1 T m N k < N := by
  obtain ⟨a1, a2, a3, a4⟩ := g.ti.fst k h0 (by rw [g.len]; exact h)
  exact ⟨a1, a2, a3, Nat.lt_trans a1 h⟩
theorem Good.W0 (g : Good T m N) : W T m N 0 = [] := along_zero _
theorem Good.Wk (g : Good T m N) {k : Nat} (h0 : 0 < k) (h : k < N) : W T m N k = W T m N (P1 T m N k) ++ [97 + P2 T m N k] := by
  show (along _ _ _).getD k [] = _
  rw [along_get h0 (by rw [g.len]; exact h), getD_take (g.fst h0 h).1]
  rfl
theorem Good.wlen (g : Good T m N) : (wds (tree T m N)).length = N := by
  show (along _ _ _).length = N
  rw [along_len g.ne, g.len]
theorem run_nil (n : Nat) : run T n [] = n := rfl
theorem Good.runW (g : Good T m N) : ∀ k, k < N → run T 0 (W T m N k) = k := fun k => by
  induction k using Nat.strongRecOn with
  | _ k ih =>
    intro h
    by_cases h0 : k = 0
    · subst h0; rw [g.W0]; rfl
    · have f := g.fst (by omega) h
      rw [g.Wk (by omega) h, run_snoc, ih _ f.1 f.2.2.2, show 97 + P2 T m N k - 97 = P2 T m N k by omega]
      exact f.2.2.1
theorem slt_lx (g : Good T m N) {n l i j : Nat} (hn : n < N) (hi : i < N) (ih : ∀ a b, a < b → b ≤ i → slt (W T m N a) (W T m N b)) (h : lx (n, l) (i, j)) : slt (W T m N n ++ [97 + l]) (W T m N i ++ [97 + j]) := by
  rcases h with h | ⟨h1, h2⟩
  · exact slt_app _ _ (ih n i h (Nat.le_refl _))
  · dsimp only at h1 h2
    subst h1
    exact slt_last _ (by omega)
theorem Good.mono (g : Good T m N) : ∀ b, b < N → ∀ a, a < b → slt (W T m N a) (W T m N b) := fun b => by
  induction b using Nat.strongRecOn with
  | _ b ih =>
    intro hb a hab
    have fb := g.fst (k := b) (by omega) hb
    by_cases h0 : a = 0
    · subst h0
      rw [g.W0, g.Wk (by omega) hb]
      exact .inl (by simp)
    · have fa := g.fst (k := a) (by omega) (by omega)
      rw [g.Wk (k := a) (by omega) (by omega), g.Wk (k := b) (by omega) hb]
      have hx := g.ti.inc a b (by omega) hab (by rw [g.len]; exact hb)
      exact slt_lx g fa.2.2.2 fb.2.2.2 (fun x y hxy hy => ih y (by omega) (by omega) x hxy) hx
theorem Good.inj (g : Good T m N) {a b : Nat} (ha : a < N) (hb : b < N) (h : W T m N a = W T m N b) : a = b := by
  have := g.runW a ha
  rw [h, g.runW b hb] at this
  exact this.symm
/-- the first pair that leads to a number -/
def least (T : Tab) (m N n l : Nat) : Bool := decide (0 < at2 T n l ∧ (tree T m N).getD (at2 T n l) (0, 0) = (n, l))
theorem Good.least_eq (g : Good T m N) {n l : Nat} (hn : n < N) (hl : l < m) (h : least T m N n l = true) : W T m N (at2 T n l) = W T m N n ++ [97 + l] := by
  obtain ⟨h0, he⟩ := of_decide_eq_true h
  rw [g.Wk h0 (g.lt n l hn hl)]
  unfold P1 P2
  rw [he]
theorem Good.not_least (g : Good T m N) {n l : Nat} (hn : n < N) (hl : l < m) (h : least T m N n l = false) : slt (W T m N (at2 T n l)) (W T m N n ++ [97 + l]) := by
  have h2 := of_decide_eq_false h
  by_cases h0 : 0 < at2 T n l
  · have hv := g.lt n l hn hl
    have f := g.fst h0 hv
    rcases g.ti.ear n l (by unfold lx; dsimp only; omega) hl h0 with e | e
    · exact absurd ⟨h0, e⟩ h2
    · rw [g.Wk h0 hv]
      exact slt_lx g (i := n) f.2.2.2 hn (fun a b hab hb => g.mono b (by omega) a hab) e
  · rw [show at2 T n l = 0 by omega, g.W0]
    exact .inl (by simp)
theorem Good.least_iff (g : Good T m N) {n l : Nat} (hn : n < N) (hl : l < m) : least T m N n l = true ↔ W T m N (at2 T n l) = W T m N n ++ [97 + l] := by
  constructor
  · exact g.least_eq hn hl
  · intro h
    cases e : least T m N n l with
    | true => rfl
    | false =>
      have := g.not_least hn hl e
      rw [h] at this
      exact absurd this (slt_irr _)
/-- its signs are letters -/
def Lt (m : Nat) (w : List Nat) : Prop := ∀ c ∈ w, 97 ≤ c ∧ c < 97 + m
theorem Good.ltW (g : Good T m N) : ∀ k, k < N → Lt m (W T m N k) := fun k => by
  induction k using Nat.strongRecOn with
  | _ k ih =>
    intro h
    by_cases h0 : k = 0
    · subst h0; rw [g.W0]; intro c hc; cases hc
    · have f := g.fst (by omega) h
      rw [g.Wk (by omega) h]
      intro c hc
      rcases List.mem_append.mp hc with hc | hc
      · exact ih _ f.1 f.2.2.2 c hc
      · rw [List.mem_singleton.mp hc]
        have := f.2.1
        omega
theorem Good.run_lt (g : Good T m N) : ∀ w, Lt m w → run T 0 w < N := by
  refine rev_ind (by intro _; exact g.pos) fun w c ih h => ?_
  rw [run_snoc]
  have hc := h c (by simp)
  exact g.lt _ _ (ih fun d hd => h d (by simp [hd])) (by omega)
/-- the least word of a number is least -/
theorem Good.le (g : Good T m N) : ∀ w, Lt m w → W T m N (run T 0 w) = w ∨ slt (W T m N (run T 0 w)) w := by
  refine rev_ind (by intro _; exact .inl g.W0) fun w c ih h => ?_
  rw [run_snoc]
  have hc := h c (by simp)
  have hw : Lt m w := fun d hd => h d (by simp [hd])
  have hr := g.run_lt w hw
  have e : 97 + (c - 97) = c := by omega
  have h1 : W T m N (at2 T (run T 0 w) (c - 97)) = W T m N (run T 0 w) ++ [c] ∨ slt (W T m N (at2 T (run T 0 w) (c - 97))) (W T m N (run T 0 w) ++ [c]) := by
    cases hL : least T m N (run T 0 w) (c - 97) with
    | true => left; rw [g.least_eq hr (by omega) hL, e]
    | false => right; have := g.not_least hr (by omega) hL; rwa [e] at this
  rcases ih hw with i | i
  · rw [i] at h1
    exact h1
  · right
    have h2 := slt_app c c i
    rcases h1 with h1 | h1
    · rw [h1]; exact h2
    · exact slt_trans h1 h2
end
end Mon
namespace Mon
section
variable {T : Tab} {m N : Nat}
/-! ### the word without its first letter -/
def ends (T : Tab) (tr : List (Nat × Nat)) : List Nat := along 0 (fun es p => if p.1 = 0 then 0 else at2 T (es.getD p.1 0) p.2) tr
def E (T : Tab) (m N k : Nat) : Nat := (ends T (tree T m N)).getD k 0
theorem Good.E_eq (g : Good T m N) : ∀ k, k < N → E T m N k = run T 0 (W T m N k).tail := fun k => by
  induction k using Nat.strongRecOn with
  | _ k ih =>
    intro h
    by_cases h0 : k = 0
    · subst h0
      rw [g.W0]
      exact along_zero _
    · have f := g.fst (by omega) h
      have e : E T m N k = if P1 T m N k = 0 then 0 else at2 T (E T m N (P1 T m N k)) (P2 T m N k) := by
        show (along _ _ _).getD k 0 = _
        rw [along_get (by omega) (by rw [g.len]; exact h), getD_take f.1]
        rfl
      rw [e, g.Wk (by omega) h]
      by_cases h1 : P1 T m N k = 0
      · rw [if_pos h1, h1, g.W0]; rfl
      · rw [if_neg h1, ih _ f.1 f.2.2.2]
        have hne : W T m N (P1 T m N k) ≠ [] := by rw [g.Wk (by omega) f.2.2.2]; simp
        rw [List.tail_append_of_ne_nil hne, run_snoc, show 97 + P2 T m N k - 97 = P2 T m N k by omega]
theorem Good.E0 (g : Good T m N) : E T m N 0 = 0 := along_zero _
theorem Good.Ek (g : Good T m N) {k : Nat} (h0 : 0 < k) (h : k < N) : E T m N k = if P1 T m N k = 0 then 0 else at2 T (E T m N (P1 T m N k)) (P2 T m N k) := by
  have f := g.fst h0 h
  show (along _ _ _).getD k 0 = _
  rw [along_get h0 (by rw [g.len]; exact h), getD_take f.1]
  rfl
theorem Good.E_lt (g : Good T m N) {k : Nat} (h : k < N) : E T m N k < N := by
  rw [g.E_eq k h]
  exact g.run_lt _ fun c hc => g.ltW k h c (List.mem_of_mem_tail hc)
theorem Good.elen (g : Good T m N) : (ends T (tree T m N)).length = N := by
  show (along _ _ _).length = N
  rw [along_len g.ne, g.len]
/-! ### multiplied from the left -/
def lefts (T : Tab) (tr : List (Nat × Nat)) : Tab := along (T.getD 0 []) (fun ls p => (ls.getD p.1 []).map fun n => at2 T n p.2) tr
theorem Good.llen (g : Good T m N) : (lefts T (tree T m N)).length = N := by
  show (along _ _ _).length = N
  rw [along_len g.ne, g.len]
def Lf (T : Tab) (m N k : Nat) : List Nat := (lefts T (tree T m N)).getD k []
theorem Good.Lfk (g : Good T m N) {k : Nat} (h0 : 0 < k) (h : k < N) : Lf T m N k = (Lf T m N (P1 T m N k)).map fun n => at2 T n (P2 T m N k) := by
  show (along _ _ _).getD k [] = _
  rw [along_get h0 (by rw [g.len]; exact h), getD_take (g.fst h0 h).1]
  rfl
theorem Good.Lf0 (g : Good T m N) : Lf T m N 0 = T.getD 0 [] := along_zero _
theorem Good.Lf_len (g : Good T m N) : ∀ k, k < N → (Lf T m N k).length = m := fun k => by
  induction k using Nat.strongRecOn with
  | _ k ih =>
    intro h
    by_cases h0 : k = 0
    · subst h0; rw [g.Lf0]; exact g.row 0 h
    · have f := g.fst (by omega) h
      rw [g.Lfk (by omega) h, List.length_map]
      exact ih _ f.1 f.2.2.2
theorem getD_map {α β : Type} {l : List α} {f : α → β} {a : Nat} {d : α} {e : β} (h : a < l.length) : (l.map f).getD a e = f (l.getD a d) := by
  rw [List.getD_eq_getElem?_getD, List.getD_eq_getElem?_getD, List.getElem?_map, List.getElem?_eq_getElem h]; rfl
theorem Good.Lf_run (g : Good T m N) : ∀ k, k < N → ∀ a, a < m → (Lf T m N k).getD a 0 = run T 0 ((97 + a) :: W T m N k) := fun k => by
  induction k using Nat.strongRecOn with
  | _ k ih =>
    intro h a ha
    by_cases h0 : k = 0
    · subst h0
      rw [g.Lf0, g.W0]
      show _ = at2 T 0 (97 + a - 97)
      rw [show 97 + a - 97 = a by omega]; rfl
    · have f := g.fst (by omega) h
      rw [g.Lfk (by omega) h, getD_map (d := 0) (by rw [g.Lf_len _ f.2.2.2]; exact ha), ih _ f.1 f.2.2.2 a ha, g.Wk (by omega) h]
      rw [← List.cons_append, run_snoc, show 97 + P2 T m N k - 97 = P2 T m N k by omega]
theorem list_ext0 {u v : List Nat} (h : u.length = v.length) (k : ∀ a, a < u.length → u.getD a 0 = v.getD a 0) : u = v := by
  refine List.ext_getElem h fun i h1 h2 => ?_
  have := k i h1
  rw [List.getD_eq_getElem?_getD, List.getD_eq_getElem?_getD, List.getElem?_eq_getElem h1, List.getElem?_eq_getElem h2] at this
  exact this
/-- products are those of a monoid -/
def Prod (T : Tab) (m N : Nat) : Prop := ∀ n l, n < N → l < m → Lf T m N (at2 T n l) = (Lf T m N n).map fun k => at2 T k l
/-- it is so if what words do tells their numbers -/
theorem Good.prod_of (g : Good T m N) (h : ∀ a n l, a < m → n < N → l < m → run T 0 ((97 + a) :: W T m N (at2 T n l)) = at2 T (run T 0 ((97 + a) :: W T m N n)) l) : Prod T m N := by
  intro n l hn hl
  have hv := g.lt n l hn hl
  refine list_ext0 (by rw [List.length_map, g.Lf_len _ hv, g.Lf_len _ hn]) fun a ha => ?_
  rw [g.Lf_len _ hv] at ha
  rw [getD_map (d := 0) (by rw [g.Lf_len _ hn]; exact ha), g.Lf_run _ hv a ha, g.Lf_run _ hn a ha]
  exact h a n l ha hn hl
theorem Good.cong (g : Good T m N) (p : Prod T m N) {a : Nat} (ha : a < m) : ∀ w, Lt m w → run T 0 ((97 + a) :: w) = (Lf T m N (run T 0 w)).getD a 0 := by
  refine rev_ind (fun _ => ?_) fun w c ih h => ?_
  · rw [run_nil, g.Lf_run 0 g.pos a ha, g.W0]
  · have hc := h c (by simp)
    have hw : Lt m w := fun d hd => h d (by simp [hd])
    have hr := g.run_lt w hw
    rw [← List.cons_append, run_snoc, run_snoc, ih hw, p _ _ hr (by omega), getD_map (d := 0) (by rw [g.Lf_len _ hr]; exact ha)]
/-- a least word without its first letter is least -/
theorem Good.tail (g : Good T m N) (p : Prod T m N) {k c : Nat} {v : List Nat} (hk : k < N) (h : W T m N k = c :: v) : W T m N (run T 0 v) = v := by
  have hl := g.ltW k hk
  rw [h] at hl
  have hv : Lt m v := fun d hd => hl d (List.mem_cons_of_mem _ hd)
  have hc := hl c List.mem_cons_self
  have hr := g.run_lt v hv
  rcases g.le v hv with e | e
  · exact e
  · exfalso
    obtain ⟨a, rfl⟩ : ∃ a, c = 97 + a := ⟨c - 97, by omega⟩
    have h2 := slt_cons (97 + a) e
    rw [← h] at h2
    have hw : Lt m ((97 + a) :: W T m N (run T 0 v)) := fun d hd => by
      rcases List.mem_cons.mp hd with q | q
      · rw [q]; exact hc
      · exact g.ltW _ hr d q
    have e3 : run T 0 ((97 + a) :: W T m N (run T 0 v)) = k := by
      rw [g.cong p (by omega) _ (g.ltW _ hr), g.runW _ hr, ← g.cong p (by omega) v hv, ← h, g.runW k hk]
    have h3 := g.le _ hw
    rw [e3] at h3
    rcases h3 with h3 | h3
    · rw [← h3] at h2; exact slt_irr _ h2
    · exact slt_irr _ (slt_trans h2 h3)
/-! ### rules -/
def rule (T : Tab) (m N n l : Nat) : Bool := !least T m N n l && (decide (n = 0) || least T m N (E T m N n) l)
def rules (T : Tab) (m N : Nat) : List (List Nat × List Nat) := (List.range N).flatMap fun n => ((List.range m).filter (rule T m N n)).map fun l => (W T m N n ++ [97 + l], W T m N (at2 T n l))
/-- a known word is the least of its number -/
def Known (T : Tab) (m N : Nat) (w : List Nat) : Prop := ∃ k, k < N ∧ W T m N k = w
theorem Good.known_iff (g : Good T m N) {w : List Nat} (hw : Lt m w) : Known T m N w ↔ W T m N (run T 0 w) = w := by
  constructor
  · rintro ⟨k, hk, rfl⟩
    rw [g.runW k hk]
  · intro h
    exact ⟨_, g.run_lt w hw, h⟩
theorem Good.Lt_snoc (g : Good T m N) {n l : Nat} (hn : n < N) (hl : l < m) : Lt m (W T m N n ++ [97 + l]) := fun c hc => by
  rcases List.mem_append.mp hc with hc | hc
  · exact g.ltW n hn c hc
  · rw [List.mem_singleton.mp hc]; omega
theorem Good.run_longer (g : Good T m N) {n l : Nat} (hn : n < N) : run T 0 (W T m N n ++ [97 + l]) = at2 T n l := by
  rw [run_snoc, g.runW n hn, show 97 + l - 97 = l by omega]
theorem Good.known_longer (g : Good T m N) {n l : Nat} (hn : n < N) (hl : l < m) : Known T m N (W T m N n ++ [97 + l]) ↔ least T m N n l = true := by
  rw [g.known_iff (g.Lt_snoc hn hl), g.run_longer hn, g.least_iff hn hl]
theorem Good.W_tail (g : Good T m N) (p : Prod T m N) {n : Nat} (hn : n < N) : W T m N (E T m N n) = (W T m N n).tail := by
  rw [g.E_eq n hn]
  cases h : W T m N n with
  | nil => exact g.W0
  | cons c v => exact g.tail p hn h
theorem Good.known_tail (g : Good T m N) (p : Prod T m N) {n l : Nat} (hn : n < N) (hl : l < m) : Known T m N (W T m N n ++ [97 + l]).tail ↔ n = 0 ∨ least T m N (E T m N n) l = true := by
  by_cases h0 : n = 0
  · subst h0
    rw [g.W0]
    exact ⟨fun _ => .inl rfl, fun _ => ⟨0, g.pos, g.W0⟩⟩
  · have hne : W T m N n ≠ [] := by rw [g.Wk (by omega) hn]; simp
    rw [List.tail_append_of_ne_nil hne, ← g.W_tail p hn, g.known_longer (g.E_lt hn) hl]
    exact ⟨fun h => .inr h, fun h => h.resolve_left h0⟩
theorem Good.rule_iff (g : Good T m N) (p : Prod T m N) {n l : Nat} (hn : n < N) (hl : l < m) : rule T m N n l = true ↔ ¬ Known T m N (W T m N n ++ [97 + l]) ∧ Known T m N (W T m N n ++ [97 + l]).tail := by
  rw [g.known_longer hn hl, g.known_tail p hn hl]
  unfold rule
  cases least T m N n l <;> by_cases h : n = 0 <;> simp [h]
/-! ### rules in order -/
theorem Good.rules_sorted (g : Good T m N) : (rules T m N).Pairwise fun a b => slt a.1 b.1 := by
  unfold rules
  rw [List.pairwise_flatMap]
  refine ⟨fun n hn => ?_, ?_⟩
  · rw [List.pairwise_map]
    exact (List.pairwise_lt_range).filter _ |>.imp fun h => slt_last _ (by omega)
  · refine List.pairwise_lt_range.imp_of_mem fun {a b} ha hb hab => ?_
    intro x hx y hy
    obtain ⟨l, _, rfl⟩ := List.mem_map.mp hx
    obtain ⟨l', _, rfl⟩ := List.mem_map.mp hy
    exact slt_app _ _ (g.mono b (List.mem_range.mp hb) a hab)
theorem flat_len {α β : Type} (f : α → List β) (B : Nat) : ∀ l : List α, (∀ a ∈ l, (f a).length ≤ B) → (l.flatMap f).length ≤ l.length * B
  | [], _ => by simp
  | a :: l, h => by
    have h1 := flat_len f B l fun b hb => h b (List.mem_cons_of_mem _ hb)
    have h2 := h a List.mem_cons_self
    rw [List.flatMap_cons, List.length_append, List.length_cons, Nat.add_mul]
    omega
theorem rules_len : (rules T m N).length ≤ N * m := by
  have := flat_len (fun n => ((List.range m).filter (rule T m N n)).map fun l => (W T m N n ++ [97 + l], W T m N (at2 T n l))) m (List.range N) fun n _ => by
    rw [List.length_map]
    exact Nat.le_trans (List.length_filter_le _ _) (by simp)
  rw [List.length_range] at this
  exact this
end
end Mon
namespace Mon
/-! ### maps, listed by multiplying -/
def IsMap (sz : Nat) (f : List Nat) : Prop := f.length = sz ∧ ∀ x ∈ f, x < sz
def mul (f r : List Nat) : List Nat := f.map fun i => r.getD i 0
theorem getD_lt {r : List Nat} {sz i : Nat} (h : IsMap sz r) (hi : i < sz) : r.getD i 0 < sz := by
  have h1 : i < r.length := by rw [h.1]; exact hi
  rw [List.getD_eq_getElem?_getD, List.getElem?_eq_getElem h1]
  exact h.2 _ (List.getElem_mem h1)
theorem mul_map {sz : Nat} {f r : List Nat} (hf : IsMap sz f) (hr : IsMap sz r) : IsMap sz (mul f r) := by
  refine ⟨by unfold mul; rw [List.length_map, hf.1], fun x hx => ?_⟩
  obtain ⟨i, hi, rfl⟩ := List.mem_map.mp hx
  exact getD_lt hr (hf.2 i hi)
theorem mul_assoc {sz : Nat} {f g h : List Nat} (hf : IsMap sz f) (hg : IsMap sz g) : mul (mul f g) h = mul f (mul g h) := by
  unfold mul
  rw [List.map_map]
  refine List.map_congr_left fun i hi => ?_
  have h1 : i < g.length := by rw [hg.1]; exact hf.2 i hi
  rw [getD_map (d := 0) h1]
  rfl
theorem one_map (sz : Nat) : IsMap sz (List.range sz) := ⟨List.length_range, fun x hx => List.mem_range.mp hx⟩
theorem one_mul {sz : Nat} {r : List Nat} (h : IsMap sz r) : mul (List.range sz) r = r := by
  refine list_ext0 (by unfold mul; rw [List.length_map, List.length_range, h.1]) fun a ha => ?_
  unfold mul at *
  rw [List.length_map] at ha
  rw [getD_map (d := 0) ha]
  have : (List.range sz).getD a 0 = a := by
    rw [List.length_range] at ha
    rw [List.getD_eq_getElem?_getD, List.getElem?_range ha]; rfl
  rw [this]
def fdR (rows : Tab) (f : List Nat) : Nat → List (List Nat) → List (List Nat)
  | 0, fd => fd
  | j + 1, fd => if mul f (rows.getD j []) ∈ fdR rows f j fd then fdR rows f j fd else fdR rows f j fd ++ [mul f (rows.getD j [])]
def wsR (rows : Tab) (f w : List Nat) : Nat → List (List Nat) → List (List Nat) → List (List Nat)
  | 0, _, ws => ws
  | j + 1, fd, ws => if mul f (rows.getD j []) ∈ fdR rows f j fd then wsR rows f w j fd ws else wsR rows f w j fd ws ++ [w ++ [97 + j]]
def rowR (rows : Tab) (f : List Nat) (j : Nat) (fd : List (List Nat)) : List Nat := (List.range j).map fun i => (fdR rows f (i + 1) fd).idxOf (mul f (rows.getD i []))
def fdT (rows : Tab) (sz : Nat) : Nat → List (List Nat)
  | 0 => [List.range sz]
  | n + 1 => fdR rows ((fdT rows sz n).getD n []) rows.length (fdT rows sz n)
def wsT (rows : Tab) (sz : Nat) : Nat → List (List Nat)
  | 0 => [[]]
  | n + 1 => wsR rows ((fdT rows sz n).getD n []) ((wsT rows sz n).getD n []) rows.length (fdT rows sz n) (wsT rows sz n)
def tbT (rows : Tab) (sz n : Nat) : Tab := (List.range n).map fun k => rowR rows ((fdT rows sz k).getD k []) rows.length (fdT rows sz k)
theorem tbT_succ (rows : Tab) (sz n : Nat) : tbT rows sz (n + 1) = tbT rows sz n ++ [rowR rows ((fdT rows sz n).getD n []) rows.length (fdT rows sz n)] := by
  unfold tbT; rw [List.range_succ, List.map_append]; rfl
theorem rowR_succ (rows : Tab) (f : List Nat) (j : Nat) (fd : List (List Nat)) : rowR rows f (j + 1) fd = rowR rows f j fd ++ [(fdR rows f (j + 1) fd).idxOf (mul f (rows.getD j []))] := by
  unfold rowR; rw [List.range_succ, List.map_append]; rfl
theorem fdR_succ (rows : Tab) (f : List Nat) (j : Nat) (fd : List (List Nat)) : fdR rows f (j + 1) fd = if mul f (rows.getD j []) ∈ fdR rows f j fd then fdR rows f j fd else fdR rows f j fd ++ [mul f (rows.getD j [])] := rfl
section
variable {rows : Tab} {sz : Nat}
theorem fdR_pre (f : List Nat) (fd : List (List Nat)) (j : Nat) : ∀ i, ∃ b, fdR rows f (j + i) fd = fdR rows f j fd ++ b
  | 0 => ⟨[], by simp⟩
  | i + 1 => by
    obtain ⟨b, h⟩ := fdR_pre f fd j i
    show ∃ b, fdR rows f (j + i + 1) fd = _
    rw [fdR_succ]
    split
    · exact ⟨b, h⟩
    · exact ⟨b ++ [mul f (rows.getD (j + i) [])], by rw [h, List.append_assoc]⟩
theorem fdT_pre (n : Nat) : ∀ i, ∃ b, fdT rows sz (n + i) = fdT rows sz n ++ b
  | 0 => ⟨[], by simp⟩
  | i + 1 => by
    obtain ⟨b, h⟩ := fdT_pre n i
    obtain ⟨c, h2⟩ := fdR_pre (rows := rows) ((fdT rows sz (n + i)).getD (n + i) []) (fdT rows sz (n + i)) 0 rows.length
    rw [Nat.zero_add] at h2
    exact ⟨b ++ c, by rw [← List.append_assoc, ← h]; exact h2⟩
theorem fdR_nodup {f : List Nat} {fd : List (List Nat)} (h : fd.Nodup) : ∀ j, (fdR rows f j fd).Nodup
  | 0 => h
  | j + 1 => by
    have ih := fdR_nodup (f := f) h j
    rw [fdR_succ]
    split
    · exact ih
    · rename_i hn
      rw [List.nodup_append]
      refine ⟨ih, List.pairwise_singleton _ _, fun a ha b hb => ?_⟩
      rw [List.mem_singleton.mp hb]
      intro e
      exact hn (e ▸ ha)
theorem fdT_nodup : ∀ n, (fdT rows sz n).Nodup
  | 0 => List.pairwise_singleton _ _
  | n + 1 => fdR_nodup (fdT_nodup n) _
theorem getD_mem {l : List (List Nat)} {n : Nat} (h : n < l.length) : l.getD n [] ∈ l := by
  rw [List.getD_eq_getElem?_getD, List.getElem?_eq_getElem h]
  exact List.getElem_mem h
theorem fdR_maps {f : List Nat} {fd : List (List Nat)} (hr : ∀ r ∈ rows, IsMap sz r) (hf : IsMap sz f) (h : ∀ g ∈ fd, IsMap sz g) : ∀ j, j ≤ rows.length → ∀ g ∈ fdR rows f j fd, IsMap sz g
  | 0, _ => h
  | j + 1, hj => by
    have ih := fdR_maps hr hf h j (by omega)
    rw [fdR_succ]
    split
    · exact ih
    · intro g hg
      rcases List.mem_append.mp hg with hg | hg
      · exact ih g hg
      · rw [List.mem_singleton.mp hg]
        exact mul_map hf (hr _ (getD_mem (by omega)))
theorem fdT_maps (hr : ∀ r ∈ rows, IsMap sz r) : ∀ n, (∀ k, k < n → k < (fdT rows sz k).length) → ∀ g ∈ fdT rows sz n, IsMap sz g
  | 0, _ => fun g hg => by rw [List.mem_singleton.mp hg]; exact one_map sz
  | n + 1, h => by
    have ih := fdT_maps hr n fun k hk => h k (by omega)
    exact fdR_maps hr (ih _ (getD_mem (h n (Nat.lt_succ_self _)))) ih _ (Nat.le_refl _)
end
/-! ### how many maps there are -/
theorem nodup_le : ∀ (B : Nat) (l : List Nat), l.Nodup → (∀ x ∈ l, x < B) → l.length ≤ B
  | 0, [], _, _ => Nat.le_refl _
  | 0, x :: _, _, h => absurd (h x List.mem_cons_self) (Nat.not_lt_zero _)
  | B + 1, l, hn, h => by
    have h1 := nodup_le B (l.filter fun x => x != B) (hn.filter _) fun x hx => by
      have := List.mem_filter.mp hx
      have h2 := h x this.1
      have h3 : x ≠ B := by simpa using this.2
      omega
    have h2 : (l.filter fun x => x == B).length ≤ 1 := by
      have h4 : (l.filter fun x => x == B).Nodup := hn.filter _
      have h5 : ∀ x ∈ l.filter fun x => x == B, x = B := fun x hx => by simpa using (List.mem_filter.mp hx).2
      match hm : l.filter fun x => x == B, h4, h5 with
      | [], _, _ => simp
      | [_], _, _ => simp
      | x :: y :: r, h4, h5 =>
        have e1 := h5 x (by simp)
        have e2 := h5 y (by simp)
        rw [e1, e2] at h4
        simp at h4
    have h3 : l.length = (l.filter fun x => x == B).length + (l.filter fun x => x != B).length := by
      have key : ∀ l : List Nat, l.length = (l.filter fun x => x == B).length + (l.filter fun x => x != B).length := fun l => by
        induction l with
        | nil => rfl
        | cons a l ih => by_cases e : a = B <;> simp [e] <;> omega
      exact key l
    omega
def code (f : List Nat) : Nat := f.foldr (fun x a => a * 4 + x) 0
theorem code_lt : ∀ f : List Nat, (∀ x ∈ f, x < 4) → code f < 4 ^ f.length
  | [], _ => by decide
  | x :: f, h => by
    have h1 := code_lt f fun y hy => h y (List.mem_cons_of_mem _ hy)
    have h2 := h x List.mem_cons_self
    show code f * 4 + x < 4 ^ (f.length + 1)
    rw [Nat.pow_succ]
    omega
theorem code_inj : ∀ f g : List Nat, f.length = g.length → (∀ x ∈ f, x < 4) → (∀ x ∈ g, x < 4) → code f = code g → f = g
  | [], [], _, _, _, _ => rfl
  | [], _ :: _, h, _, _, _ => by cases h
  | _ :: _, [], h, _, _, _ => by cases h
  | x :: f, y :: g, hl, hf, hg, h => by
    have h2 := hf x List.mem_cons_self
    have h3 := hg y List.mem_cons_self
    have h4 : code f * 4 + x = code g * 4 + y := h
    have e1 : x = y := by omega
    have e2 : code f = code g := by omega
    rw [e1, code_inj f g (by simpa using hl) (fun z hz => hf z (List.mem_cons_of_mem _ hz)) (fun z hz => hg z (List.mem_cons_of_mem _ hz)) e2]
theorem maps_le {sz : Nat} (h4 : sz ≤ 4) {l : List (List Nat)} (hn : l.Nodup) (h : ∀ f ∈ l, IsMap sz f) : l.length ≤ 256 := by
  have h1 := nodup_le 256 (l.map code) ?_ ?_
  · rwa [List.length_map] at h1
  · unfold List.Nodup
    rw [List.pairwise_map]
    refine List.Pairwise.imp_of_mem (fun {a b} ha hb hab e => hab ?_) hn
    exact code_inj a b (by rw [(h a ha).1, (h b hb).1]) (fun x hx => Nat.lt_of_lt_of_le ((h a ha).2 x hx) h4) (fun x hx => Nat.lt_of_lt_of_le ((h b hb).2 x hx) h4) e
  · intro x hx
    obtain ⟨f, hf, rfl⟩ := List.mem_map.mp hx
    have h2 := code_lt f fun y hy => Nat.lt_of_lt_of_le ((h f hf).2 y hy) h4
    rw [(h f hf).1] at h2
    have h3 : 4 ^ sz ≤ 4 ^ 4 := Nat.pow_le_pow_right (by decide) h4
    have h5 : 4 ^ 4 = 256 := by decide
    omega
end Mon
namespace Mon
/-- the listing is over at N -/
structure Done (rows : Tab) (sz N : Nat) : Prop where
  maps : ∀ r ∈ rows, IsMap sz r
  go : ∀ k, k < N → k < (fdT rows sz k).length
  stop : (fdT rows sz N).length = N
theorem idx_app {l b : List (List Nat)} {p : List Nat} (h : p ∈ l) : (l ++ b).idxOf p = l.idxOf p := by
  rw [List.idxOf_append, if_pos h]
theorem idx_new {l : List (List Nat)} {p : List Nat} (h : p ∉ l) : (l ++ [p]).idxOf p = l.length := by
  rw [List.idxOf_append, if_neg h]; simp
theorem getD_idx {l : List (List Nat)} {p : List Nat} (h : p ∈ l) : l.getD (l.idxOf p) [] = p := by
  have h2 := List.idxOf_lt_length_iff.mpr h
  rw [List.getD_eq_getElem?_getD, List.getElem?_eq_getElem h2]
  simp
section
variable {rows : Tab} {sz N : Nat}
theorem fdT_pos (n : Nat) : 0 < (fdT rows sz n).length := by
  obtain ⟨b, h⟩ := fdT_pre (rows := rows) (sz := sz) 0 n
  rw [Nat.zero_add] at h
  rw [h, List.length_append]
  show 0 < 1 + b.length
  omega
namespace Done
variable (d : Done rows sz N)
include d
abbrev F (rows : Tab) (sz N : Nat) : List (List Nat) := fdT rows sz N
theorem pre {n : Nat} (h : n ≤ N) : ∃ b, fdT rows sz N = fdT rows sz n ++ b := by
  obtain ⟨b, e⟩ := fdT_pre (rows := rows) (sz := sz) n (N - n)
  rw [show n + (N - n) = N by omega] at e
  exact ⟨b, e⟩
theorem Fn {n : Nat} (h : n < N) : (fdT rows sz n).getD n [] = (fdT rows sz N).getD n [] := by
  obtain ⟨b, e⟩ := d.pre (Nat.le_of_lt h)
  rw [e, getD_left (d.go n h)]
theorem Fmap : ∀ g ∈ fdT rows sz N, IsMap sz g := fdT_maps d.maps N d.go
theorem Fm {n : Nat} (h : n < N) : IsMap sz ((fdT rows sz N).getD n []) := d.Fmap _ (getD_mem (by rw [d.stop]; exact h))
theorem cell {n j : Nat} (hn : n < N) (hj : j < rows.length) : at2 (tbT rows sz N) n j = (fdR rows ((fdT rows sz n).getD n []) (j + 1) (fdT rows sz n)).idxOf (mul ((fdT rows sz n).getD n []) (rows.getD j [])) := by
  unfold at2 tbT
  rw [getD_map (d := 0) (by rw [List.length_range]; exact hn)]
  have e1 : (List.range N).getD n 0 = n := by rw [List.getD_eq_getElem?_getD, List.getElem?_range hn]; rfl
  rw [e1]
  unfold rowR
  rw [getD_map (d := 0) (by rw [List.length_range]; exact hj)]
  have e2 : (List.range rows.length).getD j 0 = j := by rw [List.getD_eq_getElem?_getD, List.getElem?_range hj]; rfl
  rw [e2]
theorem mem_step (f : List Nat) (fd : List (List Nat)) (j : Nat) : mul f (rows.getD j []) ∈ fdR rows f (j + 1) fd := by
  rw [fdR_succ]
  split
  · assumption
  · exact List.mem_append_right _ (List.mem_singleton.mpr rfl)
theorem pre_row {n j : Nat} (hn : n < N) (hj : j ≤ rows.length) : ∃ b, fdT rows sz N = fdR rows ((fdT rows sz n).getD n []) j (fdT rows sz n) ++ b := by
  obtain ⟨b, e⟩ := d.pre (n := n + 1) hn
  obtain ⟨c, e2⟩ := fdR_pre (rows := rows) ((fdT rows sz n).getD n []) (fdT rows sz n) j (rows.length - j)
  rw [show j + (rows.length - j) = rows.length by omega] at e2
  exact ⟨c ++ b, by rw [e]; show fdR rows _ rows.length _ ++ b = _; rw [e2, List.append_assoc]⟩
theorem cell2 {n j : Nat} (hn : n < N) (hj : j < rows.length) : mul ((fdT rows sz N).getD n []) (rows.getD j []) ∈ fdT rows sz N ∧ at2 (tbT rows sz N) n j = (fdT rows sz N).idxOf (mul ((fdT rows sz N).getD n []) (rows.getD j [])) := by
  have h1 := d.mem_step ((fdT rows sz n).getD n []) (fdT rows sz n) j
  obtain ⟨b, e⟩ := d.pre_row hn (j := j + 1) hj
  rw [d.cell hn hj, ← d.Fn hn]
  refine ⟨?_, ?_⟩
  · rw [e]; exact List.mem_append_left _ h1
  · rw [e, idx_app h1]
theorem cell_lt {n j : Nat} (hn : n < N) (hj : j < rows.length) : at2 (tbT rows sz N) n j < N := by
  obtain ⟨h1, h2⟩ := d.cell2 hn hj
  rw [h2]
  have := List.idxOf_lt_length_iff.mpr h1
  rw [d.stop] at this
  exact this
theorem F_cell {n j : Nat} (hn : n < N) (hj : j < rows.length) : (fdT rows sz N).getD (at2 (tbT rows sz N) n j) [] = mul ((fdT rows sz N).getD n []) (rows.getD j []) := by
  obtain ⟨h1, h2⟩ := d.cell2 hn hj
  rw [h2, getD_idx h1]
/-- one step of a row: the tree grows as the list does -/
theorem step {n j : Nat} (hn : n < N) (hj : j < rows.length) : (mul ((fdT rows sz n).getD n []) (rows.getD j []) ∈ fdR rows ((fdT rows sz n).getD n []) j (fdT rows sz n) → at2 (tbT rows sz N) n j < (fdR rows ((fdT rows sz n).getD n []) j (fdT rows sz n)).length) ∧ (mul ((fdT rows sz n).getD n []) (rows.getD j []) ∉ fdR rows ((fdT rows sz n).getD n []) j (fdT rows sz n) → at2 (tbT rows sz N) n j = (fdR rows ((fdT rows sz n).getD n []) j (fdT rows sz n)).length) := by
  rw [d.cell hn hj, fdR_succ]
  refine ⟨fun h => ?_, fun h => ?_⟩
  · rw [if_pos h]; exact List.idxOf_lt_length_iff.mpr h
  · rw [if_neg h]; exact idx_new h
theorem rowLen {n : Nat} (hn : n < N) (ih : (fdT rows sz n).length = (trT (tbT rows sz N) rows.length n).length) : ∀ j, j ≤ rows.length → (fdR rows ((fdT rows sz n).getD n []) j (fdT rows sz n)).length = (trR (tbT rows sz N) n j (trT (tbT rows sz N) rows.length n)).length
  | 0, _ => ih
  | j + 1, hj => by
    have e := rowLen hn ih j (by omega)
    obtain ⟨s1, s2⟩ := d.step hn (j := j) hj
    rw [fdR_succ]
    unfold trR
    by_cases h : mul ((fdT rows sz n).getD n []) (rows.getD j []) ∈ fdR rows ((fdT rows sz n).getD n []) j (fdT rows sz n)
    · have := s1 h
      rw [if_pos h, if_neg (by omega), e]
    · have := s2 h
      rw [if_neg h, if_pos (by omega), List.length_append, List.length_append, e]
      rfl
theorem lens : ∀ n, n ≤ N → (fdT rows sz n).length = (trT (tbT rows sz N) rows.length n).length
  | 0, _ => rfl
  | n + 1, h => d.rowLen (by omega) (lens n (by omega)) rows.length (Nat.le_refl _)
theorem ord : Ord (tbT rows sz N) rows.length N := fun n hn => by
  have e := d.lens n (Nat.le_of_lt hn)
  refine ⟨by rw [← e]; exact d.go n hn, fun j hj => ?_⟩
  rw [← d.rowLen hn e j (Nat.le_of_lt hj)]
  obtain ⟨s1, s2⟩ := d.step hn (j := j) hj
  by_cases h : mul ((fdT rows sz n).getD n []) (rows.getD j []) ∈ fdR rows ((fdT rows sz n).getD n []) j (fdT rows sz n)
  · exact Nat.le_of_lt (s1 h)
  · exact Nat.le_of_eq (s2 h)
theorem tlen : (tbT rows sz N).length = N := by unfold tbT; simp
theorem good : Good (tbT rows sz N) rows.length N := by
  refine ⟨by have := fdT_pos (rows := rows) (sz := sz) N; rw [d.stop] at this; exact this, d.ord, fun n l hn hl => d.cell_lt hn hl, fun n hn => ?_⟩
  unfold tbT
  rw [getD_map (d := 0) (by rw [List.length_range]; exact hn)]
  unfold rowR
  simp
theorem wsR_pre (f w : List Nat) (fd ws : List (List Nat)) : ∀ j, ∃ b, wsR rows f w j fd ws = ws ++ b
  | 0 => ⟨[], by simp [wsR]⟩
  | j + 1 => by
    obtain ⟨b, h⟩ := wsR_pre f w fd ws j
    unfold wsR
    split
    · exact ⟨b, h⟩
    · exact ⟨b ++ [w ++ [97 + j]], by rw [h, List.append_assoc]⟩
theorem trR_ne {T : Tab} {n j : Nat} {a : List (Nat × Nat)} (h : a ≠ []) : trR T n j a ≠ [] := fun e => by
  have := trR_mono (T := T) (n := n) (a := a) j
  rw [e] at this
  exact h (List.length_eq_zero_iff.mp (by simpa using this))
theorem wsRow {n : Nat} (hn : n < N) (ih : wsT rows sz n = wds (trT (tbT rows sz N) rows.length n)) : ∀ j, j ≤ rows.length →
    wsR rows ((fdT rows sz n).getD n []) ((wsT rows sz n).getD n []) j (fdT rows sz n) (wsT rows sz n) = wds (trR (tbT rows sz N) n j (trT (tbT rows sz N) rows.length n))
  | 0, _ => ih
  | j + 1, hj => by
    have e := wsRow hn ih j (by omega)
    have el := d.rowLen hn (d.lens n (by omega)) j (by omega)
    have hne : trT (tbT rows sz N) rows.length n ≠ [] := fun z => by
      have := d.lens n (by omega)
      rw [z] at this
      have h2 := fdT_pos (rows := rows) (sz := sz) n
      simp at this
      rw [this] at h2
      simp at h2
    obtain ⟨s1, s2⟩ := d.step hn (j := j) hj
    unfold wsR trR
    by_cases h : mul ((fdT rows sz n).getD n []) (rows.getD j []) ∈ fdR rows ((fdT rows sz n).getD n []) j (fdT rows sz n)
    · have := s1 h
      rw [if_pos h, if_neg (by omega), e]
    · have := s2 h
      rw [if_neg h, if_pos (by omega)]
      unfold wds
      rw [along_snoc (d.trR_ne hne)]
      unfold wds at e
      rw [← e]
      obtain ⟨b, hb⟩ := d.wsR_pre ((fdT rows sz n).getD n []) ((wsT rows sz n).getD n []) (fdT rows sz n) (wsT rows sz n) j
      have hl : n < (wsT rows sz n).length := by
        rw [ih]
        unfold wds
        rw [along_len hne, ← d.lens n (by omega)]
        exact d.go n hn
      rw [hb]
      dsimp only
      rw [getD_left hl]
theorem words : ∀ n, n ≤ N → wsT rows sz n = wds (trT (tbT rows sz N) rows.length n)
  | 0, _ => rfl
  | n + 1, h => d.wsRow (by omega) (words n (by omega)) rows.length (Nat.le_refl _)
/-- what a word does -/
def act (rows : Tab) (sz : Nat) (w : List Nat) : List Nat := w.foldl (fun f c => mul f (rows.getD (c - 97) [])) (List.range sz)
theorem act_snoc (w : List Nat) (c : Nat) : act rows sz (w ++ [c]) = mul (act rows sz w) (rows.getD (c - 97) []) := by
  unfold act; rw [List.foldl_append]; rfl
theorem act_map : ∀ w, Lt rows.length w → IsMap sz (act rows sz w) := by
  refine rev_ind (fun _ => one_map sz) fun w c ih h => ?_
  rw [d.act_snoc]
  have hc := h c (by simp)
  exact mul_map (ih fun x hx => h x (by simp [hx])) (d.maps _ (getD_mem (by omega)))
theorem F_run : ∀ w, Lt rows.length w → (fdT rows sz N).getD (run (tbT rows sz N) 0 w) [] = act rows sz w := by
  refine rev_ind (fun _ => ?_) fun w c ih h => ?_
  · have hp := d.good.pos
    show (fdT rows sz N).getD 0 [] = List.range sz
    rw [← d.Fn hp]; rfl
  · have hc := h c (by simp)
    have hw : Lt rows.length w := fun x hx => h x (by simp [hx])
    rw [run_snoc, d.F_cell (d.good.run_lt w hw) (by omega), ih hw, d.act_snoc]
theorem act_cons {a : Nat} (ha : a < rows.length) : ∀ w, Lt rows.length w → act rows sz ((97 + a) :: w) = mul (rows.getD a []) (act rows sz w) := by
  have hm := d.maps _ (getD_mem ha)
  refine rev_ind (fun _ => ?_) fun w c ih h => ?_
  · show mul (List.range sz) (rows.getD (97 + a - 97) []) = mul (rows.getD a []) (List.range sz)
    rw [show 97 + a - 97 = a by omega, one_mul hm]
    refine list_ext0 (by unfold mul; simp) fun i hi => ?_
    unfold mul
    rw [getD_map (d := 0) hi]
    have : (rows.getD a []).getD i 0 < sz := getD_lt hm (by rw [← hm.1]; exact hi)
    generalize (rows.getD a []).getD i 0 = x at this
    rw [List.getD_eq_getElem?_getD, List.getElem?_range this]; rfl
  · have hw : Lt rows.length w := fun x hx => h x (by simp [hx])
    rw [← List.cons_append, d.act_snoc, ih hw, d.act_snoc, mul_assoc hm (d.act_map w hw)]
theorem F_inj {a b : Nat} (ha : a < N) (hb : b < N) (h : (fdT rows sz N).getD a [] = (fdT rows sz N).getD b []) : a = b := by
  have ha' : a < (fdT rows sz N).length := by rw [d.stop]; exact ha
  have hb' : b < (fdT rows sz N).length := by rw [d.stop]; exact hb
  rw [List.getD_eq_getElem?_getD, List.getD_eq_getElem?_getD, List.getElem?_eq_getElem ha', List.getElem?_eq_getElem hb'] at h
  exact (List.getElem_inj (fdT_nodup N)).mp h
theorem prod : Prod (tbT rows sz N) rows.length N := by
  have g := d.good
  refine g.prod_of fun a n l ha hn hl => ?_
  have hv := d.cell_lt hn hl
  have l1 : ∀ k, k < N → Lt rows.length ((97 + a) :: W (tbT rows sz N) rows.length N k) := fun k hk c hc => by
    rcases List.mem_cons.mp hc with hc | hc
    · omega
    · exact g.ltW k hk c hc
  have r1 := g.run_lt _ (l1 n hn)
  refine d.F_inj (g.run_lt _ (l1 _ hv)) (d.cell_lt r1 hl) ?_
  rw [d.F_run _ (l1 _ hv), d.act_cons ha _ (g.ltW _ hv), ← d.F_run _ (g.ltW _ hv), g.runW _ hv, d.F_cell hn hl, d.F_cell r1 hl, d.F_run _ (l1 n hn), d.act_cons ha _ (g.ltW n hn), ← d.F_run _ (g.ltW n hn), g.runW n hn,
    mul_assoc (d.maps _ (getD_mem ha)) (d.Fm hn)]
theorem run_idx {w : List Nat} (hw : Lt rows.length w) : (fdT rows sz N).idxOf (act rows sz w) = run (tbT rows sz N) 0 w := by
  have hr := d.good.run_lt w hw
  have hm : act rows sz w ∈ fdT rows sz N := by
    rw [← d.F_run w hw]; exact getD_mem (by rw [d.stop]; exact hr)
  have h2 := List.idxOf_lt_length_iff.mpr hm
  rw [d.stop] at h2
  refine d.F_inj h2 hr ?_
  rw [getD_idx hm, d.F_run w hw]
end Done
end
end Mon
namespace Mon
theorem sorted_ext {α : Type} {R : α → α → Prop} (irr : ∀ a, ¬ R a a) (tr : ∀ {a b c}, R a b → R b c → R a c) : ∀ {l k : List α}, l.Pairwise R → k.Pairwise R → (∀ x, x ∈ l ↔ x ∈ k) → l = k
  | [], [], _, _, _ => rfl
  | [], b :: k, _, _, h => absurd ((h b).mpr List.mem_cons_self) (by simp)
  | a :: l, [], _, _, h => absurd ((h a).mp List.mem_cons_self) (by simp)
  | a :: l, b :: k, h1, h2, h => by
    rw [List.pairwise_cons] at h1 h2
    have hab : a = b := by
      rcases List.mem_cons.mp ((h a).mp List.mem_cons_self) with e | e
      · exact e
      · rcases List.mem_cons.mp ((h b).mpr List.mem_cons_self) with e2 | e2
        · exact e2.symm
        · exact absurd (tr (h1.1 b e2) (h2.1 a e)) (irr a)
    subst hab
    rw [sorted_ext irr tr h1.2 h2.2 fun x => ?_]
    constructor
    · intro hx
      rcases List.mem_cons.mp ((h x).mp (List.mem_cons_of_mem _ hx)) with e | e
      · subst e; exact absurd (h1.1 x hx) (irr x)
      · exact e
    · intro hx
      rcases List.mem_cons.mp ((h x).mpr (List.mem_cons_of_mem _ hx)) with e | e
      · subst e; exact absurd (h2.1 x hx) (irr x)
      · exact e
/-- all words of t letters, in order -/
def wl (m : Nat) : Nat → List (List Nat)
  | 0 => [[]]
  | t + 1 => (wl m t).flatMap fun w => (List.range m).map fun l => w ++ [97 + l]
theorem mem_wl {m : Nat} : ∀ (t : Nat) (w : List Nat), w ∈ wl m t ↔ Lt m w ∧ w.length = t
  | 0, w => by
    show w ∈ [[]] ↔ _
    rw [List.mem_singleton]
    constructor
    · intro h; subst h; exact ⟨(fun c hc => by cases hc), rfl⟩
    · intro h; exact List.length_eq_zero_iff.mp h.2
  | t + 1, w => by
    unfold wl
    rw [List.mem_flatMap]
    constructor
    · rintro ⟨u, hu, hw⟩
      obtain ⟨l, hl, rfl⟩ := List.mem_map.mp hw
      obtain ⟨h1, h2⟩ := (mem_wl t u).mp hu
      refine ⟨fun c hc => ?_, by simp [h2]⟩
      rcases List.mem_append.mp hc with hc | hc
      · exact h1 c hc
      · rw [List.mem_singleton.mp hc]
        have := List.mem_range.mp hl
        omega
    · rintro ⟨h1, h2⟩
      rcases List.eq_nil_or_concat w with rfl | ⟨u, c, rfl⟩
      · cases h2
      · rw [List.concat_eq_append] at *
        have hc := h1 c (by simp)
        refine ⟨u, (mem_wl t u).mpr ⟨fun d hd => h1 d (by simp [hd]), by simpa using h2⟩, List.mem_map.mpr ⟨c - 97, List.mem_range.mpr (by omega), ?_⟩⟩
        rw [show 97 + (c - 97) = c by omega]
theorem wl_sorted {m : Nat} : ∀ t, (wl m t).Pairwise slt
  | 0 => List.pairwise_singleton _ _
  | t + 1 => by
    unfold wl
    rw [List.pairwise_flatMap]
    refine ⟨fun u hu => ?_, (wl_sorted t).imp fun {a b} hab x hx y hy => ?_⟩
    · rw [List.pairwise_map]
      exact List.pairwise_lt_range.imp fun h => slt_last _ (by omega)
    · obtain ⟨l, _, rfl⟩ := List.mem_map.mp hx
      obtain ⟨l', _, rfl⟩ := List.mem_map.mp hy
      exact slt_app _ _ hab
/-- the parts of a word that are shorter than it -/
def parts (w : List Nat) : List (List Nat) := (List.range w.length).flatMap fun b => ((List.range (w.length + 1 - b)).filter fun i => decide (i < w.length)).map fun i => (w.drop b).take i
theorem mem_parts {w x : List Nat} : x ∈ parts w ↔ ∃ b i, b < w.length ∧ b + i ≤ w.length ∧ i < w.length ∧ x = (w.drop b).take i := by
  unfold parts
  rw [List.mem_flatMap]
  constructor
  · rintro ⟨b, hb, h⟩
    obtain ⟨i, hi, rfl⟩ := List.mem_map.mp h
    have h1 := List.mem_range.mp hb
    have h2 := List.mem_filter.mp hi
    have h3 := List.mem_range.mp h2.1
    exact ⟨b, i, h1, by omega, of_decide_eq_true h2.2, rfl⟩
  · rintro ⟨b, i, h1, h2, h3, rfl⟩
    exact ⟨b, List.mem_range.mpr h1, List.mem_map.mpr ⟨i, List.mem_filter.mpr ⟨List.mem_range.mpr (by omega), decide_eq_true h3⟩, rfl⟩⟩
section
variable {T : Tab} {m N : Nat}
theorem Good.mem_wds (g : Good T m N) {w : List Nat} : w ∈ wds (tree T m N) ↔ Known T m N w := by
  rw [List.mem_iff_getElem?]
  constructor
  · rintro ⟨k, hk⟩
    have h1 : k < N := by
      rw [← g.wlen]
      exact (List.getElem?_eq_some_iff.mp hk).1
    exact ⟨k, h1, by unfold W; rw [List.getD_eq_getElem?_getD, hk]; rfl⟩
  · rintro ⟨k, hk, e⟩
    have h1 : k < (wds (tree T m N)).length := by rw [g.wlen]; exact hk
    refine ⟨k, ?_⟩
    unfold W at e
    rw [List.getD_eq_getElem?_getD, List.getElem?_eq_getElem h1] at e
    rw [List.getElem?_eq_getElem h1]
    exact congrArg some e
theorem Good.known_nil (g : Good T m N) : Known T m N [] := ⟨0, g.pos, g.W0⟩
theorem Good.known_lt (g : Good T m N) {w : List Nat} (h : Known T m N w) : Lt m w := by
  obtain ⟨k, hk, rfl⟩ := h
  exact g.ltW k hk
theorem Good.known_tl (g : Good T m N) (p : Prod T m N) {c : Nat} {w : List Nat} (h : Known T m N (c :: w)) : Known T m N w := by
  have hl := g.known_lt h
  obtain ⟨k, hk, e⟩ := h
  have := g.tail p hk e
  exact ⟨_, g.run_lt w fun d hd => hl d (List.mem_cons_of_mem _ hd), this⟩
theorem Good.known_drop (g : Good T m N) (p : Prod T m N) : ∀ (b : Nat) (w : List Nat), Known T m N w → Known T m N (w.drop b)
  | 0, w, h => by rw [List.drop_zero]; exact h
  | b + 1, [], h => by rw [List.drop_nil]; exact h
  | b + 1, c :: w, h => by rw [List.drop_succ_cons]; exact g.known_drop p b w (g.known_tl p h)
theorem Good.known_init (g : Good T m N) {c : Nat} {w : List Nat} (h : Known T m N (w ++ [c])) : Known T m N w := by
  obtain ⟨k, hk, e⟩ := h
  by_cases h0 : k = 0
  · subst h0; rw [g.W0] at e; exact absurd e.symm (by simp)
  · rw [g.Wk (by omega) hk] at e
    have := (List.append_inj_left' e rfl)
    exact ⟨_, (g.fst (by omega) hk).2.2.2, this⟩
theorem Good.known_pre (g : Good T m N) (u : List Nat) : ∀ v, Known T m N (u ++ v) → Known T m N u := by
  refine rev_ind (fun h => by rwa [List.append_nil] at h) fun v c ih h => ?_
  rw [← List.append_assoc] at h
  exact ih (g.known_init h)
theorem Good.known_take (g : Good T m N) {w : List Nat} (i : Nat) (h : Known T m N w) : Known T m N (w.take i) :=
  g.known_pre _ (w.drop i) (by rw [List.take_append_drop]; exact h)
/-- what the listing by words asks of a word -/
def PP (T : Tab) (m N : Nat) (w : List Nat) : Prop := W T m N (run T 0 w) ≠ w ∧ ∀ x ∈ parts w, x ∈ wds (tree T m N)
instance : Decidable (PP T m N w) := inferInstanceAs (Decidable (_ ∧ _))
theorem Good.pp_of_rule (g : Good T m N) (p : Prod T m N) {n l : Nat} (hn : n < N) (hl : l < m) (h : rule T m N n l = true) : PP T m N (W T m N n ++ [97 + l]) := by
  obtain ⟨h1, h2⟩ := (g.rule_iff p hn hl).mp h
  refine ⟨fun e => h1 ((g.known_iff (g.Lt_snoc hn hl)).mpr e), fun x hx => g.mem_wds.mpr ?_⟩
  obtain ⟨b, i, hb, hbi, hi, rfl⟩ := mem_parts.mp hx
  cases b with
  | zero =>
    rw [List.drop_zero]
    simp at hi
    rw [List.take_append_of_le_length (by omega)]
    exact g.known_take _ ⟨n, hn, rfl⟩
  | succ b =>
    have e : (W T m N n ++ [97 + l]).drop (b + 1) = (W T m N n ++ [97 + l]).tail.drop b := by rw [← List.drop_one, List.drop_drop, Nat.add_comm]
    rw [e]
    exact g.known_take _ (g.known_drop p _ _ h2)
theorem Good.rule_of_pp (g : Good T m N) (p : Prod T m N) {w : List Nat} (hw : Lt m w) (h0 : w ≠ []) (h : PP T m N w) : ∃ n l, n < N ∧ l < m ∧ rule T m N n l = true ∧ w = W T m N n ++ [97 + l] := by
  obtain ⟨h1, h2⟩ := h
  rcases List.eq_nil_or_concat w with rfl | ⟨u, c, rfl⟩
  · exact absurd rfl h0
  · rw [List.concat_eq_append] at *
    have hc := hw c (by simp)
    have hu : Known T m N u := g.mem_wds.mp (h2 u (mem_parts.mpr ⟨0, u.length, by simp, by simp, by simp, by simp⟩))
    obtain ⟨n, hn, rfl⟩ := hu
    have ec : 97 + (c - 97) = c := by omega
    refine ⟨n, c - 97, hn, by omega, (g.rule_iff p hn (by omega)).mpr ?_, by rw [ec]⟩
    rw [ec]
    refine ⟨fun k => h1 ((g.known_iff hw).mp k), ?_⟩
    by_cases hl : (W T m N n ++ [c]).length = 1
    · have e : (W T m N n ++ [c]).tail = [] := by
        have : W T m N n = [] := List.length_eq_zero_iff.mp (by simpa using hl)
        rw [this]; rfl
      rw [e]; exact g.known_nil
    · refine g.mem_wds.mp (h2 _ (mem_parts.mpr ⟨1, (W T m N n ++ [c]).length - 1, ?_, ?_, ?_, ?_⟩))
      · have : 0 < (W T m N n ++ [c]).length := by simp
        omega
      · have : 0 < (W T m N n ++ [c]).length := by simp
        omega
      · have : 0 < (W T m N n ++ [c]).length := by simp
        omega
      · rw [List.drop_one, List.take_of_length_le (by rw [List.length_tail]; exact Nat.le_refl _)]
/-- the rules found by going through all words -/
def byW (T : Tab) (m N most : Nat) : List (List Nat × List Nat) := (List.range most).flatMap fun t => ((wl m (t + 1)).filter fun w => decide (PP T m N w)).map fun w => (w, W T m N (run T 0 w))
theorem Good.byW_eq (g : Good T m N) (p : Prod T m N) (most : Nat) : (rules T m N).filter (fun x => decide (x.1.length ≤ most)) = byW T m N most := by
  refine sorted_ext (R := fun a b => slt a.1 b.1) (fun a => slt_irr a.1) (fun {a b c} h h' => slt_trans (u := a.1) (v := b.1) (w := c.1) h h') (g.rules_sorted.filter _) ?_ fun x => ?_
  · unfold byW
    rw [List.pairwise_flatMap]
    refine ⟨fun t _ => ?_, List.pairwise_lt_range.imp fun {a b} hab x hx y hy => ?_⟩
    · rw [List.pairwise_map]
      exact (wl_sorted _).filter _
    · obtain ⟨u, hu, rfl⟩ := List.mem_map.mp hx
      obtain ⟨v, hv, rfl⟩ := List.mem_map.mp hy
      have h1 := ((mem_wl _ u).mp (List.mem_filter.mp hu).1).2
      have h2 := ((mem_wl _ v).mp (List.mem_filter.mp hv).1).2
      exact .inl (by dsimp only; omega)
  · unfold byW rules
    rw [List.mem_filter, List.mem_flatMap, List.mem_flatMap]
    constructor
    · rintro ⟨⟨n, hn, hx⟩, hlen⟩
      obtain ⟨l, hl, rfl⟩ := List.mem_map.mp hx
      have hn := List.mem_range.mp hn
      obtain ⟨hl, hr⟩ := List.mem_filter.mp hl
      have hl := List.mem_range.mp hl
      have hlen := of_decide_eq_true hlen
      dsimp only at hlen
      have hpos : 0 < (W T m N n ++ [97 + l]).length := by simp
      refine ⟨(W T m N n ++ [97 + l]).length - 1, List.mem_range.mpr (by omega), List.mem_map.mpr ⟨W T m N n ++ [97 + l], List.mem_filter.mpr ⟨(mem_wl _ _).mpr ⟨g.Lt_snoc hn hl, by omega⟩, decide_eq_true (g.pp_of_rule p hn hl hr)⟩, ?_⟩⟩
      rw [g.run_longer hn]
    · rintro ⟨t, ht, hx⟩
      obtain ⟨w, hw, rfl⟩ := List.mem_map.mp hx
      obtain ⟨hw, hp⟩ := List.mem_filter.mp hw
      obtain ⟨hw, hlen⟩ := (mem_wl _ _).mp hw
      have ht := List.mem_range.mp ht
      have h0 : w ≠ [] := fun e => by subst e; cases hlen
      obtain ⟨n, l, hn, hl, hr, rfl⟩ := g.rule_of_pp p hw h0 (of_decide_eq_true hp)
      refine ⟨⟨n, List.mem_range.mpr hn, List.mem_map.mpr ⟨l, List.mem_filter.mpr ⟨List.mem_range.mpr hl, hr⟩, by rw [g.run_longer hn]⟩⟩, decide_eq_true ?_⟩
      dsimp only
      omega
/-- the law's own listing of rules -/
def due (T : Tab) (m N : Nat) (ws : List (List Nat)) : List (List Nat × List Nat) := (List.range N).flatMap fun n => ((List.range m).filter fun l => decide (ws.getD n [] ++ [97 + l] ∉ ws ∧ (ws.getD n [] ++ [97 + l]).tail ∈ ws)).map fun l => (ws.getD n [] ++ [97 + l], ws.getD (at2 T n l) [])
theorem flatMap_congr' {α β : Type} {f h : α → List β} : ∀ l : List α, (∀ a ∈ l, f a = h a) → l.flatMap f = l.flatMap h
  | [], _ => rfl
  | a :: l, e => by rw [List.flatMap_cons, List.flatMap_cons, e a List.mem_cons_self, flatMap_congr' l fun b hb => e b (List.mem_cons_of_mem _ hb)]
theorem Good.due_eq (g : Good T m N) (p : Prod T m N) : due T m N (wds (tree T m N)) = rules T m N := by
  unfold due rules
  refine flatMap_congr' _ fun n hn => ?_
  have hn := List.mem_range.mp hn
  have e : (List.range m).filter (fun l => decide ((wds (tree T m N)).getD n [] ++ [97 + l] ∉ wds (tree T m N) ∧ ((wds (tree T m N)).getD n [] ++ [97 + l]).tail ∈ wds (tree T m N))) = (List.range m).filter (rule T m N n) := by
    refine List.filter_congr fun l hl => ?_
    have hl := List.mem_range.mp hl
    have h := g.rule_iff p hn hl
    cases hr : rule T m N n l with
    | true => exact decide_eq_true ⟨fun z => (h.mp hr).1 (g.mem_wds.mp z), g.mem_wds.mpr (h.mp hr).2⟩
    | false => exact decide_eq_false fun z => by rw [h.mpr ⟨fun k => z.1 (g.mem_wds.mpr k), g.mem_wds.mp z.2⟩] at hr; cases hr
  rw [e]
  rfl
end
theorem Good.W_len {T : Tab} {m N : Nat} (g : Good T m N) : ∀ k, k < N → (W T m N k).length ≤ k := fun k => by
  induction k using Nat.strongRecOn with
  | _ k ih =>
    intro h
    by_cases h0 : k = 0
    · subst h0; rw [g.W0]; exact Nat.le_refl _
    · have f := g.fst (by omega) h
      rw [g.Wk (by omega) h, List.length_append]
      have := ih _ f.1 f.2.2.2
      show _ + 1 ≤ k
      omega
theorem Good.Lf_lt {T : Tab} {m N : Nat} (g : Good T m N) {k : Nat} (hk : k < N) : ∀ x ∈ Lf T m N k, x < N := fun x hx => by
  obtain ⟨a, ha⟩ := List.mem_iff_getElem?.mp hx
  have h1 : a < (Lf T m N k).length := (List.getElem?_eq_some_iff.mp ha).1
  rw [g.Lf_len k hk] at h1
  have e := g.Lf_run k hk a h1
  rw [List.getD_eq_getElem?_getD, ha] at e
  have e2 : x = run T 0 ((97 + a) :: W T m N k) := e
  rw [e2]
  refine g.run_lt _ fun c hc => ?_
  rcases List.mem_cons.mp hc with hc | hc
  · omega
  · exact g.ltW k hk c hc
/-! ### tables that are written -/
instance : Decidable (Ord T m N) := inferInstanceAs (Decidable (∀ n, n < N → _ ∧ ∀ j, j < m → _))
instance : Decidable (Prod T m N) := decidable_of_iff (∀ n, n < N → ∀ l, l < m → Lf T m N (at2 T n l) = (Lf T m N n).map fun k => at2 T k l) ⟨fun h n l hn hl => h n hn l hl, fun h n hn l hl => h n l hn hl⟩
def okT (T : Tab) (m N : Nat) : Bool := decide (0 < N) && decide (Ord T m N) && decide (∀ n, n < N → ∀ l, l < m → at2 T n l < N) && decide (∀ n, n < N → (T.getD n []).length = m) && decide (Prod T m N)
theorem ok_good {T : Tab} {m N : Nat} (h : okT T m N = true) : Good T m N ∧ Prod T m N := by
  unfold okT at h
  simp only [Bool.and_eq_true, decide_eq_true_eq] at h
  obtain ⟨⟨⟨⟨h1, h2⟩, h3⟩, h4⟩, h5⟩ := h
  exact ⟨⟨h1, h2, fun n l hn hl => h3 n hn l hl, h4⟩, h5⟩
theorem ok1 : okT [[0, 0, 0, 0, 0, 0]] 6 1 = true := by decide +kernel
theorem ok2 : okT [[1, 1], [1, 1]] 2 2 = true := by decide +kernel
def ring : Tab := (List.range 39).map (fun n => [n + 1]) ++ [[7]]
theorem ok3 : okT ring 1 40 = true := by decide +kernel
theorem r1 : rules [[0, 0, 0, 0, 0, 0]] 6 1 = [([97], []), ([98], []), ([99], []), ([100], []), ([101], []), ([102], [])] := by decide +kernel
theorem r2 : rules [[1, 1], [1, 1]] 2 2 = [([98], [97]), ([97, 97], [97])] := by decide +kernel
theorem r3 : rules ring 1 40 = [(List.replicate 40 97, List.replicate 7 97)] := by decide +kernel
end Mon
/-! sorted(xs, key=lambda pair: (len(pair[0]), pair[0])) of pairs of texts that stand in that order already. -/
namespace My
open PySem PySem.Spec L2 SX LamX
open PyProof.Rows hiding St
section
variable {prog : Program} {w : World} {A : Around} {s : Shared} {env : Env} {mg mb m : Str → Option Value} {T : Addr} {z y : Str} {t t2 : Tok}
/-- pair[0] -/
theorem key_part {ck : Nat} {q2 q3 q4 : Pos} {Q : Value → Shared → Prop} {E : Value → Shared → Prop} (hk : env.scope.kind = .function) (hl : env.kindOf "pair" = some .local) (hn : s.heap.Ns env.locals m) (hm : m "pair" = some (.ref T))
    (hT : s.heap.IsTuple T #[.str z t, .str y t2]) (h : ∀ tk, Q (.str z t) { s with toks := tk }) :
    wpAny (model prog w) A (eval (.Subscript (.Name "pair" q2) (.Constant (.int 0) ck q3) q4) env) Q E s := by
  refine Subscript_ (wpAny_Name (wpAny_loadName_local hk hl hn hm (wpAny_Constant_int ?_)) (by decide))
  have hT2 : (({ s with toks := s.toks + 1 } : Shared)).heap.IsTuple T #[.str z t, .str y t2] := hT
  refine subscriptTail_builtinR (x := .str z t) hT2.typeIs slot_tuple_getitem.lookup (getItem_tuple (j := 0) (Q := fun r s' => r = .str z t ∧ Q r s') hT2 (by decide) (by decide) (by rfl) rfl ⟨rfl, h _⟩) (by rfl)
/-- the key's expression -/
def keyE (c1 c2 c3 : Nat) (q1 q2 q3 q4 q5 q6 q7 q8 q9 : Pos) : Expr := .Tuple [.Call (.Name "len" q1) [.Subscript (.Name "pair" q2) (.Constant (.int 0) c1 q3) q4] [] q5, .Subscript (.Name "pair" q6) (.Constant (.int 0) c2 q7) q8] c3 q9
theorem key_body {c1 c2 c3 : Nat} {q1 q2 q3 q4 q5 q6 q7 q8 q9 : Pos} {E : Value → Shared → Prop} (hk : env.scope.kind = .function) (hl : env.kindOf "pair" = some .local) (hn : s.heap.Ns env.locals m) (hm : m "pair" = some (.ref T))
    (hg : env.kindOf "len" = some .globalImplicit) (hG : s.heap.Ns env.globals mg) (hG0 : mg "len" = none) (hB : s.heap.Ns env.builtins mb) (hB0 : mb "len" = some (.builtin "len")) (hz : z.length ≤ 100000)
    (hT : s.heap.IsTuple T #[.str z t, .str y t2]) :
    wpAny (model prog w) A (eval (keyE c1 c2 c3 q1 q2 q3 q4 q5 q6 q7 q8 q9) env) (PySem.W.KeyPure (.tuple [.int z.length, .str z]) s) E s := by
  unfold keyE
  refine wpAny_Tuple_spliced ?_
  show wpAny _ _ (spliced ((false, eval _ env) :: (false, eval _ env) :: [])) _ _ s
  refine Calls.spliced_cons (wpAny_Call_Name_kw (Calls.Name_function_global hk hg (Calls.loadGlobal_builtin hG hG0 hB hB0 ?_) (by decide)))
  refine PyProof.Rows.callWith_builtin1 (Calls.spliced_cons (key_part hk hl hn hm hT fun tk => Calls.spliced_nil ?_)) (by rfl) (by rfl)
  refine len_str (by omega) ?_
  refine Calls.spliced_cons (key_part (s := { s with toks := tk + 1 + 1 }) hk hl hn hm hT fun tk2 => Calls.spliced_nil ⟨(by show 2 ≤ sizeLine; decide), ?_⟩)
  refine ⟨_, _, rfl, fun b o e => Heap.get?_push_of_some _ e, ?_⟩
  refine Reads.tuple (Heap.get?_push_size _ rfl) rfl rfl ?_
  exact (ReadsAll.cons (.int _ _) (ReadsAll.cons (.str _ _) .nil) : ReadsAll _ _ _ ([] ++ ([] ++ [])))
/-- the lambda called with a pair -/
theorem key_call {c1 c2 c3 : Nat} {q1 q2 q3 q4 q5 q6 q7 q8 q9 : Pos} {f c' : Addr} {q : Str} {params : Arguments} {scope : Scope} {pm ctv : Value} {P : Program} {w : World} (hA : A.depth < recursionLimit)
    (of1 : s.heap.get? f = some (PySem.W.kla_obj "<lambda>" q params (keyE c1 c2 c3 q1 q2 q3 q4 q5 q6 q7 q8 q9) scope [] pm c' ctv)) (S : FnScope ["pair"] ["pair"] scope) (hloc : scope.names.lookup ("pair" : Str) = some NameKind.local) (hlen : scope.names.lookup ("len" : Str) = some NameKind.globalImplicit)
    (hrec : s.heap.CodeRec (.ref c') q) (hbind : bindArgs (PySem.W.kla_fn "<lambda>" q params (keyE c1 c2 c3 q1 q2 q3 q4 q5 q6 q7 q8 q9) scope [] pm (.ref c') ctv) ⟨[.ref T], []⟩ = pure [(("pair" : Str), Value.ref T)])
    (lim : s.heap.NoLimit) (hG : s.heap.Ns mainGlobals mg) (hG0 : mg "len" = none) (hB : s.heap.Ns builtinsNs mb) (hB0 : mb "len" = some (.builtin "len")) (hz : z.length ≤ 100000) (hT : s.heap.IsTuple T #[.str z t, .str y t2]) :
    wpAny (model P w) A (call (.ref f) [.ref T]) (PySem.W.KeyPure (.tuple [.int z.length, .str z]) s) (fun _ _ => False) s := by
  refine wpAny_call (PySem.W.kla_callFunE hA of1 rfl S.co S.gen rfl hrec ?_)
  rw [hbind]
  refine wpAny_pure (wpAny_newFunctionEnv_cells S.kind (fun y hy => ?_) fun env he s1 x => ?_)
  · obtain rfl : y = (("pair" : Str), Value.ref T) := List.mem_singleton.mp hy
    exact .inl hloc
  · subst he
    obtain ⟨h1, tk, rfl, hk⟩ := id x.done
    refine ⟨lim.keeps hk, PySem.W.kla_codeExpr ?_⟩
    refine wpAny_mono (key_body (T := T) (z := z) (y := y) (t := t) (t2 := t2) (mg := mg) (mb := mb) (m := bindL (fun y => scope.names.lookup y) [(("pair" : Str), Value.ref T)] fun _ => none) S.kind hloc x.toInCall.ns ?_ hlen (hG.keeps hk) hG0 (hB.keeps hk) hB0 hz (let ⟨o, e, r⟩ := hT; ⟨o, hk _ _ e, r⟩)) (fun v s' hq => ?_) (fun _ _ z => z)
    · simp [bindL, hloc]
    · obtain ⟨h2, tk2, rfl, hk2, r⟩ := hq
      exact ⟨h2, tk2, rfl, fun b o e => hk2 b o (hk b o e), r⟩
end
/-! ### the order -/
def keyD (b : List Nat × List Nat) : PyData := .tuple [.int ((b.1.length : Nat) : Int), .str (S b.1)]
instance (u v : List Nat) : Decidable (Mon.slt u v) := inferInstanceAs (Decidable (_ ∨ _))
theorem key_lt (x y : List Nat × List Nat) : PySem.W.dataLt (keyD x) (keyD y) = decide (Mon.slt x.1 y.1) := by
  unfold keyD
  rw [PySem.W.dataLt_pair (by simp [PySem.W.alike]) (by simp [PySem.W.alike]), PySem.W.dataLt_int, PySem.W.dataLt_str, eqStr]
  have e1 : PyData.eqv (.int ((x.1.length : Nat) : Int)) (.int ((y.1.length : Nat) : Int)) = decide (x.1.length = y.1.length) := by
    simp only [PyData.eqv]
    by_cases h : x.1.length = y.1.length
    · simp [h]
    · have h2 : ¬ ((x.1.length : Int) = (y.1.length : Int)) := by omega
      simp [h, h2]
  rw [e1]
  unfold Mon.slt
  by_cases h : x.1.length = y.1.length
  · have h0 : ¬ x.1.length < y.1.length := by omega
    by_cases h2 : x.1 = y.1
    · simp [h, h2, List.lt_irrefl]
    · simp [h, h2]
  · simp [h]
theorem key_sorted {bs : List (List Nat × List Nat)} {xs : List V} (hl : xs.length = bs.length) (h : bs.Pairwise fun a b => Mon.slt a.1 b.1) : (xs.zip bs).mergeSort (PySem.W.dataLe false fun p : V × (List Nat × List Nat) => keyD p.2) = xs.zip bs := by
  refine List.mergeSort_of_pairwise ?_
  have h2 : ((xs.zip bs).map Prod.snd).Pairwise fun a b => Mon.slt a.1 b.1 := by rw [List.map_snd_zip (by omega)]; exact h
  rw [List.pairwise_map] at h2
  refine h2.imp fun {a b} hab => ?_
  show (!PySem.W.dataLt (keyD b.2) (keyD a.2)) = true
  rw [key_lt, Bool.not_eq_true']
  exact decide_eq_false fun z => Mon.slt_irr _ (Mon.slt_trans hab z)
theorem each_of {bs : List (List Nat × List Nat)} : ∀ {xs : List V} {us : List Value} {bs : List (List Nat × List Nat)}, Vals xs us → xs.length = bs.length → PySem.W.EachIs (fun u (p : V × (List Nat × List Nat)) => RelV p.1 u) us (xs.zip bs)
  | [], _, [], r, _ => by cases r; exact .nil
  | [], _, _ :: _, _, h => by cases h
  | x :: xs, _, [], _, h => by cases h
  | x :: xs, _, b :: bs, r, h => by
    cases r with
    | cons r1 r2 => exact .cons r1 (each_of (bs := bs) r2 (by simpa using h))
theorem vals_of {bs : List (List Nat × List Nat)} : ∀ {xs : List V} {us : List Value} {bs : List (List Nat × List Nat)}, xs.length = bs.length → PySem.W.EachIs (fun u (p : V × (List Nat × List Nat)) => RelV p.1 u) us (xs.zip bs) → Vals xs us
  | [], us, bs, _, e => by
    have h : us.length = 0 := by rw [e.length]; simp
    rw [List.length_eq_zero_iff.mp h]
    exact .nil
  | x :: xs, us, [], h, _ => by cases h
  | x :: xs, us, b :: bs, h, e => by
    rw [List.zip_cons_cons] at e
    cases e with
    | cons e1 e2 => exact .cons e1 (vals_of (bs := bs) (by simpa using h) e2)
/-- the items of xs are pairs of texts -/
def Pairs (K : PySem.W.Frag) (H : Hp) (xs : List V) (bs : List (List Nat × List Nat)) : Prop := xs.length = bs.length ∧ ∀ (i : Nat) (b : List Nat × List Nat), bs[i]? = some b → ∃ T, xs[i]? = some (.ref T) ∧ SqT K H T [.str (S b.1), .str (S b.2)]
theorem SqL.extN {K : PySem.W.Frag} {H H' : Hp} {a : Addr} {xs : List V} (h : SqL K H a xs) (e : ExtN H H') : SqL K H' a xs := by
  rcases h with (h | ⟨o, h⟩) | h
  · exact .inl (.inl (e _ _ h fun ps z => by cases z))
  · exact .inl (.inr ⟨o, e _ _ h fun ps z => by cases z⟩)
  · exact .inr h
theorem SqT.extN {K : PySem.W.Frag} {H H' : Hp} {a : Addr} {xs : List V} (h : SqT K H a xs) (e : ExtN H H') : SqT K H' a xs := by
  rcases h with (h | ⟨o, h⟩) | h
  · exact .inl (.inl (e _ _ h fun ps z => by cases z))
  · exact .inl (.inr ⟨o, e _ _ h fun ps z => by cases z⟩)
  · exact .inr h
theorem Pairs.extN {K : PySem.W.Frag} {H H' : Hp} {xs : List V} {bs : List (List Nat × List Nat)} (h : Pairs K H xs bs) (e : ExtN H H') : Pairs K H' xs bs := ⟨h.1, fun i b hb => let ⟨T, e1, e2⟩ := h.2 i b hb; ⟨T, e1, SqT.extN e2 e⟩⟩
def tSortLam (K : PySem.W.Frag) (TT : List (Addr × Str)) (t : TA) : TE := fun σ H Q => t σ H fun vs H1 => ∃ (a : Addr) (xs : List V) (bs : List (List Nat × List Nat)), vs = [.ref a] ∧ SqL K H1 a xs ∧ Pairs K H1 xs bs ∧ bs.length ≤ 100000 ∧ (∀ b ∈ bs, b.1.length ≤ 100000) ∧ (bs.Pairwise fun a b => Mon.slt a.1 b.1) ∧ Tabs TT H1 ∧
  ∀ p H2, ExtN H1 H2 → Tabs TT H2 → H2 p = none → Q (.ref p) (L2.upd H2 p (.lst xs))
section
variable {X : Cx}
theorem pe_sortLam {TT : List (Addr × Str)} {c P : Addr} {params : Arguments} {scope : Scope} {k : Nat} {e : Expr} {t : TA} {p pos lpos kpos : Pos} {c1 c2 c3 : Nat} {q1 q2 q3 q4 q5 q6 q7 q8 q9 : Pos}
    (TB : TabB X.base X.mg c P) (hcode : X.env.code = .ref c) (hmT : (P, X.env.qual ++ "<lambda>") ∈ TT) (hu : ∀ p ∈ TT, p.1 = P → p.2 = X.env.qual ++ "<lambda>") (hr : Room k X.A) (hg : Gl X "sorted") (hm : X.mg "sorted" = none) (hml : X.mg "len" = none)
    (S1 : FnScope ["pair"] ["pair"] scope) (hloc : scope.names.lookup ("pair" : Str) = some NameKind.local) (hlen : scope.names.lookup ("len" : Str) = some NameKind.globalImplicit) (hdef : defaultsOf params X.env = ([], [])) (hfree : ∀ y ∈ scope.names, y.2 ≠ .free) (hclo : cloFrom X.env.cells scope.names [] = [])
    (hbind : ∀ (q : Str) (pm cv ctv u : Value), bindArgs (PySem.W.kla_fn "<lambda>" q params (keyE c1 c2 c3 q1 q2 q3 q4 q5 q6 q7 q8 q9) scope [] pm cv ctv) ⟨[u], []⟩ = pure [(("pair" : Str), u)])
    (ha : PA X [e] t) (he : backTo pos (starEach [e] X.env) = (false, eval e X.env) :: backTo pos (starEach [] X.env) := by rfl) (hpl : (backTo pos (starEach [e] X.env)).any (·.1) = false := by rfl) :
    PE X (.Call (.Name "sorted" p) [e] [⟨some "key", .Lambda params (keyE c1 c2 c3 q1 q2 q3 q4 q5 q6 q7 q8 q9) scope lpos, kpos⟩] pos) (tSortLam X.K TT t) := by
  refine ⟨fun pins s σ H Q I h => ?_⟩
  refine wpAny_Call_Name_kw (ld_blt I hg hm boot_sorted ?_)
  refine PyProof.Rows.callWith_kw (thn (ha.run pos pins s σ H _ I h) fun us s1 ⟨vs, H1, I1, r1, q1⟩ => ?_) he hpl
  obtain ⟨a, xs, bs, rfl, hs, hp, hb, hbl, hso, hT, q⟩ := q1
  obtain rfl := Vals.ref1 r1
  show wpAny _ _ (evalAll ((do let v ← eval (.Lambda params (keyE c1 c2 c3 q1 q2 q3 q4 q5 q6 q7 q8 q9) scope lpos) X.env; standAt pos; pure v) :: [])) _ _ s1
  refine wpAny_evalAll_cons (wpAny_bind (lam_make2 I1 TB hcode hmT hu hT hdef (fun y hy e => absurd e (hfree y hy)) fun f c' pm' ctv H2 s2 I2 eN T2 hf hfn hfr hco => wpAny_bind (wpAny_standAt (wpAny_pure (wpAny_evalAll_nil ?_)))))
  show wpAny _ _ (call (.builtin "sorted") [.ref a] [(Str.ofString "key", .ref f)]) _ _ s2
  rw [hclo] at hf
  obtain ⟨its, rv, hl, hz⟩ := I2.list (SqL.extN hs eN)
  have hp2 := hp.extN eN
  obtain ⟨⟨oc, vs, t3, hoc, hdc, hvc⟩, _, _⟩ := I2.hok c' _ hco
  obtain ⟨mb, hb1, hb2⟩ := I2.mod.blt
  have hd := hr.depth
  have hun := hr.units
  have hzl : (xs.zip bs).length = xs.length := by rw [List.length_zip]; have := hp.1; omega
  refine PySem.W.sorted_key_data (β := V × (List Nat × List Nat)) (b := false) (fun p => keyD p.2) hl.isList (each_of (bs := bs) rv hp.1) (PySem.W.AllAlike.of fun _ _ => by simp [keyD, PySem.W.alike, PySem.W.alikeAll]) (PySem.W.Sortable.tuples fun _ => ⟨_, _, rfl⟩) (by rw [hzl]; exact hz)
    (fun x _ => ?_) (PyProof.Rows.ksk_s1 _ _) (fun _ => PyProof.Rows.ksk_l1 _ _) (fun _ => PyProof.Rows.ksk_t1 _ _) (fun v x hR hx h tk kp => ?_) fun out c4 h' tk kp hfr2 hD hlo eo => ?_
  · have e : (keyD x.2).depth = 1 := by simp [keyD, PyData.depth, PyData.depthAll]
    rw [e]; omega
  · obtain ⟨i, hi⟩ := List.mem_iff_getElem?.mp hx
    obtain ⟨xv, b⟩ := x
    rw [List.getElem?_zip_eq_some] at hi
    obtain ⟨T, e1, e2⟩ := hp2.2 i b hi.2
    have e3 : xv = .ref T := by rw [hi.1] at e1; exact Option.some.inj e1
    subst e3
    obtain rfl : v = Value.ref T := hR
    obtain ⟨it2, rv2, pl2, _⟩ := I2.tuple e2
    obtain ⟨u1, u2, rfl, ⟨t1, rfl⟩, ⟨t2, rfl⟩⟩ := vals2 rv2
    have hT2 : h.IsTuple T #[.str (S b.1) t1, .str (S b.2) t2] := let ⟨o, e, r⟩ := pl2; ⟨o, kp _ _ e, r⟩
    have hk := key_call (A := X.A.in1.in1) (P := X.prog) (w := X.w) (s := { s2 with heap := h, toks := tk }) (z := S b.1) (mg := X.mg) (mb := mb) (by exact hd) (kp _ _ hf) S1 hloc hlen ⟨c', oc, vs, t3, rfl, kp _ _ hoc, hdc, hvc⟩ (hbind _ _ _ _ _) (I2.nolimit.keeps kp)
      ((I2.mod.glob.keeps I2.bk).keeps kp) hml ((hb1.keeps I2.bk).keeps kp) ((hb2 "len" (by decide)).trans boot_len) (by rw [S_len]; exact hbl b (List.mem_of_getElem? hi.2)) hT2
    rw [S_len] at hk
    exact hk
  · rw [key_sorted hp.1 hso] at eo
    have rv3 := vals_of (bs := bs) hp.1 eo
    have new : s2.heap.objs.size ≤ s2.heap.objs.size + 1 := Nat.le_succ _
    exact ⟨.ref _, L2.upd H2 (s2.heap.objs.size + 1) (.lst xs), I2.laid (t' := tk) kp new ⟨hz, out, c4, rv3, hD⟩, rfl, q _ _ eN T2 (I2.hok.fresh new)⟩
end
end My
/-! A dict of one pair whose key is a tuple; readings for objects, dicts, tables. -/
namespace My
open PySem PySem.Spec L2 SX
open PyProof.Rows hiding St
def tDisp1T (tk tv : TE) : TE := fun σ H Q => ∀ p, H p = none → tk σ (upd H p (.dT [])) fun x H1 => tv σ H1 fun y H2 => H2 p = some (.dT []) ∧ ∃ (b : Addr) (ks : List Key), x = .ref b ∧ H2 b = some (.tup (ks.map kV)) ∧ Q (.ref p) (upd H2 p (.dT (putK [] ks y)))
section
variable {X : Cx} {k v : Expr} {tk tv : TE} {pos : Pos}
theorem pe_disp1T (hu : X.A.units + 1 < cLine) (hk : PE X k tk) (hv : PE X v tv) : PE X (.Dict [some k] [v] pos) (tDisp1T tk tv) := by
  refine ⟨fun pins s σ H Q I q => ?_⟩
  have hn := I.hok.fresh (Nat.le_refl s.heap.objs.size)
  have I1 := I.laid (a := s.heap.objs.size) (o := .dT []) (h' := s.heap.push { cls := .type "dict", data := .dict #[] }) (t' := s.toks) (fun _ _ e => Heap.get?_push_of_some _ e) (Nat.le_refl _) (dt_empty s.heap I.big)
  rw [arm_eval_Dict, zip_pairTrees [some k] [v] X.env pos rfl rfl, dictDisplay_pairs (pairTrees [some k] [v] X.env pos) (by intro z; cases z) (by show 1 < 17; decide)]
  refine wpAny_bind (wpAny_standAt (wpAny_bind ?_))
  unfold subDict
  refine wpAny_bind (wpAny_alloc ?_)
  refine wpAny_bind (wpAny_holding ?_)
  rw [if_pos (by show 1 ≤ 15; decide)]
  refine wpAny_bind (pairTrees_cons_walk (thn (hk.run pins _ σ _ _ I1 (q _ hn)) fun u s1 ⟨x, H1, I2, rx, q1⟩ => thn (hv.run pins s1 σ H1 _ I2 q1) fun w2 s2 ⟨y, H2, I3, ry, hd, b, ks, ex, eb, q2⟩ => pairTrees_nil_walk ?_))
  subst ex
  obtain rfl : u = Value.ref b := rx
  obtain ⟨z, hm, xs, rel, dd⟩ := dt_of I3.hok hd
  cases rel
  refine wpAny_holding ?_
  rw [List.forIn_cons]
  refine wpAny_bind (wpAny_bind (wpAny_bind (wpAny_dictSet_heap (hsz := Nat.zero_le _) (show X.A.units < cLine by omega) (key_of I3.hok eb) dd fun h' dd' hs => wpAny_pure ?_)))
  dsimp only
  rw [List.forIn_nil]
  refine wpAny_pure (wpAny_pure (wpAny_pure ?_))
  obtain ⟨o, es, ep, e1, e2, e3, e4, _, e5⟩ := dd'
  refine wpAny_pure ⟨.ref s.heap.objs.size, _, d_write I3 (by rw [hd]; exact True.intro) hs ⟨o, e1⟩ ?_, rfl, q2⟩
  refine ⟨by show 1 ≤ sizeLine; decide, hm, _, ?_, o, es, ep, e1, e2, e3, e4, e5⟩
  refine .cons ⟨rfl, ?_, ry⟩ .nil
  rw [upd_ne (ne_of eb hd (fun z => nomatch z))]
  exact eb
end

/-! ### readings -/
section
variable {σ : St} {H : Hp} {Q : VK} {D : Ends} {te ta tb : TE} {t : TA} {v x y : V} {K : PySem.W.Frag} {f m : Str} {C : Addr} {sp : Sp} {E : XK}
def qFld (K : PySem.W.Frag) (f : Str) (x : V) (H1 : Hp) (Q : VK) : Prop := ∃ a C dx fs v, x = .ref a ∧ H1 a = some (.ins C dx fs) ∧ Cls K C ∧ NoAttr K C f ∧ fs.lookup f = some v ∧ Q v H1
theorem rd_fld (h : te σ H fun x H1 => qFld K f x H1 Q) : tFld K te f σ H Q := h
theorem rd_qFld {a dx : Addr} {fs : List (Str × V)} (c : Cls K C) (h : H a = some (.ins C dx fs)) (n : NoAttr K C f) (l : fs.lookup f = some v) (q : Q v H) : qFld K f (.ref a) H Q := ⟨a, C, dx, fs, v, rfl, h, c, n, l, q⟩
def qSFld (K : PySem.W.Frag) (f : Str) (x y : V) (H2 : Hp) (R : Hp → Prop) : Prop := ∃ a C dx fs, x = .ref a ∧ H2 a = some (.ins C dx fs) ∧ Cls K C ∧ NoAttr K C f ∧ fs.length < 1000 ∧ R (upd H2 a (.ins C dx (putF f y fs)))
theorem rd_sFld (h : tb σ H fun y H1 => ta σ H1 fun x H2 => qSFld K f x y H2 fun H3 => D.nx σ H3) : sFld K ta tb f D σ H := h
theorem rd_qSFld {a dx : Addr} {fs : List (Str × V)} {R : Hp → Prop} (c : Cls K C) (h : H a = some (.ins C dx fs)) (n : NoAttr K C f) (l : fs.length < 1000) (q : R (upd H a (.ins C dx (putF f y fs)))) : qSFld K f (.ref a) y H R := ⟨a, C, dx, fs, rfl, h, c, n, l, q⟩
theorem rd_meth (h : te σ H fun x H1 => ∃ a dx fs, x = .ref a ∧ H1 a = some (.ins C dx fs) ∧ fs.lookup m = none ∧ t σ H1 fun vs H2 => sp (x :: vs) H2 Q E) : tMeth C m sp [] E te t σ H Q := by
  show te σ H fun x H1 => ∃ a dx fs, x = .ref a ∧ H1 a = some (.ins C dx fs) ∧ fs.lookup m = none ∧ t σ H1 fun vs H2 => sp (x :: (vs ++ [])) H2 Q E
  simp only [List.append_nil]
  exact h
theorem rd_make (h : t σ H fun vs H1 => ∀ x dx, H1 x = none → H1 dx = none → dx ≠ x → sp (.ref x :: vs) (upd (upd H1 dx (.own x)) x (.ins C dx [])) (fun v H2 => v = .non ∧ Q (.ref x) H2) E) : tMake C sp [] E t σ H Q := by
  show t σ H fun vs H1 => ∀ x dx, H1 x = none → H1 dx = none → dx ≠ x → sp (.ref x :: (vs ++ [])) (upd (upd H1 dx (.own x)) x (.ins C dx [])) (fun v H2 => v = .non ∧ Q (.ref x) H2) E
  simp only [List.append_nil]
  exact h
/-! dicts -/
def qDIn (neg : Bool) (y x : V) (H2 : Hp) (Q : VK) : Prop := ∃ a o, x = .ref a ∧ DGet H2 a y o ∧ Q (.bl (if neg then !o.isSome else o.isSome)) H2
theorem rd_dIn (h : ta σ H fun y H1 => te σ H1 fun x H2 => qDIn false y x H2 Q) : tDIn ta te σ H Q := h
theorem rd_dNotIn (h : ta σ H fun y H1 => te σ H1 fun x H2 => qDIn true y x H2 Q) : tDNotIn ta te σ H Q := h
theorem rd_qInK {neg : Bool} {a : Addr} {kvs : List (Key × V)} (k : Key) (h : H a = some (.dK kvs)) (q : Q (.bl (if neg then !(valV kvs k).isSome else (valV kvs k).isSome)) H) : qDIn neg (kV k) (.ref a) H Q := ⟨a, _, rfl, DGet.k h, q⟩
theorem rd_qInT {neg : Bool} {a b : Addr} {kvs : List (List Key × V)} (k : List Key) (h : H a = some (.dT kvs)) (e : H b = some (.tup (k.map kV))) (q : Q (.bl (if neg then !(valV kvs k).isSome else (valV kvs k).isSome)) H) : qDIn neg (.ref b) (.ref a) H Q := ⟨a, _, rfl, DGet.t h e, q⟩
theorem rd_qGetK {a : Addr} {kvs : List (Key × V)} (k : Key) (h : H a = some (.dK kvs)) (e : valV kvs k = some v) (q : Q v H) : qDGet (.ref a) (kV k) H Q := ⟨a, v, rfl, by have := DGet.k (k := k) h; rw [e] at this; exact this, q⟩
theorem rd_qGetT {a b : Addr} {kvs : List (List Key × V)} (k : List Key) (h : H a = some (.dT kvs)) (eb : H b = some (.tup (k.map kV))) (e : valV kvs k = some v) (q : Q v H) : qDGet (.ref a) (.ref b) H Q := ⟨a, v, rfl, by have := DGet.t (k := k) h eb; rw [e] at this; exact this, q⟩
theorem rd_qPutK {a : Addr} {kvs : List (Key × V)} {R : Hp → Prop} (k : Key) (h : H a = some (.dK kvs)) (hl : kvs.length < 100000) (q : R (upd H a (.dK (putK kvs k v)))) : qDPut (.ref a) (kV k) v H R := ⟨a, _, rfl, DPut.k (k := k) h (szlt hl), q⟩
theorem rd_qPutT {a b : Addr} {kvs : List (List Key × V)} {R : Hp → Prop} (k : List Key) (h : H a = some (.dT kvs)) (eb : H b = some (.tup (k.map kV))) (hl : kvs.length < 100000) (q : R (upd H a (.dT (putK kvs k v)))) : qDPut (.ref a) (.ref b) v H R :=
  ⟨a, _, rfl, by first | exact DPut.t (k := k) h eb (szlt hl) | exact .inr ⟨kvs, k, b, h, rfl, eb, szlt hl, rfl⟩, q⟩
end

/-! ### a def whose code object is told -/
structure FunC (K : PySem.W.Frag) (c : Addr) (x qual : Str) (st : Stmt) (f : Addr) (fd : FuncData) : Prop where
  ex : ∃ (oc : Value) (od : Option Addr) (kV doc pm : Value) (an : Option Addr) (ct : Value) (osl : Array (Option Value)),
    fd = PySem.W.fnOf x qual (defArgs st) (defBody st) (defScope st) .none kV doc pm an (.ref c) ct ∧ K.lookup f = some ⟨oc, od, .func fd, osl⟩ ∧ PySem.W.codeIn K (.ref c) qual = true
section
variable {P : Program} {w : World} {K : PySem.W.Frag} {mg : Str → Option Value} {base : Heap}
theorem FunC.ok {c : Addr} {x qual : Str} {st : Stmt} {f : Addr} {fd : FuncData} {N ps : List Str} {k : Nat} {sp : Sp} (F : FunC K c x qual st f fd) (S1 : FnScope N ps (defScope st)) (len : ∀ vs H Q E, sp vs H Q E → vs.length = ps.length)
    (hbody : ∀ (A : Around) (outer : List Env) (s : Shared) (H : Hp) (vs : List V) (Q : VK) (E : XK), Room k (A.deeper (envOfC qual (defScope st) s.heap.objs.size f (.ref c))) → sp vs H Q E →
      ∃ t, PSs (cxOf L2.CX0 P w K mg base N qual (defScope st) f (.ref c) A outer s H E).nox (defBody st) t ∧ t { nx := fun _ H' => Q .non H', rt := Q } (start N vs) H) : FnOk P w K mg base L2.CX0 (k + 1) f fd ps sp := by
  obtain ⟨oc, od, kV, doc, pm, an, ct, osl, rfl, lk, hcd⟩ := F.ex
  refine fn_of lk hcd S1 len fun A outer s H vs Q E hr hsp => ?_
  obtain ⟨t, h, q⟩ := hbody A outer s H vs Q E hr hsp
  exact ⟨t, h.nox, q⟩
end
/-! ### tables, lists of texts, lists of pairs, as they lie -/
abbrev vI (n : Nat) : V := .int ((n : Nat) : Int)
def rowV (l : List Nat) : List V := l.map vI
def txV (ws : List (List Nat)) : List V := ws.map fun w => V.str (S w)
def refs (as : List Addr) : List V := as.map V.ref
def Bx : Bool → List V → HO
  | true, xs => .tup xs
  | false, xs => .lst xs
/-- lists and tuples are kept -/
def Kq (H H' : Hp) : Prop := (∀ a xs, H a = some (.lst xs) → H' a = some (.lst xs)) ∧ ∀ a xs, H a = some (.tup xs) → H' a = some (.tup xs)
theorem Kq.refl (H : Hp) : Kq H H := ⟨fun _ _ h => h, fun _ _ h => h⟩
theorem Kq.trans {H H1 H2 : Hp} (a : Kq H H1) (b : Kq H1 H2) : Kq H H2 := ⟨fun p xs h => b.1 p xs (a.1 p xs h), fun p xs h => b.2 p xs (a.2 p xs h)⟩
theorem Kq.of {H H' : Hp} (s : Same H H') : Kq H H' := ⟨fun a xs h => s a _ h, fun a xs h => s a _ h⟩
theorem Kq.bx {H H' : Hp} (k : Kq H H') {b : Bool} {a : Addr} {xs : List V} (h : H a = some (Bx b xs)) : H' a = some (Bx b xs) := by
  cases b with
  | true => exact k.2 a xs h
  | false => exact k.1 a xs h
/-- a table: rows in a list or tuple -/
def Tb (b1 b2 : Bool) (H : Hp) (p : Addr) (T : List (List Nat)) : Prop := ∃ as : List Addr, H p = some (Bx b1 (refs as)) ∧ as.length = T.length ∧ ∀ (i : Nat) (a : Addr) (r : List Nat), as[i]? = some a → T[i]? = some r → H a = some (Bx b2 (rowV r))
theorem Tb.kq {b1 b2 : Bool} {H H' : Hp} {p : Addr} {T : List (List Nat)} (h : Tb b1 b2 H p T) (k : Kq H H') : Tb b1 b2 H' p T := by
  obtain ⟨as, h1, h2, h3⟩ := h
  exact ⟨as, k.bx h1, h2, fun i a r e1 e2 => k.bx (h3 i a r e1 e2)⟩
/-- a list of pairs of texts -/
def Prs (H : Hp) (p : Addr) (bs : List (List Nat × List Nat)) : Prop := ∃ as : List Addr, H p = some (.lst (refs as)) ∧ as.length = bs.length ∧ ∀ (i : Nat) (a : Addr) (b : List Nat × List Nat), as[i]? = some a → bs[i]? = some b → H a = some (.tup [.str (S b.1), .str (S b.2)])
theorem Prs.kq {H H' : Hp} {p : Addr} {bs : List (List Nat × List Nat)} (h : Prs H p bs) (k : Kq H H') : Prs H' p bs := by
  obtain ⟨as, h1, h2, h3⟩ := h
  exact ⟨as, k.1 _ _ h1, h2, fun i a r e1 e2 => k.2 _ _ (h3 i a r e1 e2)⟩
theorem same_kq {H H' : Hp} (s : Same H H') : Kq H H' := Kq.of s
theorem kq_new {H H' : Hp} {p : Addr} {o : HO} (k : Kq H H') (n : H' p = none) : Kq H (L2.upd H' p o) := k.trans (Kq.of (Same.new n))
theorem getElem?_refs {as : List Addr} {i : Nat} {a : Addr} (h : as[i]? = some a) : (refs as)[i]? = some (V.ref a) := by unfold refs; rw [List.getElem?_map, h]; rfl
end My
/-! Loops over pairs, comprehensions over tuples. -/
namespace My
open PySem PySem.Spec L2 SX
open PyProof.Rows hiding St
section
variable {σ : St} {H : Hp} {Q : VK} {te : TE} {tt : TT} {vs : List Nat} {K : PySem.W.Frag} {tb : TS} {nx : St → Hp → Prop} {rt : VK} {bk ct : St → Hp → Prop}
abbrev gp2 (K : PySem.W.Frag) (a b : Nat) : TG := gTup K 2 (gCons (gName a) (gCons (gName b) gNil))
/-- a for over pairs -/
theorem forP {J : It} {n : Nat} {G : Hp → Prop} {A B : Nat → Option V} (w : Walk J n G (YPair A B)) {a b : Nat} (Pv : Nat → St → Hp → Prop) (h0 : Pv 0 σ H) (hG : ∀ i σ H, i ≤ n → Pv i σ H → G H)
    (hs : ∀ i σ H T x y, i < n → Pv i σ H → H T = none → A i = some x → B i = some y → tb ⟨Pv (i + 1), rt, nx, Pv (i + 1)⟩ ((σ.set a (some x)).set b (some y)) (L2.upd H T (.tup [x, y]))) (hd : ∀ σ H, Pv n σ H → nx σ H) : ForG J (gp2 K a b) tb ⟨nx, rt, bk, ct⟩ σ H :=
  for_it w Pv h0 hG (fun i v σ H H' hi p y => by
    obtain ⟨T, x, z, rfl, hn, rfl, h1, h2⟩ := y
    exact rd_g2 (SqT.of upd_same) (hs i σ H T x z hi p hn h1 h2)) hd
/-- a for over a list of tuples of two, unpacked -/
theorem forLP {ls : List V} {p : Addr} {a b : Nat} (Pv : Nat → St → Hp → Prop) (h0 : Pv 0 σ H) (hG : ∀ i σ H, i ≤ ls.length → Pv i σ H → SqL K H p ls)
    (hs : ∀ i v σ H, ls[i]? = some v → Pv i σ H → ∃ T x y, v = .ref T ∧ SqT K H T [x, y] ∧ tb ⟨Pv (i + 1), rt, nx, Pv (i + 1)⟩ ((σ.set a (some x)).set b (some y)) H) (hd : ∀ σ H, Pv ls.length σ H → nx σ H) : ForG (Itl K p) (gp2 K a b) tb ⟨nx, rt, bk, ct⟩ σ H :=
  for_it (walk_list (K := K) (a := p) (xs := ls)) Pv h0 hG (fun i v σ H H' hi pv y => by
    obtain ⟨rfl, hv⟩ := y
    obtain ⟨T, x, y, rfl, hT, h⟩ := hs i v σ _ hv pv
    exact rd_g2 hT h) hd
theorem lcT {α : Type} (ls : List α) (e : α → V) {p : Addr} (hs : SqT K H p (ls.map e)) {j : Nat} (yes : α → Bool) (f : α → V) (hn : ls.length ≤ 50000)
    (hw : ∀ x, wipe ((wipe σ vs).set j (some x)) vs = wipe σ vs)
    (ht : ∀ y ∈ ls, PT0 tt ((wipe σ vs).set j (some (e y))) H (yes y)) (he : ∀ y ∈ ls, yes y = true → PE0 te ((wipe σ vs).set j (some (e y))) H (f y))
    (q : ∀ D H', H D = none → Same H H' → H' D = some (.lst ((ls.filter yes).map f)) → Q (.ref D) H') : LcG (Itt K p) (gName j) tt te vs σ Q H := by
  have w := walk_tup (K := K) (a := p) (xs := ls.map e)
  rw [List.length_map] at w
  refine lc_map ls e w (fun H' s => Same.seqT s hs) (fun i H x H' hi y => ⟨y.1, ?_⟩) hn hw yes f ht he q
  have h2 := y.2
  rw [List.getElem?_map] at h2
  cases h3 : ls[i]? with
  | none => rw [h3] at h2; cases h2
  | some z =>
    rw [h3] at h2
    exact ⟨z, rfl, (Option.some.inj h2).symm⟩
/-- a comprehension over a list (b = false) or tuple whose element makes a new object: Pv by what is made so far -/
theorem lc_inv {ls : List V} {J : It} {G : Hp → Prop} (w : Walk J ls.length G (YAt ls)) {j : Nat} (Pv : Addr → Nat → List V → Hp → Prop) (hn : ls.length ≤ 50000) (hw : ∀ x, wipe ((wipe σ vs).set j (some x)) vs = wipe σ vs)
    (hG : ∀ D i acc H', Pv D i acc H' → G H') (h0 : ∀ D, H D = none → Pv D 0 [] (L2.upd H D (.lst [])))
    (hs : ∀ (D : Addr) (i : Nat) (v : V) (acc : List V) (H' : Hp) (Q : VK), ls[i]? = some v → H D = none → acc.length = i → Pv D i acc H' → H' D = some (.lst acc) →
      (∀ y H2, H2 D = some (.lst acc) → Pv D (i + 1) (acc ++ [y]) (L2.upd H2 D (.lst (acc ++ [y]))) → Q y H2) → te ((wipe σ vs).set j (some v)) H' Q)
    (q : ∀ (D : Addr) (acc : List V) (H' : Hp), H D = none → acc.length = ls.length → Pv D ls.length acc H' → H' D = some (.lst acc) → Q (.ref D) H') : LcG J (gName j) tYes te vs σ Q H := by
  intro D hD
  refine lc_it w (fun i H' => ∃ acc : List V, H' D = some (.lst acc) ∧ acc.length = i ∧ Pv D i acc H') ⟨[], upd_same, rfl, h0 D hD⟩ (fun i H' _ ⟨acc, _, _, p⟩ => hG D i acc H' p) ?_ ?_
  · rintro i x H1 H1' hi ⟨acc, ha, hl, p⟩ ⟨rfl, hx⟩
    refine ⟨hw _, ?_⟩
    unfold tYes
    dsimp only
    rw [if_pos rfl]
    refine hs D i x acc _ _ hx hD hl p ha fun y H2 h2 p2 => ⟨acc, h2, szlt (by omega), acc ++ [y], upd_same, ?_, p2⟩
    rw [List.length_append, hl]
    rfl
  · rintro H1 ⟨acc, ha, hl, p⟩
    exact q D acc H1 hD hl p ha
end
theorem rowV_len (l : List Nat) : (rowV l).length = l.length := by unfold rowV; simp
theorem rowV_get {l : List Nat} {i : Nat} (h : i < l.length) : (rowV l)[i]? = some (vI (l.getD i 0)) := by
  unfold rowV
  rw [List.getElem?_map, List.getD_eq_getElem?_getD, List.getElem?_eq_getElem h]; rfl
theorem txV_get {l : List (List Nat)} {i : Nat} (h : i < l.length) : (txV l)[i]? = some (.str (S (l.getD i []))) := by
  unfold txV
  rw [List.getElem?_map, List.getD_eq_getElem?_getD, List.getElem?_eq_getElem h]; rfl
theorem txV_len (l : List (List Nat)) : (txV l).length = l.length := by unfold txV; simp
theorem refs_len (as : List Addr) : (refs as).length = as.length := by unfold refs; simp
theorem refs_get {as : List Addr} {i : Nat} {v : V} (h : (refs as)[i]? = some v) : ∃ a, as[i]? = some a ∧ v = .ref a := by
  unfold refs at h
  rw [List.getElem?_map] at h
  cases e : as[i]? with
  | none => rw [e] at h; cases h
  | some a => rw [e] at h; exact ⟨a, rfl, (Option.some.inj h).symm⟩
theorem row_of {b2 : Bool} {H : Hp} {T : List (List Nat)} {as : List Addr} (h2 : as.length = T.length) (h3 : ∀ (i : Nat) (a : Addr) (r : List Nat), as[i]? = some a → T[i]? = some r → H a = some (Bx b2 (rowV r))) {i : Nat} {a : Addr} (e : as[i]? = some a) : H a = some (Bx b2 (rowV (T.getD i []))) := by
  have hi : i < T.length := by rw [← h2]; exact (List.getElem?_eq_some_iff.mp e).1
  refine h3 i a _ e ?_
  rw [List.getD_eq_getElem?_getD, List.getElem?_eq_getElem hi]; rfl
theorem cq_lenK {X : Cx} (K : PySem.W.Frag) (hK : X.K = K) : CallR X (.builtin "len") (qLen K) := by subst hK; exact cq_len
theorem pe_tupleOfK {X : Cx} {a : Expr} {ta : TE} {p pos : Pos} (K : PySem.W.Frag) (hK : X.K = K) (hg : Gl X "tuple") (hm : X.mg "tuple" = none) (ha : PE X a ta) (na : starEach [a] X.env = (false, eval a X.env) :: starEach [] X.env := by rfl) :
    PE X (.Call (.Name "tuple" p) [a] [] pos) (tThen ta (kTup K)) := by subst hK; exact pe_tupleOf hg hm ha na
theorem call_isiK {X : Cx} (K : PySem.W.Frag) (hK : X.K = K) : CallR X (.builtin "isinstance") (rIsi K) := by subst hK; exact call_isi
theorem ix_tupK {X : Cx} (K : PySem.W.Frag) (hK : X.K = K) : IxR X (rIxT K) := by subst hK; exact ix_tup
theorem cutV_from1 {x : V} {xs : List V} : cutV (x :: xs) (some 1) none = xs := by
  have e : cutV (x :: xs) (some ((1 : Nat) : Int)) none = ((x :: xs).drop (min 1 (x :: xs).length)).take ((x :: xs).length - min 1 (x :: xs).length) := by
    unfold cutV
    rw [HT.sIx_nat]
    first | rfl | simp [HT.sIx_none]
  have h1 : min 1 (x :: xs).length = 1 := by simp
  rw [h1] at e
  have e3 : cutV (x :: xs) (some 1) none = cutV (x :: xs) (some ((1 : Nat) : Int)) none := rfl
  rw [e3, e, List.drop_succ_cons, List.drop_zero]
  exact List.take_of_length_le (by simp)
theorem ExB.same {D : Addr} {H Hs H' : Hp} (s : Same H Hs) (n : H D = none) (e : ExB D Hs H') : Same H H' := fun b o q => e b o (ne_of_none q n) (s b o q)
theorem getD_some {α : Type} {l : List α} {i : Nat} {a d : α} (h : l[i]? = some a) : l.getD i d = a := by rw [List.getD_eq_getElem?_getD, h]; rfl
theorem get_getD {α : Type} {l : List α} {i : Nat} (d : α) (h : i < l.length) : l[i]? = some (l.getD i d) := by rw [List.getD_eq_getElem?_getD, List.getElem?_eq_getElem h]; rfl
section
variable {K : PySem.W.Frag} {H : Hp} {Q : VK} {x : V}
theorem rd_isiLT {a : String} {tp : Addr} {r1 r2 : Bool} (h : H tp = some (.tup [.ty "list", .ty "tuple"])) (ty : TyX K H x (.type a)) (k1 : kitB a "list" = some r1) (k2 : kitB a "tuple" = some r2) (q : Q (.bl (r1 || r2)) H) : rIsiT K [x, .ref tp] H Q := by
  refine rd_isiT h (us := [.type "list", .type "tuple"]) (.cons (.ty "list") (.cons (.ty "tuple") .nil)) ty (b := r1 || r2) ?_ q
  first
    | (simp only [PySem.W.kitAny, kit_ty k1, kit_ty k2]; cases r1 <;> cases r2 <;> rfl)
    | (unfold PySem.W.kitAny; rw [kit_ty k1]; cases r1 <;> simp [PySem.W.kitAny, kit_ty k2])
def dTI (ns : List Int) : PyData := .tuple (ns.map PyData.int)
theorem shTI (ns : List Int) : SeqAt.shaped (dTI ns) = true := by
  unfold SeqAt.shaped dTI
  have h1 : PyData.canLay0 (.tuple (ns.map PyData.int)) = true := canI ns
  have h2 : PyData.depth (.tuple (ns.map PyData.int)) = 1 := by show PyData.depthAll _ + 1 = 1; rw [depI]
  rw [h1, h2]; rfl
theorem eqTI (ns ms : List Int) : PyData.eqv (dTI ns) (dTI ms) = decide (ns = ms) := eqAllI ns ms
theorem dpTI {a : Addr} {ns : List Int} (h : SqT K H a (ns.map V.int)) : Dp K H (.ref a) (dTI ns) := .tup h (dpAllI ns)
theorem rd_neTI {p r : Addr} {ns ms : List Int} (h1 : SqT K H p (ns.map V.int)) (h2 : SqT K H r (ms.map V.int)) (q : Q (.bl (!decide (ns = ms))) H) : rNeD K (.ref p) (.ref r) H Q := rd_neD (dpTI h1) (dpTI h2) (shTI _) (shTI _) (by rw [eqTI]; exact q)
theorem rd_eqTI {p r : Addr} {ns ms : List Int} (h1 : SqT K H p (ns.map V.int)) (h2 : SqT K H r (ms.map V.int)) (q : Q (.bl (decide (ns = ms))) H) : rEqD K (.ref p) (.ref r) H Q := rd_eqD (dpTI h1) (dpTI h2) (shTI _) (shTI _) (by rw [eqTI]; exact q)
def dII (a b : Int) : PyData := .tuple [.int a, .int b]
theorem shII (a b : Int) : SeqAt.shaped (dII a b) = true := by first | rfl | decide
theorem eqII (a b c d : Int) : PyData.eqv (dII a b) (dII c d) = decide (a = c ∧ b = d) := by
  show (PyData.eqv (.int a) (.int c) && (PyData.eqv (.int b) (.int d) && true)) = _
  have h : ∀ j k : Int, PyData.eqv (.int j) (.int k) = decide (j = k) := fun j k => by simp only [PyData.eqv]; by_cases e : j = k <;> simp [e]
  rw [h, h]
  by_cases e : a = c <;> by_cases e2 : b = d <;> simp [e, e2]
theorem dpII {p : Addr} {a b : Int} (h : SqT K H p [.int a, .int b]) : Dp K H (.ref p) (dII a b) := .tup h (.cons (.int _) (.cons (.int _) .nil))
theorem rd_eqII {p r : Addr} {a b c d : Int} (h1 : SqT K H p [.int a, .int b]) (h2 : SqT K H r [.int c, .int d]) (q : Q (.bl (decide (a = c ∧ b = d))) H) : rEqD K (.ref p) (.ref r) H Q := rd_eqD (dpII h1) (dpII h2) (shII _ _) (shII _ _) (by rw [eqII]; exact q)
theorem rd_eqNI {r : Addr} {c d : Int} (h2 : SqT K H r [.int c, .int d]) (q : Q (.bl false) H) : rEqD K .non (.ref r) H Q := rd_eqD (d := .none) (by first | exact .non | exact .none | constructor) (dpII h2) (by first | rfl | decide) (shII _ _) q
/-- lists of pairs of texts -/
def dPr (bs : List (List Nat × List Nat)) : PyData := .list (bs.map fun b => .tuple [.str (S b.1), .str (S b.2)])
def OkB (bs : List (List Nat × List Nat)) : Prop := ∀ b ∈ bs, OkW b.1 ∧ OkW b.2
theorem canPr : ∀ bs : List (List Nat × List Nat), OkB bs → PyData.canLayAll0 (bs.map fun b => .tuple [.str (S b.1), .str (S b.2)]) = true
  | [], _ => rfl
  | b :: bs, h => by
    show ((PyData.canLay0 (.str (S b.1)) && (PyData.canLay0 (.str (S b.2)) && true)) && PyData.canLayAll0 (bs.map _)) = true
    rw [canPr bs fun c hc => h c (List.mem_cons_of_mem _ hc), canStr (h b List.mem_cons_self).1, canStr (h b List.mem_cons_self).2]; rfl
theorem depPr : ∀ bs : List (List Nat × List Nat), PyData.depthAll (bs.map fun b => .tuple [.str (S b.1), .str (S b.2)]) ≤ 1
  | [] => Nat.zero_le _
  | b :: bs => by
    have h := depPr bs
    show max (PyData.depth (.tuple [.str (S b.1), .str (S b.2)])) _ ≤ 1
    have e : PyData.depth (.tuple [.str (S b.1), .str (S b.2)]) = 1 := by simp [PyData.depth, PyData.depthAll]
    rw [e]
    exact Nat.max_le.mpr ⟨Nat.le_refl _, h⟩
theorem shPr (bs : List (List Nat × List Nat)) (h : OkB bs) : SeqAt.shaped (dPr bs) = true := by
  unfold SeqAt.shaped dPr
  have h1 : PyData.canLay0 (.list (bs.map fun b => .tuple [.str (S b.1), .str (S b.2)])) = true := canPr bs h
  have h2 : PyData.depth (.list (bs.map fun b => .tuple [.str (S b.1), .str (S b.2)])) ≤ 2 := by
    show PyData.depthAll _ + 1 ≤ 2
    have := depPr bs; omega
  rw [h1]
  generalize PyData.depth (.list (bs.map fun b => .tuple [.str (S b.1), .str (S b.2)])) = d at h2
  match d, h2 with
  | 0, _ => first | rfl | decide
  | 1, _ => first | rfl | decide
  | 2, _ => first | rfl | decide
theorem eqAllPr : ∀ vs ws : List (List Nat × List Nat), PyData.eqvAll (vs.map fun b => .tuple [.str (S b.1), .str (S b.2)]) (ws.map fun b => .tuple [.str (S b.1), .str (S b.2)]) = decide (vs = ws)
  | [], [] => rfl
  | [], _ :: _ => rfl
  | _ :: _, [] => rfl
  | v :: vs, w :: ws => by
    show ((PyData.eqv (.str (S v.1)) (.str (S w.1)) && (PyData.eqv (.str (S v.2)) (.str (S w.2)) && true)) && PyData.eqvAll (vs.map _) (ws.map _)) = _
    rw [eqAllPr vs ws, eqStr, eqStr]
    obtain ⟨v1, v2⟩ := v
    obtain ⟨w1, w2⟩ := w
    by_cases e : v1 = w1 <;> by_cases e1 : v2 = w2 <;> by_cases e2 : vs = ws <;> simp [e, e1, e2]
theorem dpAllPr : ∀ (as : List Addr) (bs : List (List Nat × List Nat)), as.length = bs.length → (∀ (i : Nat) (a : Addr) (b : List Nat × List Nat), as[i]? = some a → bs[i]? = some b → H a = some (.tup [.str (S b.1), .str (S b.2)])) → DpAll K H (refs as) (bs.map fun b => .tuple [.str (S b.1), .str (S b.2)])
  | [], [], _, _ => .nil
  | [], _ :: _, h, _ => by cases h
  | _ :: _, [], h, _ => by cases h
  | a :: as, b :: bs, h, hh => .cons (.tup (SqT.of (hh 0 a b rfl rfl)) (.cons (.str _) (.cons (.str _) .nil))) (dpAllPr as bs (by simpa using h) fun i c d e1 e2 => hh (i + 1) c d e1 e2)
theorem dpPr {p : Addr} {bs : List (List Nat × List Nat)} (h : Prs H p bs) : Dp K H (.ref p) (dPr bs) := by
  obtain ⟨as, h1, h2, h3⟩ := h
  exact .lst (SqL.of h1) (dpAllPr as bs h2 h3)
theorem rd_nePr {p r : Addr} {vs ws : List (List Nat × List Nat)} (h1 : Prs H p vs) (h2 : Prs H r ws) (o1 : OkB vs) (o2 : OkB ws) (q : Q (.bl (!decide (vs = ws))) H) : rNeD K (.ref p) (.ref r) H Q := rd_neD (dpPr h1) (dpPr h2) (shPr _ o1) (shPr _ o2) (by show Q (.bl (!PyData.eqvAll _ _)) H; rw [eqAllPr]; exact q)
theorem rd_eqPr {p r : Addr} {vs ws : List (List Nat × List Nat)} (h1 : Prs H p vs) (h2 : Prs H r ws) (o1 : OkB vs) (o2 : OkB ws) (q : Q (.bl (decide (vs = ws))) H) : rEqD K (.ref p) (.ref r) H Q := rd_eqD (dpPr h1) (dpPr h2) (shPr _ o1) (shPr _ o2) (by show Q (.bl (PyData.eqvAll _ _)) H; rw [eqAllPr]; exact q)
theorem prs_pairs {p : Addr} {bs : List (List Nat × List Nat)} (h : Prs H p bs) : ∃ as, H p = some (.lst (refs as)) ∧ Pairs K H (refs as) bs := by
  obtain ⟨as, h1, h2, h3⟩ := h
  refine ⟨as, h1, by rw [refs_len]; exact h2, fun i b hb => ?_⟩
  have hi : i < as.length := by rw [h2]; exact (List.getElem?_eq_some_iff.mp hb).1
  exact ⟨as[i], getElem?_refs (List.getElem?_eq_getElem hi), SqT.of (h3 i _ b (List.getElem?_eq_getElem hi) hb)⟩
theorem prs_of {p : Addr} {as : List Addr} {bs : List (List Nat × List Nat)} {H' : Hp} (h2 : as.length = bs.length) (h3 : ∀ (i : Nat) (a : Addr) (b : List Nat × List Nat), as[i]? = some a → bs[i]? = some b → H a = some (.tup [.str (S b.1), .str (S b.2)])) (k : ∀ a xs, H a = some (.tup xs) → H' a = some (.tup xs)) (hp : H' p = some (.lst (refs as))) : Prs H' p bs :=
  ⟨as, hp, h2, fun i a b e1 e2 => k _ _ (h3 i a b e1 e2)⟩
/-- one pair more -/
theorem prs_snoc {D q : Addr} {bs : List (List Nat × List Nat)} {b : List Nat × List Nat} {H' : Hp} (h : Prs H D bs) (hq : H' q = some (.tup [.str (S b.1), .str (S b.2)])) (k : ∀ a xs, H a = some (.tup xs) → H' a = some (.tup xs)) : ∃ as, H D = some (.lst (refs as)) ∧ as.length = bs.length ∧ (H' D = some (.lst (refs as ++ [.ref q])) → Prs H' D (bs ++ [b])) := by
  obtain ⟨as, h1, h2, h3⟩ := h
  refine ⟨as, h1, h2, fun hD => ⟨as ++ [q], by rw [hD]; unfold refs; rw [List.map_append]; rfl, by simp [h2], fun i a s e1 e2 => ?_⟩⟩
  by_cases hi : i < as.length
  · rw [List.getElem?_append_left hi] at e1
    rw [List.getElem?_append_left (by omega)] at e2
    exact k _ _ (h3 i a s e1 e2)
  · have hi2 : i = as.length := by
      have := (List.getElem?_eq_some_iff.mp e1).1
      simp at this; omega
    subst hi2
    rw [List.getElem?_append_right (Nat.le_refl _), Nat.sub_self] at e1
    cases e1
    rw [List.getElem?_append_right (by omega), show as.length - bs.length = 0 by omega] at e2
    cases e2
    exact hq
theorem rowV_int (l : List Nat) : rowV l = (l.map fun n : Nat => (n : Int)).map V.int := by unfold rowV; rw [List.map_map]; rfl
theorem rd_bm {σ : St} {r : V → List V → Hp → VK → Prop} {t : TA} {to : TE} (h : to σ H fun x H1 => tyV K "list" x H1 ∧ t σ H1 fun xs H2 => r x xs H2 Q) : tBM K "list" r to t σ H Q := h
theorem rd_par3 {σ : St} {H : Hp} {i j l : Nat} {ta : TA} {nx : St → Hp → Prop} {rt : VK} {bk ct : St → Hp → Prop} (h : ta σ H fun vs H1 => ∃ u v w, vs = [u, v, w] ∧ nx (((σ.set i (some u)).set j (some v)).set l (some w)) H1) : tPar3 i j l ta ⟨nx, rt, bk, ct⟩ σ H := h
theorem rd_thenT {σ : St} {te : TE} (h : te σ H fun x H1 => kTup K x H1 Q) : tThen te (kTup K) σ H Q := h
theorem rd_kTupT {p : Addr} {xs : List V} (h : SqT K H p xs) (q : Q (.ref p) H) : kTup K (.ref p) H Q := .inr ⟨p, xs, rfl, h, q⟩
theorem rd_kTupL {p : Addr} {xs : List V} (h : SqL K H p xs) (q : ∀ r, H r = none → Q (.ref r) (L2.upd H r (.tup xs))) : kTup K (.ref p) H Q := .inl ⟨p, xs, rfl, h, q⟩
end
def qSortLam (K : PySem.W.Frag) (TT : List (Addr × Str)) (vs : List V) (H1 : Hp) (Q : VK) : Prop := ∃ (a : Addr) (xs : List V) (bs : List (List Nat × List Nat)), vs = [.ref a] ∧ SqL K H1 a xs ∧ Pairs K H1 xs bs ∧ bs.length ≤ 100000 ∧ (∀ b ∈ bs, b.1.length ≤ 100000) ∧ (bs.Pairwise fun a b => Mon.slt a.1 b.1) ∧ LamX.Tabs TT H1 ∧
  ∀ p H2, LamX.ExtN H1 H2 → LamX.Tabs TT H2 → H2 p = none → Q (.ref p) (L2.upd H2 p (.lst xs))
theorem rd_sortLam {K : PySem.W.Frag} {TT : List (Addr × Str)} {t : TA} {σ : St} {H : Hp} {Q : VK} (h : t σ H fun vs H1 => qSortLam K TT vs H1 Q) : tSortLam K TT t σ H Q := h
/-- one row more -/
theorem tb_snoc {b2 : Bool} {H H' : Hp} {D q : Addr} {xs : List Addr} {T : List (List Nat)} {r : List Nat} (h2 : xs.length = T.length) (h3 : ∀ (i : Nat) (a : Addr) (r : List Nat), xs[i]? = some a → T[i]? = some r → H a = some (Bx b2 (rowV r))) (k : ∀ a, a ∈ xs → H a ≠ none → H' a = H a) (hq : H' q = some (Bx b2 (rowV r))) :
    (xs ++ [q]).length = (T ++ [r]).length ∧ ∀ (i : Nat) (a : Addr) (s : List Nat), (xs ++ [q])[i]? = some a → (T ++ [r])[i]? = some s → H' a = some (Bx b2 (rowV s)) := by
  refine ⟨by simp [h2], fun i a s e1 e2 => ?_⟩
  by_cases hi : i < xs.length
  · rw [List.getElem?_append_left hi] at e1
    rw [List.getElem?_append_left (by omega)] at e2
    have h4 := h3 i a s e1 e2
    rw [k a (List.mem_of_getElem? e1) (by rw [h4]; simp)]
    exact h4
  · have hi2 : i = xs.length := by
      have := (List.getElem?_eq_some_iff.mp e1).1
      simp at this; omega
    subst hi2
    rw [List.getElem?_append_right (Nat.le_refl _), Nat.sub_self] at e1
    cases e1
    rw [List.getElem?_append_right (by omega), show xs.length - T.length = 0 by omega] at e2
    cases e2
    exact hq
def qTg (a b : Int) (H1 : Hp) (Q : VK) : Prop := RgOk a b ∧ ∀ q, H1 q = none → Q (.ref q) (L2.upd H1 q (.tup (rgV a b)))
theorem rd_tupRg {te : St → Hp → (Int → Int → Hp → Prop) → Prop} {σ : St} {H : Hp} {Q : VK} (h : te σ H fun a b H1 => qTg a b H1 Q) : tTupRg te σ H Q := h
theorem rd_qTg {n : Nat} {H : Hp} {Q : VK} (hn : n ≤ 100000) (q : ∀ r, H r = none → Q (.ref r) (L2.upd H r (.tup (rowV (List.range n))))) : qTg 0 (n : Nat) H Q := by
  refine ⟨RgOk.of_le (by omega) (by omega) (by omega) (by omega), ?_⟩
  have e : rgV 0 (n : Nat) = rowV (List.range n) := by
    unfold rgV rowV
    have e : (((n : Nat) : Int) - 0).toNat = n := by omega
    rw [e]
    refine List.map_congr_left fun i _ => ?_
    show V.int (0 + (i : Nat)) = V.int (i : Nat)
    rw [Int.zero_add]
  rw [e]
  exact q
theorem map_cast_inj {u v : List Nat} : (u.map fun n : Nat => (n : Int)) = (v.map fun n : Nat => (n : Int)) ↔ u = v := by
  constructor
  · intro h
    have h2 := congrArg (fun l : List Int => l.map Int.toNat) h
    rw [List.map_map, List.map_map] at h2
    have e : (Int.toNat ∘ fun n : Nat => (n : Int)) = id := by funext n; simp
    rw [e, List.map_id, List.map_id] at h2
    exact h2
  · intro h; rw [h]
theorem at_vI {xs : List V} {n : Nat} {v : V} (h : xs[n]? = some v) : atI xs ((n : Nat) : Int) = some v := atI_nat h
end My
/-! The listing of maps, as it lies while it grows. -/
namespace Mon
section
variable {rows : Tab} {sz : Nat}
theorem wsR_len (f w : List Nat) (fd ws : List (List Nat)) (h : ws.length = fd.length) : ∀ j, (wsR rows f w j fd ws).length = (fdR rows f j fd).length
  | 0 => h
  | j + 1 => by
    have ih := wsR_len f w fd ws h j
    rw [fdR_succ]
    unfold wsR
    split
    · exact ih
    · rw [List.length_append, List.length_append, ih]; rfl
theorem wsR_pre0 (f w : List Nat) (fd ws : List (List Nat)) : ∀ j, ∃ b, wsR rows f w j fd ws = ws ++ b
  | 0 => ⟨[], by simp [wsR]⟩
  | j + 1 => by
    obtain ⟨b, h⟩ := wsR_pre0 f w fd ws j
    unfold wsR
    split
    · exact ⟨b, h⟩
    · exact ⟨b ++ [w ++ [97 + j]], by rw [h, List.append_assoc]⟩
theorem wsT_len : ∀ n, (wsT rows sz n).length = (fdT rows sz n).length
  | 0 => rfl
  | n + 1 => wsR_len _ _ _ _ (wsT_len n) _
theorem wsR_bd {n : Nat} (f w : List Nat) (fd ws : List (List Nat)) (hw : w.length ≤ n) (h : ∀ x ∈ ws, x.length ≤ n) : ∀ j, ∀ x ∈ wsR rows f w j fd ws, x.length ≤ n + 1
  | 0 => fun x hx => Nat.le_succ_of_le (h x hx)
  | j + 1 => by
    have ih := wsR_bd f w fd ws hw h j
    unfold wsR
    split
    · exact ih
    · intro x hx
      rcases List.mem_append.mp hx with hx | hx
      · exact ih x hx
      · rw [List.mem_singleton.mp hx, List.length_append]
        show w.length + 1 ≤ n + 1
        omega
theorem getD_len {ws : List (List Nat)} {n k : Nat} (h : ∀ x ∈ ws, x.length ≤ n) : (ws.getD k []).length ≤ n := by
  rw [List.getD_eq_getElem?_getD]
  cases e : ws[k]? with
  | none => exact Nat.zero_le _
  | some x => exact h x (List.mem_of_getElem? e)
theorem wsT_bd : ∀ n, ∀ x ∈ wsT rows sz n, x.length ≤ n
  | 0 => fun x hx => by rw [List.mem_singleton.mp hx]; exact Nat.le_refl _
  | n + 1 => wsR_bd _ _ _ _ (getD_len (wsT_bd n)) (wsT_bd n) _
theorem fdT_go_le : ∀ i, (∀ k, k < i → k < (fdT rows sz k).length) → i ≤ (fdT rows sz i).length
  | 0, _ => Nat.zero_le _
  | i + 1, h => by
    have h1 := h i (Nat.lt_succ_self _)
    obtain ⟨b, e⟩ := fdT_pre (rows := rows) (sz := sz) i 1
    rw [e, List.length_append]
    omega
end
end Mon
namespace My
open PySem PySem.Spec L2 SX Mon
open PyProof.Rows hiding St
/-! ### rows as keys -/
def kk (r : List Nat) : List Key := r.map fun n => .inl ((n : Nat) : Int)
theorem kk_map (r : List Nat) : (kk r).map kV = rowV r := by unfold kk rowV; rw [List.map_map]; rfl
theorem kk_inj {u v : List Nat} : kk u = kk v ↔ u = v := by
  constructor
  · intro h
    have h2 := congrArg (fun l : List Key => l.map fun x => match x with | .inl i => Int.toNat i | .inr _ => 0) h
    unfold kk at h2
    rw [List.map_map, List.map_map] at h2
    have e : ((fun x : Key => match x with | .inl i => Int.toNat i | .inr _ => 0) ∘ fun n : Nat => (Sum.inl (n : Int) : Key)) = id := by funext n; simp
    rw [e, List.map_id, List.map_id] at h2
    exact h2
  · intro h; rw [h]
def numT (fd : Tab) : List (List Key × V) := numK 0 (fd.map kk)
theorem numK_cons (n : Nat) (k : List Key) (ks : List (List Key)) : numK n (k :: ks) = (k, vI n) :: numK (n + 1) ks := by unfold numK; rw [List.zipIdx_cons]; rfl
theorem numK_snoc (n : Nat) (k : List Key) (ks : List (List Key)) : numK n (ks ++ [k]) = numK n ks ++ [(k, vI (n + ks.length))] := by unfold numK; rw [List.zipIdx_append, List.map_append]; rfl
theorem numT_len (fd : Tab) : (numT fd).length = fd.length := by unfold numT; rw [numK_len, List.length_map]
theorem valV_numK (r : List Nat) : ∀ (n : Nat) (fd : Tab), valV (numK n (fd.map kk)) (kk r) = if r ∈ fd then some (vI (n + fd.idxOf r)) else none
  | n, [] => rfl
  | n, g :: fd => by
    rw [List.map_cons, numK_cons]
    by_cases e : g = r
    · rw [valV_pos (kk_inj.mpr e), if_pos (by rw [e]; exact List.mem_cons_self)]
      subst e
      simp [List.idxOf_cons]
    · rw [valV_neg (fun h => e (kk_inj.mp h)), valV_numK r (n + 1) fd]
      by_cases h : r ∈ fd
      · rw [if_pos h, if_pos (List.mem_cons_of_mem _ h)]
        have : (g :: fd).idxOf r = fd.idxOf r + 1 := by
          rw [List.idxOf_cons]
          have : (g == r) = false := by simpa using e
          rw [this]; rfl
        rw [this, show n + 1 + fd.idxOf r = n + (fd.idxOf r + 1) by omega]
      · rw [if_neg h, if_neg (fun h2 => (List.mem_cons.mp h2).elim (fun z => e z.symm) h)]
theorem valV_numT (r : List Nat) (fd : Tab) : valV (numT fd) (kk r) = if r ∈ fd then some (vI (fd.idxOf r)) else none := by
  unfold numT; rw [valV_numK r 0 fd, Nat.zero_add]
theorem putK_numT {r : List Nat} {fd : Tab} (h : r ∉ fd) : putK (numT fd) (kk r) (vI fd.length) = numT (fd ++ [r]) := by
  have e : valV (numT fd) (kk r) = none := by rw [valV_numT, if_neg h]
  unfold putK
  rw [valV_any, e]
  rw [if_neg (by simp)]
  unfold numT
  rw [List.map_append, List.map_singleton, numK_snoc, Nat.zero_add, List.length_map]
/-! ### rows at their places -/
def RB (b : Bool) (H : Hp) (as : List Addr) (rows : Tab) : Prop := as.length = rows.length ∧ ∀ (i : Nat) (a : Addr) (r : List Nat), as[i]? = some a → rows[i]? = some r → H a = some (Bx b (rowV r))
theorem RB.keep {b : Bool} {H H' : Hp} {as : List Addr} {rows : Tab} (h : RB b H as rows) (k : ∀ a ∈ as, ∀ xs, H a = some (Bx b xs) → H' a = some (Bx b xs)) : RB b H' as rows := ⟨h.1, fun i a r e1 e2 => k a (List.mem_of_getElem? e1) _ (h.2 i a r e1 e2)⟩
theorem RB.snoc {b : Bool} {H : Hp} {as : List Addr} {rows : Tab} {a : Addr} {r : List Nat} (h : RB b H as rows) (q : H a = some (Bx b (rowV r))) : RB b H (as ++ [a]) (rows ++ [r]) := by
  refine ⟨by simp [h.1], fun i c s e1 e2 => ?_⟩
  have hl := h.1
  by_cases hi : i < as.length
  · rw [List.getElem?_append_left hi] at e1
    rw [List.getElem?_append_left (by omega)] at e2
    exact h.2 i c s e1 e2
  · have hi2 : i = as.length := by
      have := (List.getElem?_eq_some_iff.mp e1).1
      simp at this; omega
    subst hi2
    rw [List.getElem?_append_right (Nat.le_refl _), Nat.sub_self] at e1
    cases e1
    rw [List.getElem?_append_right (by omega), show as.length - rows.length = 0 by omega] at e2
    cases e2
    exact q
theorem RB.at {b : Bool} {H : Hp} {as : List Addr} {rows : Tab} (h : RB b H as rows) {i : Nat} (hi : i < rows.length) : ∃ a, as[i]? = some a ∧ H a = some (Bx b (rowV (rows.getD i []))) := by
  have h1 : i < as.length := by rw [h.1]; exact hi
  exact ⟨as[i], List.getElem?_eq_getElem h1, h.2 i _ _ (List.getElem?_eq_getElem h1) (get_getD [] hi)⟩
theorem Same.updN {H H' : Hp} {a : Addr} {o : HO} (s : Same H H') (n : H a = none) : Same H (L2.upd H' a o) := fun b c e => by rw [upd_ne (ne_of_none e n)]; exact s b c e
theorem refs_snoc {as : List Addr} {a : Addr} : refs (as ++ [a]) = refs as ++ [.ref a] := by unfold refs; rw [List.map_append]; rfl
theorem rowV_snoc {l : List Nat} {n : Nat} : rowV (l ++ [n]) = rowV l ++ [vI n] := by unfold rowV; rw [List.map_append]; rfl
theorem txV_snoc {l : List (List Nat)} {w : List Nat} : txV (l ++ [w]) = txV l ++ [.str (S w)] := by unfold txV; rw [List.map_append]; rfl
/-! ### the listing -/
structure LT (H H' : Hp) (f w tb d : Addr) (fd : Tab) (ws : List (List Nat)) (T nd : Tab) (ts : List Addr) : Prop where
  same : Same H H'
  f0 : H f = none
  w0 : H w = none
  t0 : H tb = none
  d0 : H d = none
  fw : f ≠ w
  ft : f ≠ tb
  wt : w ≠ tb
  hf : ∃ fs, H' f = some (.lst (refs fs)) ∧ RB true H' fs fd
  hw : H' w = some (.lst (txV ws))
  ht : H' tb = some (.lst (refs ts))
  hT : RB false H' ts T
  hn : ∀ t ∈ ts, t ≠ f ∧ t ≠ w ∧ t ≠ tb
  hd : H' d = some (.dT (numT nd))
namespace LT
variable {H H' : Hp} {f w tb d : Addr} {fd : Tab} {ws : List (List Nat)} {T nd : Tab} {ts : List Addr}
theorem keep (L : LT H H' f w tb d fd ws T nd ts) {H2 : Hp} (s : Same H' H2) : LT H H2 f w tb d fd ws T nd ts := by
  obtain ⟨fs, e1, e2⟩ := L.hf
  exact ⟨L.same.trans s, L.f0, L.w0, L.t0, L.d0, L.fw, L.ft, L.wt, ⟨fs, s _ _ e1, e2.keep fun a _ xs h => s _ _ h⟩, s _ _ L.hw, s _ _ L.ht, L.hT.keep fun a _ xs h => s _ _ h, L.hn, s _ _ L.hd⟩
theorem df (L : LT H H' f w tb d fd ws T nd ts) : d ≠ f := let ⟨_, e, _⟩ := L.hf; ne_of L.hd e (fun z => nomatch z)
theorem dw (L : LT H H' f w tb d fd ws T nd ts) : d ≠ w := ne_of L.hd L.hw (fun z => nomatch z)
theorem dt (L : LT H H' f w tb d fd ws T nd ts) : d ≠ tb := ne_of L.hd L.ht (fun z => nomatch z)
/-- at the dict -/
theorem put (L : LT H H' f w tb d fd ws T nd ts) (nd2 : Tab) : LT H (L2.upd H' d (.dT (numT nd2))) f w tb d fd ws T nd2 ts := by
  obtain ⟨fs, e1, e2⟩ := L.hf
  refine ⟨Same.updN L.same L.d0, L.f0, L.w0, L.t0, L.d0, L.fw, L.ft, L.wt, ⟨fs, by rw [upd_ne L.df.symm]; exact e1, e2.keep fun a _ xs h => ?_⟩, by rw [upd_ne L.dw.symm]; exact L.hw, by rw [upd_ne L.dt.symm]; exact L.ht, L.hT.keep fun a _ xs h => ?_, L.hn, upd_same⟩
  · rw [upd_ne (ne_of h L.hd (fun z => nomatch z))]; exact h
  · rw [upd_ne (ne_of h L.hd (fun z => nomatch z))]; exact h
theorem pushf (L : LT H H' f w tb d fd ws T nd ts) {q : Addr} {r : List Nat} (hq : H' q = some (.tup (rowV r))) : ∃ xs, H' f = some (.lst xs) ∧ xs.length = fd.length ∧ LT H (L2.upd H' f (.lst (xs ++ [.ref q]))) f w tb d (fd ++ [r]) ws T nd ts := by
  obtain ⟨fs, e1, e2⟩ := L.hf
  have kt : ∀ a xs, H' a = some (Bx true xs) → (L2.upd H' f (.lst (refs fs ++ [.ref q]))) a = some (Bx true xs) := fun a xs h => by rw [upd_ne (ne_of h e1 (fun z => nomatch z))]; exact h
  refine ⟨refs fs, e1, by rw [refs_len, e2.1], Same.updN L.same L.f0, L.f0, L.w0, L.t0, L.d0, L.fw, L.ft, L.wt, ⟨fs ++ [q], by rw [upd_same, refs_snoc], (e2.keep fun a _ xs h => kt a xs h).snoc (kt _ _ hq)⟩, by rw [upd_ne L.fw.symm]; exact L.hw, by rw [upd_ne L.ft.symm]; exact L.ht, L.hT.keep fun a ha xs h => ?_, L.hn, by rw [upd_ne L.df]; exact L.hd⟩
  rw [upd_ne (L.hn a ha).1]; exact h
theorem pushw (L : LT H H' f w tb d fd ws T nd ts) (u : List Nat) : LT H (L2.upd H' w (.lst (txV ws ++ [.str (S u)]))) f w tb d fd (ws ++ [u]) T nd ts := by
  obtain ⟨fs, e1, e2⟩ := L.hf
  refine ⟨Same.updN L.same L.w0, L.f0, L.w0, L.t0, L.d0, L.fw, L.ft, L.wt, ⟨fs, by rw [upd_ne L.fw]; exact e1, e2.keep fun a _ xs h => ?_⟩, by rw [upd_same, txV_snoc], by rw [upd_ne L.wt.symm]; exact L.ht, L.hT.keep fun a ha xs h => ?_, L.hn, by rw [upd_ne L.dw]; exact L.hd⟩
  · rw [upd_ne (ne_of h L.hw (fun z => nomatch z))]; exact h
  · rw [upd_ne (L.hn a ha).2.1]; exact h
theorem pusht (L : LT H H' f w tb d fd ws T nd ts) {q : Addr} {r : List Nat} (hq : H' q = some (.lst (rowV r))) (n1 : q ≠ f) (n2 : q ≠ w) (n3 : q ≠ tb) : LT H (L2.upd H' tb (.lst (refs ts ++ [.ref q]))) f w tb d fd ws (T ++ [r]) nd (ts ++ [q]) := by
  obtain ⟨fs, e1, e2⟩ := L.hf
  refine ⟨Same.updN L.same L.t0, L.f0, L.w0, L.t0, L.d0, L.fw, L.ft, L.wt, ⟨fs, by rw [upd_ne L.ft]; exact e1, e2.keep fun a _ xs h => ?_⟩, by rw [upd_ne L.wt]; exact L.hw, by rw [upd_same, refs_snoc], (L.hT.keep fun a ha xs h => ?_).snoc (by rw [upd_ne n3]; exact hq), fun t ht => ?_, by rw [upd_ne L.dt]; exact L.hd⟩
  · rw [upd_ne (ne_of h L.ht (fun z => nomatch z))]; exact h
  · rw [upd_ne (L.hn a ha).2.2]; exact h
  · rcases List.mem_append.mp ht with h | h
    · exact L.hn t h
    · rw [List.mem_singleton.mp h]; exact ⟨n1, n2, n3⟩
/-- another list of its own is changed -/
theorem other (L : LT H H' f w tb d fd ws T nd ts) {r : Addr} {xs ys : List V} (hr : H' r = some (.lst ys)) (r0 : H r = none) (n1 : r ≠ f) (n2 : r ≠ w) (n3 : r ≠ tb) (n4 : r ∉ ts) : LT H (L2.upd H' r (.lst xs)) f w tb d fd ws T nd ts := by
  obtain ⟨fs, e1, e2⟩ := L.hf
  refine ⟨Same.updN L.same r0, L.f0, L.w0, L.t0, L.d0, L.fw, L.ft, L.wt, ⟨fs, by rw [upd_ne n1.symm]; exact e1, e2.keep fun a _ xs h => ?_⟩, by rw [upd_ne n2.symm]; exact L.hw, by rw [upd_ne n3.symm]; exact L.ht, L.hT.keep fun a ha xs h => ?_, L.hn, by rw [upd_ne (ne_of L.hd hr (fun z => nomatch z))]; exact L.hd⟩
  · rw [upd_ne (ne_of h hr (fun z => nomatch z))]; exact h
  · rw [upd_ne (fun e => n4 (by rw [← e]; exact ha))]; exact h
end LT
end My
/-! The listing of rules by words, as it lies. -/
namespace Mon
theorem flat_len_eq {α β : Type} (f : α → List β) (B : Nat) : ∀ l : List α, (∀ a ∈ l, (f a).length = B) → (l.flatMap f).length = l.length * B
  | [], _ => by simp
  | a :: l, h => by
    have h1 := flat_len_eq f B l fun b hb => h b (List.mem_cons_of_mem _ hb)
    have h2 := h a List.mem_cons_self
    rw [List.flatMap_cons, List.length_append, List.length_cons, Nat.add_mul]
    omega
theorem wl_len (m : Nat) : ∀ t, (wl m t).length = m ^ t
  | 0 => rfl
  | t + 1 => by
    unfold wl
    rw [flat_len_eq _ m _ (fun a _ => by simp), wl_len m t, Nat.pow_succ]
/-- the next layer so far -/
def lU (m : Nat) (ws : List (List Nat)) (i j : Nat) : List (List Nat) := ((ws.take i).flatMap fun w => (List.range m).map fun l => w ++ [97 + l]) ++ (List.range j).map fun l => ws.getD i [] ++ [97 + l]
theorem lU_len (m : Nat) (ws : List (List Nat)) (i j : Nat) : (lU m ws i j).length ≤ ws.length * m + j := by
  unfold lU
  rw [List.length_append, flat_len_eq _ m _ (fun a _ => by simp), List.length_map, List.length_range, List.length_take]
  have : min i ws.length * m ≤ ws.length * m := Nat.mul_le_mul_right m (Nat.min_le_right _ _)
  omega
theorem lU_succ (m : Nat) (ws : List (List Nat)) (i j : Nat) : lU m ws i (j + 1) = lU m ws i j ++ [ws.getD i [] ++ [97 + j]] := by
  unfold lU
  rw [List.range_succ, List.map_append, List.append_assoc]
  rfl
theorem take_snoc {α : Type} {l : List α} {i : Nat} (d : α) (h : i < l.length) : l.take (i + 1) = l.take i ++ [l.getD i d] := by
  rw [List.take_succ, List.getD_eq_getElem?_getD, List.getElem?_eq_getElem h]; rfl
theorem lU_row {m : Nat} {ws : List (List Nat)} {i : Nat} (h : i < ws.length) : lU m ws i m = lU m ws (i + 1) 0 := by
  unfold lU
  rw [take_snoc [] h, List.flatMap_append]
  simp
theorem lU_all {m t : Nat} : lU m (wl m t) (wl m t).length 0 = wl m (t + 1) := by
  unfold lU
  rw [List.take_length]
  simp [wl]
section
variable {T : Tab} {m N : Nat}
/-- the pairs so far -/
def byU (T : Tab) (m N t i : Nat) : List (List Nat × List Nat) := byW T m N t ++ (((wl m (t + 1)).take i).filter fun w => decide (PP T m N w)).map fun w => (w, W T m N (run T 0 w))
theorem byU_zero {t : Nat} : byU T m N t 0 = byW T m N t := by unfold byU; simp
theorem byU_all {t : Nat} : byU T m N t (wl m (t + 1)).length = byW T m N (t + 1) := by
  unfold byU byW
  rw [List.take_length, List.range_succ, List.flatMap_append]
  simp
theorem byU_yes {t i : Nat} (h : i < (wl m (t + 1)).length) (p : PP T m N ((wl m (t + 1)).getD i [])) : byU T m N t (i + 1) = byU T m N t i ++ [((wl m (t + 1)).getD i [], W T m N (run T 0 ((wl m (t + 1)).getD i [])))] := by
  unfold byU
  rw [take_snoc [] h, List.filter_append, List.map_append, List.append_assoc]
  generalize (wl m (t + 1)).getD i [] = x at *
  simp [p]
theorem byU_no {t i : Nat} (h : i < (wl m (t + 1)).length) (p : ¬ PP T m N ((wl m (t + 1)).getD i [])) : byU T m N t (i + 1) = byU T m N t i := by
  unfold byU
  rw [take_snoc [] h, List.filter_append, List.map_append]
  generalize (wl m (t + 1)).getD i [] = x at *
  simp [p]
theorem byW_len {t : Nat} (B : Nat) (hB : ∀ k, k < t → m ^ (k + 1) ≤ B) : (byW T m N t).length ≤ t * B := by
  have h := flat_len (fun t => ((wl m (t + 1)).filter fun w => decide (PP T m N w)).map fun w => (w, W T m N (run T 0 w))) B (List.range t) fun n hn => by
    rw [List.length_map]
    refine Nat.le_trans (List.length_filter_le _ _) ?_
    rw [wl_len]
    exact hB n (List.mem_range.mp hn)
  rw [List.length_range] at h
  exact h
theorem byU_len {t i : Nat} (B : Nat) (hB : ∀ k, k < t + 1 → m ^ (k + 1) ≤ B) : (byU T m N t i).length ≤ (t + 1) * B := by
  unfold byU
  rw [List.length_append, List.length_map]
  have h1 := byW_len (T := T) (m := m) (N := N) (t := t) B fun k hk => hB k (by omega)
  have h2 := List.length_filter_le (fun w => decide (PP T m N w)) ((wl m (t + 1)).take i)
  rw [List.length_take, wl_len] at h2
  have h3 := hB t (Nat.lt_succ_self _)
  rw [Nat.add_mul]
  have h4 : min i (m ^ (t + 1)) ≤ m ^ (t + 1) := Nat.min_le_right _ _
  omega
end
end Mon
namespace My
open PySem PySem.Spec L2 SX Mon
open PyProof.Rows hiding St
theorem Same.nn {H H' : Hp} {a : Addr} (s : Same H H') (n : H' a = none) : H a = none := by
  cases e : H a with
  | none => rfl
  | some o => rw [s _ _ e] at n; cases n
theorem inV_str {x : List Nat} : ∀ ws : List (List Nat), inV (.str (S x)) (txV ws) = decide (x ∈ ws)
  | [] => rfl
  | n :: ns => by
    show (eqV (.str (S n)) (.str (S x)) || inV (.str (S x)) (txV ns)) = _
    rw [inV_str ns]
    have e : eqV (.str (S n)) (.str (S x)) = decide (n = x) := by
      unfold eqV
      by_cases e : n = x
      · subst e; simp
      · have e2 : ¬ S n = S x := fun z => e (S_inj z)
        simp [e, e2]
    rw [e]
    by_cases h : x = n
    · subst h; simp
    · have h2 : ¬ n = x := fun z => h z.symm
      simp [h, h2]
theorem flat_strs (ws : List (List Nat)) : (txV ws).all flatV = true := by
  rw [List.all_eq_true]
  intro v hv
  obtain ⟨n, _, rfl⟩ := List.mem_map.mp hv
  rfl
theorem rd_notInS {K : PySem.W.Frag} {H : Hp} {Q : VK} {p : Addr} {x : List Nat} {ws : List (List Nat)} (h : SqL K H p (txV ws)) (q : Q (.bl (!decide (x ∈ ws))) H) : rIn K true (.str (S x)) (.ref p) H Q := ⟨p, _, rfl, .inl h, rfl, flat_strs ws, by rw [if_pos rfl, inV_str]; exact q⟩
/-! ### layers: words with what they do -/
section
variable {rows : Tab} {sz : Nat}
def LYs (rows : Tab) (sz : Nat) (H : Hp) (as : List Addr) (ws : List (List Nat)) : Prop := as.length = ws.length ∧ ∀ (i : Nat) (a : Addr) (u : List Nat), as[i]? = some a → ws[i]? = some u → ∃ b, H a = some (.tup [.str (S u), .ref b]) ∧ H b = some (.tup (rowV (Done.act rows sz u)))
def LY (rows : Tab) (sz : Nat) (H : Hp) (p : Addr) (ws : List (List Nat)) : Prop := ∃ as, H p = some (.lst (refs as)) ∧ LYs rows sz H as ws
theorem LYs.keep {H H' : Hp} {as : List Addr} {ws : List (List Nat)} (h : LYs rows sz H as ws) (k : ∀ a xs, H a = some (.tup xs) → H' a = some (.tup xs)) : LYs rows sz H' as ws := ⟨h.1, fun i a u e1 e2 => let ⟨b, q1, q2⟩ := h.2 i a u e1 e2; ⟨b, k _ _ q1, k _ _ q2⟩⟩
theorem LY.kq {H H' : Hp} {p : Addr} {ws : List (List Nat)} (h : LY rows sz H p ws) (k : Kq H H') : LY rows sz H' p ws := let ⟨as, h1, h2⟩ := h; ⟨as, k.1 _ _ h1, h2.keep k.2⟩
theorem LYs.snoc {H : Hp} {as : List Addr} {ws : List (List Nat)} {a b : Addr} {u : List Nat} (h : LYs rows sz H as ws) (q1 : H a = some (.tup [.str (S u), .ref b])) (q2 : H b = some (.tup (rowV (Done.act rows sz u)))) : LYs rows sz H (as ++ [a]) (ws ++ [u]) := by
  refine ⟨by simp [h.1], fun i c s e1 e2 => ?_⟩
  have hl := h.1
  by_cases hi : i < as.length
  · rw [List.getElem?_append_left hi] at e1
    rw [List.getElem?_append_left (by omega)] at e2
    exact h.2 i c s e1 e2
  · have hi2 : i = as.length := by
      have := (List.getElem?_eq_some_iff.mp e1).1
      simp at this; omega
    subst hi2
    rw [List.getElem?_append_right (Nat.le_refl _), Nat.sub_self] at e1
    cases e1
    rw [List.getElem?_append_right (by omega), show as.length - ws.length = 0 by omega] at e2
    cases e2
    exact ⟨b, q1, q2⟩
/-- one word more -/
theorem LY.snoc {H : Hp} {p a b : Addr} {ws : List (List Nat)} {u : List Nat} (h : LY rows sz H p ws) (q1 : H a = some (.tup [.str (S u), .ref b])) (q2 : H b = some (.tup (rowV (Done.act rows sz u)))) : ∃ xs, H p = some (.lst xs) ∧ xs.length = ws.length ∧ LY rows sz (L2.upd H p (.lst (xs ++ [.ref a]))) p (ws ++ [u]) := by
  obtain ⟨as, h1, h2⟩ := h
  refine ⟨refs as, h1, by rw [refs_len, h2.1], as ++ [a], by rw [upd_same, refs_snoc], (h2.snoc q1 q2).keep fun c xs e => ?_⟩
  rw [upd_ne (ne_of e h1 (fun z => nomatch z))]; exact e
/-- another list changes -/
theorem LY.other {H : Hp} {p r : Addr} {ws : List (List Nat)} {xs ys : List V} (h : LY rows sz H p ws) (hr : H r = some (.lst xs)) (n : p ≠ r) : LY rows sz (L2.upd H r (.lst ys)) p ws := by
  obtain ⟨as, h1, h2⟩ := h
  refine ⟨as, by rw [upd_ne n]; exact h1, h2.keep fun c xs e => ?_⟩
  rw [upd_ne (ne_of e hr (fun z => nomatch z))]; exact e
theorem Prs.other {H : Hp} {p r : Addr} {bs : List (List Nat × List Nat)} {xs ys : List V} (h : Prs H p bs) (hr : H r = some (.lst xs)) (n : p ≠ r) : Prs (L2.upd H r (.lst ys)) p bs := by
  obtain ⟨as, h1, h2, h3⟩ := h
  refine ⟨as, by rw [upd_ne n]; exact h1, h2, fun i a b e1 e2 => ?_⟩
  have := h3 i a b e1 e2
  rw [upd_ne (ne_of this hr (fun z => nomatch z))]; exact this
/-- one pair more -/
theorem Prs.snoc {H : Hp} {p a : Addr} {bs : List (List Nat × List Nat)} {b : List Nat × List Nat} (h : Prs H p bs) (q : H a = some (.tup [.str (S b.1), .str (S b.2)])) : ∃ xs, H p = some (.lst xs) ∧ xs.length = bs.length ∧ Prs (L2.upd H p (.lst (xs ++ [.ref a]))) p (bs ++ [b]) := by
  obtain ⟨as, h1, h2, h3⟩ := id h
  have hk : ∀ c ys, H c = some (.tup ys) → (L2.upd H p (.lst (refs as ++ [.ref a]))) c = some (.tup ys) := fun c ys e => by rw [upd_ne (ne_of e h1 (fun z => nomatch z))]; exact e
  obtain ⟨cs, c1, c2, c3⟩ := prs_snoc (q := a) (b := b) (H' := L2.upd H p (.lst (refs as ++ [.ref a]))) h (hk _ _ q) hk
  have e : refs cs = refs as := by rw [h1] at c1; exact (HO.lst.inj (Option.some.inj c1)).symm
  exact ⟨refs as, h1, by rw [refs_len, h2], c3 (by rw [upd_same, e])⟩
/-- the numbers of the maps -/
theorem keys_zip {H : Hp} {fs : List Addr} {F : Tab} (hl : fs.length = F.length) (h : ∀ (i : Nat) (a : Addr) (r : List Nat), fs[i]? = some a → F[i]? = some r → H a = some (.tup (rowV r))) (hn : F.Nodup) :
    ((((F.map kk).zip fs).map fun p => V.ref p.2) = refs fs) ∧ (((F.map kk).zip fs).map (·.1) = F.map kk) ∧ ((F.map kk).zip fs).length = F.length ∧ KeysAt H ((F.map kk).zip fs) ∧ (F.map kk).Nodup := by
  have e1 : ((F.map kk).zip fs).map (·.1) = F.map kk := List.map_fst_zip (by rw [List.length_map]; omega)
  have e2 : ((F.map kk).zip fs).map (·.2) = fs := List.map_snd_zip (by rw [List.length_map]; omega)
  refine ⟨?_, e1, by rw [List.length_zip, List.length_map]; omega, fun p hp => ?_, ?_⟩
  · unfold refs
    rw [← e2, List.map_map, e2]
    rfl
  · obtain ⟨i, hi⟩ := List.mem_iff_getElem?.mp hp
    rw [List.getElem?_zip_eq_some, List.getElem?_map] at hi
    obtain ⟨h1, h2⟩ := hi
    cases h3 : F[i]? with
    | none => rw [h3] at h1; cases h1
    | some r =>
      rw [h3] at h1
      have e : kk r = p.1 := Option.some.inj h1
      rw [← e, kk_map]
      exact h i p.2 r h2 h3
  · unfold List.Nodup
    rw [List.pairwise_map]
    exact List.Pairwise.imp (fun hab e => hab (kk_inj.mp e)) hn
end
end My
/-! list + list where the lists may be given ones. -/
namespace My
open PySem PySem.Spec L2 SX
open PyProof.Rows hiding St
def rCatK (K : PySem.W.Frag) : R2 := fun x y H Q => ∃ l b xs zs, x = .ref l ∧ y = .ref b ∧ SqL K H l xs ∧ SqL K H b zs ∧ xs.length + zs.length ≤ sizeLine ∧ ∀ p, H p = none → Q (.ref p) (L2.upd H p (.lst (xs ++ zs)))
theorem add_listsG {prog : Program} {w : World} {A : Around} {E : Value → Shared → Prop} {s : Shared} {l b : Addr} {vs ws : List Value} {Q : Value → Shared → Prop} (hl : s.heap.IsList l vs.toArray) (hb : s.heap.IsList b ws.toArray)
    (h : Q (.ref s.heap.objs.size) { s with heap := s.heap.push { cls := .type "list", data := .seq (vs ++ ws).toArray } })
    (hsz : vs.length + ws.length ≤ sizeLine) : wpAny (model prog w) A (binaryOp .Add (.ref l) (.ref b)) Q E s := by
  obtain ⟨⟨cls, dd, data, sl⟩, ho, hc, n, hd⟩ := id hl
  obtain ⟨⟨cls2, dd2, data2, sl2⟩, ho2, hc2, n2, hd2⟩ := id hb
  simp only at hc hd hc2 hd2
  subst hc hd hc2 hd2
  have e : vs.toArray ++ ws.toArray = (vs ++ ws).toArray := by simp
  refine PySem.concat_meets ⟨_, ho, rfl⟩ ⟨_, ho2, rfl⟩ PySem.noFill_list_add PySem.seq_list_add PySem.F.slot_list_add PySem.F.entry_list_add (PySem.F.args_list_add_2 _ _) (PyProof.Rows.list_addW l b vs.toArray ws.toArray n n2 dd dd2 sl sl2 (by simpa using hsz)) ⟨ho, ho2, ?_⟩
  rw [e]
  exact h
theorem op_catK {X : Cx} (K : PySem.W.Frag) (hK : X.K = K) : OpR X (binaryOp .Add) (rCatK K) := by
  subst hK
  intro pins s σ H x y v u Q I rx ry h
  obtain ⟨l, b, xs, zs, rfl, rfl, hH, hB, hz, q⟩ := h
  cases rx
  cases ry
  obtain ⟨its, r, pl, _⟩ := I.list hH
  obtain ⟨its2, r2, pl2, _⟩ := I.list hB
  refine add_listsG pl.isList pl2.isList ?_ (by rw [← r.length, ← r2.length]; exact hz)
  exact ⟨.ref _, _, I.lnew (t' := s.toks) (r.append r2) (by rw [List.length_append]; omega), rfl, q _ I.fresh⟩
theorem rd_catK {K : PySem.W.Frag} {H : Hp} {Q : VK} {l b : Addr} {xs zs : List V} (h1 : SqL K H l xs) (h2 : SqL K H b zs) (hl : xs.length + zs.length ≤ 100000) (q : ∀ p, H p = none → Q (.ref p) (L2.upd H p (.lst (xs ++ zs)))) : rCatK K (.ref l) (.ref b) H Q := ⟨l, b, xs, zs, rfl, rfl, h1, h2, sz hl, q⟩
end My
namespace My
open PySem PySem.Spec L2 SX LamX Mon
open PyProof.Rows hiding St
def top (i : Nat) : Stmt := PySem.Challenge.pw_wordfolds_k18_rules_of_a_monoid.main.body.getD i (.Pass ⟨0, 0, 0, 0⟩)
abbrev s_is_number : Stmt := top 6
abbrev s_is_sequence : Stmt := top 7
abbrev s_check_form : Stmt := top 12
abbrev s_check_order : Stmt := top 13
abbrev s_tree_of : Stmt := top 14
abbrev s_left_of : Stmt := top 15
abbrev s_check_products : Stmt := top 16
abbrev s__law_source : Stmt := top 19
abbrev s__law_draw : Stmt := top 20
abbrev s__law_maps : Stmt := top 22
abbrev s__law_table : Stmt := top 23
abbrev s__law_due : Stmt := top 24
abbrev s__law_parts : Stmt := top 25
abbrev s__law_by_words : Stmt := top 26
abbrev s__law_right : Stmt := top 27
abbrev s__law_mixed : Stmt := top 28
abbrev s_law : Stmt := top 29
abbrev s_Monoid_init : Stmt := (C8.clsBody (top 17)).getD 0 (.Pass ⟨0, 0, 0, 0⟩)
abbrev s_Monoid_all_words : Stmt := (C8.clsBody (top 17)).getD 4 (.Pass ⟨0, 0, 0, 0⟩)
abbrev s_Monoid_ends : Stmt := (C8.clsBody (top 17)).getD 22 (.Pass ⟨0, 0, 0, 0⟩)
abbrev s_Monoid_is_least : Stmt := (C8.clsBody (top 17)).getD 23 (.Pass ⟨0, 0, 0, 0⟩)
abbrev s_Monoid_is_rule : Stmt := (C8.clsBody (top 17)).getD 24 (.Pass ⟨0, 0, 0, 0⟩)
abbrev s_Monoid_rules : Stmt := (C8.clsBody (top 17)).getD 25 (.Pass ⟨0, 0, 0, 0⟩)
abbrev N_is_number : List Str := ["thing"]
theorem sc_is_number : FnScope N_is_number ["thing"] (defScope s_is_number) := ⟨rfl, rfl, rfl, by decide +kernel, rfl, by decide +kernel, by decide +kernel⟩
abbrev N_is_sequence : List Str := ["thing"]
theorem sc_is_sequence : FnScope N_is_sequence ["thing"] (defScope s_is_sequence) := ⟨rfl, rfl, rfl, by decide +kernel, rfl, by decide +kernel, by decide +kernel⟩
abbrev N_check_form : List Str := ["right", "place", "row", "number"]
theorem sc_check_form : FnScope N_check_form ["right"] (defScope s_check_form) := ⟨rfl, rfl, rfl, by decide +kernel, rfl, by decide +kernel, by decide +kernel⟩
abbrev N_check_order : List Str := ["right", "met", "number", "row", "other"]
theorem sc_check_order : FnScope N_check_order ["right"] (defScope s_check_order) := ⟨rfl, rfl, rfl, by decide +kernel, rfl, by decide +kernel, by decide +kernel⟩
abbrev N_tree_of : List Str := ["right", "found", "number", "row", "letter", "other"]
theorem sc_tree_of : FnScope N_tree_of ["right"] (defScope s_tree_of) := ⟨rfl, rfl, rfl, by decide +kernel, rfl, by decide +kernel, by decide +kernel⟩
abbrev N_left_of : List Str := ["right", "tree", "found", "ahead", "letter", "number"]
theorem sc_left_of : FnScope N_left_of ["right", "tree"] (defScope s_left_of) := ⟨rfl, rfl, rfl, by decide +kernel, rfl, by decide +kernel, by decide +kernel⟩
abbrev N_check_products : List Str := ["right", "left", "number", "row", "letter", "other", "one"]
theorem sc_check_products : FnScope N_check_products ["right", "left"] (defScope s_check_products) := ⟨rfl, rfl, rfl, by decide +kernel, rfl, by decide +kernel, by decide +kernel⟩
abbrev N__law_source : List Str := ["cell"]
theorem sc__law_source : FnScope N__law_source ["cell"] (defScope s__law_source) := ⟨rfl, rfl, rfl, by decide +kernel, rfl, by decide +kernel, by decide +kernel⟩
abbrev N__law_draw : List Str := ["source", "many", "digit", "mixed"]
theorem sc__law_draw : FnScope N__law_draw ["source", "many"] (defScope s__law_draw) := ⟨rfl, rfl, rfl, by decide +kernel, rfl, by decide +kernel, by decide +kernel⟩
abbrev N__law_maps : List Str := ["source", "most_points", "most_letters", "size", "many", "turn", "point"]
theorem sc__law_maps : FnScope N__law_maps ["source", "most_points", "most_letters"] (defScope s__law_maps) := ⟨rfl, rfl, rfl, by decide +kernel, rfl, by decide +kernel, by decide +kernel⟩
abbrev N__law_table : List Str := ["rows", "found", "words", "table", "numbers", "at", "row", "letter", "other", "product", "image"]
theorem sc__law_table : FnScope N__law_table ["rows"] (defScope s__law_table) := ⟨rfl, rfl, rfl, by decide +kernel, rfl, by decide +kernel, by decide +kernel⟩
abbrev N__law_due : List Str := ["words", "table", "known", "found", "word", "number", "letter", "other", "longer"]
theorem sc__law_due : FnScope N__law_due ["words", "table"] (defScope s__law_due) := ⟨rfl, rfl, rfl, by decide +kernel, rfl, by decide +kernel, by decide +kernel⟩
abbrev N__law_parts : List Str := ["word", "found", "begin", "end"]
theorem sc__law_parts : FnScope N__law_parts ["word"] (defScope s__law_parts) := ⟨rfl, rfl, rfl, by decide +kernel, rfl, by decide +kernel, by decide +kernel⟩
abbrev N__law_by_words : List Str := ["rows", "found", "words", "most", "layer", "pairs", "numbers", "turn", "longer", "word", "images", "letter", "row", "least", "part", "image"]
theorem sc__law_by_words : FnScope N__law_by_words ["rows", "found", "words", "most"] (defScope s__law_by_words) := ⟨rfl, rfl, rfl, by decide +kernel, rfl, by decide +kernel, by decide +kernel⟩
abbrev N__law_right : List Str := ["source", "rows", "found", "words", "table", "monoid", "due", "told", "most", "pair"]
theorem sc__law_right : FnScope N__law_right ["source", "rows"] (defScope s__law_right) := ⟨rfl, rfl, rfl, by decide +kernel, rfl, by decide +kernel, by decide +kernel⟩
abbrev N__law_mixed : List Str := ["source", "rows", "way", "at"]
theorem sc__law_mixed : FnScope N__law_mixed ["source", "rows"] (defScope s__law_mixed) := ⟨rfl, rfl, rfl, by decide +kernel, rfl, by decide +kernel, by decide +kernel⟩
abbrev N_law : List Str := ["script", "cell", "source", "turn", "ring", "letter", "number"]
theorem sc_law : FnScope N_law ["script"] (defScope s_law) := ⟨rfl, rfl, rfl, by decide +kernel, rfl, by decide +kernel, by decide +kernel⟩
abbrev N_Monoid_init : List Str := ["self", "right", "rows", "row"]
theorem sc_Monoid_init : FnScope N_Monoid_init ["self", "right"] (defScope s_Monoid_init) := ⟨rfl, rfl, rfl, by decide +kernel, rfl, by decide +kernel, by decide +kernel⟩
abbrev N_Monoid_all_words : List Str := ["self", "found", "ahead", "letter"]
theorem sc_Monoid_all_words : FnScope N_Monoid_all_words ["self"] (defScope s_Monoid_all_words) := ⟨rfl, rfl, rfl, by decide +kernel, rfl, by decide +kernel, by decide +kernel⟩
abbrev N_Monoid_ends : List Str := ["self", "found", "ahead", "letter"]
theorem sc_Monoid_ends : FnScope N_Monoid_ends ["self"] (defScope s_Monoid_ends) := ⟨rfl, rfl, rfl, by decide +kernel, rfl, by decide +kernel, by decide +kernel⟩
abbrev N_Monoid_is_least : List Str := ["self", "number", "letter"]
theorem sc_Monoid_is_least : FnScope N_Monoid_is_least ["self", "number", "letter"] (defScope s_Monoid_is_least) := ⟨rfl, rfl, rfl, by decide +kernel, rfl, by decide +kernel, by decide +kernel⟩
abbrev N_Monoid_is_rule : List Str := ["self", "number", "letter"]
theorem sc_Monoid_is_rule : FnScope N_Monoid_is_rule ["self", "number", "letter"] (defScope s_Monoid_is_rule) := ⟨rfl, rfl, rfl, by decide +kernel, rfl, by decide +kernel, by decide +kernel⟩
abbrev N_Monoid_rules : List Str := ["self", "words", "found", "number", "row", "letter", "other"]
theorem sc_Monoid_rules : FnScope N_Monoid_rules ["self"] (defScope s_Monoid_rules) := ⟨rfl, rfl, rfl, by decide +kernel, rfl, by decide +kernel, by decide +kernel⟩
structure Txt (K : PySem.W.Frag) (mg : Str → Option Value) : Prop where
  n_int : mg "int" = none
  n_isinstance : mg "isinstance" = none
  n_bool : mg "bool" = none
  n_list : mg "list" = none
  n_tuple : mg "tuple" = none
  n_len : mg "len" = none
  n_enumerate : mg "enumerate" = none
  n_all : mg "all" = none
  n_abs : mg "abs" = none
  n_range : mg "range" = none
  n_zip : mg "zip" = none
  n_dict : mg "dict" = none
  n_sorted : mg "sorted" = none
  c_MOST_ELEMENTS : ∃ u, mg "MOST_ELEMENTS" = some u ∧ RelV (.int 2000) u
  c_MOST_LETTERS : ∃ u, mg "MOST_LETTERS" = some u ∧ RelV (.int 6) u
  c_LETTERS : ∃ u, mg "LETTERS" = some u ∧ RelV (.str (S [97, 98, 99, 100, 101, 102])) u
/-- the class, the tables of code of the two defs that make a lambda -/
structure Zed where
  C : Addr
  P_Monoid_rules : Addr
  P__law_due : Addr
def Zed.TT (z : Zed) : List (Addr × Str) := [(z.P_Monoid_rules, (("Monoid.rules" : Str) ++ ".<locals>.") ++ "<lambda>"), (z.P__law_due, (("_law_due" : Str) ++ ".<locals>.") ++ "<lambda>")]
structure Zok (K : PySem.W.Frag) (mg : Str → Option Value) (z : Zed) : Prop where
  cl : Cls K z.C
  n_right : NoAttr K z.C "right"
  n_tree : NoAttr K z.C "tree"
  n_lefts : NoAttr K z.C "lefts"
  n_memory : NoAttr K z.C "memory"
  ne : z.P_Monoid_rules ≠ z.P__law_due
theorem Zok.tab_Monoid_rules {K : PySem.W.Frag} {mg : Str → Option Value} {z : Zed} (Z : Zok K mg z) : ∀ p ∈ z.TT, p.1 = z.P_Monoid_rules → p.2 = (("Monoid.rules" : Str) ++ ".<locals>.") ++ "<lambda>" := fun p hp e => by
  rcases List.mem_cons.mp hp with h | h
  · rw [h]
  · rw [List.mem_singleton.mp h] at e
    exact absurd e.symm Z.ne
theorem Zok.tab__law_due {K : PySem.W.Frag} {mg : Str → Option Value} {z : Zed} (Z : Zok K mg z) : ∀ p ∈ z.TT, p.1 = z.P__law_due → p.2 = (("_law_due" : Str) ++ ".<locals>.") ++ "<lambda>" := fun p hp e => by
  rcases List.mem_cons.mp hp with h | h
  · rw [h] at e
    exact absurd e Z.ne
  · rw [List.mem_singleton.mp h]
/-! ### what lies -/
/-- the tree's list: None, then pairs -/
def Trl (H : Hp) (p : Addr) (tr : List (Nat × Nat)) : Prop := ∃ as : List Addr, H p = some (.lst (.non :: refs as)) ∧ as.length + 1 = tr.length ∧ ∀ (i : Nat) (a : Addr) (q : Nat × Nat), as[i]? = some a → tr[i + 1]? = some q → H a = some (.tup [vI q.1, vI q.2])
theorem Trl.kq {H H' : Hp} {p : Addr} {tr : List (Nat × Nat)} (h : Trl H p tr) (k : Kq H H') : Trl H' p tr := by
  obtain ⟨as, h1, h2, h3⟩ := h
  exact ⟨as, k.1 _ _ h1, h2, fun i a r e1 e2 => k.2 _ _ (h3 i a r e1 e2)⟩
structure GoodT (T : Tab) (m N : Nat) : Prop where
  len : T.length = N
  le : N ≤ 2000
  m1 : 1 ≤ m
  m6 : m ≤ 6
  g : Good T m N
  p : Mon.Prod T m N
abbrev kw : Key := .inr (S [119, 111, 114, 100, 115])
abbrev ke : Key := .inr (S [101, 110, 100, 115])
/-- the memory's dict: words and ends are what they must be, where they are -/
def Memo (H : Hp) (me : Addr) (T : Tab) (m N : Nat) : Prop := ∃ kvs : List (Key × V), H me = some (.dK kvs) ∧ kvs.length = (if (valV kvs kw).isSome then 1 else 0) + (if (valV kvs ke).isSome then 1 else 0) ∧ (∀ v, valV kvs kw = some v → ∃ p, v = .ref p ∧ H p = some (.lst (txV (wds (tree T m N))))) ∧ ∀ v, valV kvs ke = some v → ∃ p, v = .ref p ∧ H p = some (.lst (rowV (ends T (tree T m N))))
structure Ob (z : Zed) (H : Hp) (a me : Addr) (T : Tab) (m N : Nat) : Prop where
  ins : ∃ dx r t l, H a = some (.ins z.C dx [("right", .ref r), ("tree", .ref t), ("lefts", .ref l), ("memory", .ref me)]) ∧ Tb true true H r T ∧ Trl H t (tree T m N) ∧ Tb true true H l (lefts T (tree T m N))
  mem : Memo H me T m N
/-- all but the memory is kept -/
theorem Memo.dk {H : Hp} {me : Addr} {T : Tab} {m N : Nat} (h : Memo H me T m N) : ∃ kvs, H me = some (.dK kvs) := let ⟨kvs, e, _⟩ := h; ⟨kvs, e⟩
theorem kq_exB {H H' : Hp} {me : Addr} {kvs : List (Key × V)} (h : H me = some (.dK kvs)) (e : ExB me H H') : Kq H H' := ⟨fun a xs q => e a _ (ne_of q h (fun z => nomatch z)) q, fun a xs q => e a _ (ne_of q h (fun z => nomatch z)) q⟩
theorem kq_extN {H H' : Hp} (e : ExtN H H') : Kq H H' := ⟨fun a xs q => e a _ q (fun ps z => nomatch z), fun a xs q => e a _ q (fun ps z => nomatch z)⟩
/-- all but the memory and the tables of code is kept -/
def ExM (me : Addr) (H H' : Hp) : Prop := ∀ b o, b ≠ me → H b = some o → (∀ ps, o ≠ .tbl ps) → H' b = some o
theorem ExM.refl (me : Addr) (H : Hp) : ExM me H H := fun _ _ _ e _ => e
theorem ExM.trans {me : Addr} {H H1 H2 : Hp} (a : ExM me H H1) (b : ExM me H1 H2) : ExM me H H2 := fun c o n e t => b c o n (a c o n e t) t
theorem ExM.ofB {me : Addr} {H H' : Hp} (e : ExB me H H') : ExM me H H' := fun b o n q _ => e b o n q
theorem ExM.ofN {me : Addr} {H H' : Hp} (e : ExtN H H') : ExM me H H' := fun b o _ q t => e b o q t
theorem ExM.ofS {me : Addr} {H H' : Hp} (e : Same H H') : ExM me H H' := fun b o _ q _ => e b o q
theorem kq_exM {H H' : Hp} {me : Addr} {kvs : List (Key × V)} (h : H me = some (.dK kvs)) (e : ExM me H H') : Kq H H' := ⟨fun a xs q => e a _ (ne_of q h (fun z => nomatch z)) q (fun ps z => nomatch z), fun a xs q => e a _ (ne_of q h (fun z => nomatch z)) q (fun ps z => nomatch z)⟩
theorem Ob.same {z : Zed} {H H' : Hp} {a me : Addr} {T : Tab} {m N : Nat} (o : Ob z H a me T m N) (e : Same H H') : Ob z H' a me T m N := by
  obtain ⟨⟨dx, r, t, l, h1, h2, h3, h4⟩, ⟨kvs, m1, m2, m3, m4⟩⟩ := o
  have k := Kq.of e
  exact ⟨⟨dx, r, t, l, e _ _ h1, h2.kq k, h3.kq k, h4.kq k⟩, ⟨kvs, e _ _ m1, m2, fun v hv => let ⟨p, q1, q2⟩ := m3 v hv; ⟨p, q1, e _ _ q2⟩, fun v hv => let ⟨p, q1, q2⟩ := m4 v hv; ⟨p, q1, e _ _ q2⟩⟩⟩
theorem Ob.extN {z : Zed} {H H' : Hp} {a me : Addr} {T : Tab} {m N : Nat} (o : Ob z H a me T m N) (e : ExtN H H') : Ob z H' a me T m N := by
  obtain ⟨⟨dx, r, t, l, h1, h2, h3, h4⟩, ⟨kvs, m1, m2, m3, m4⟩⟩ := o
  have k := kq_extN e
  exact ⟨⟨dx, r, t, l, e _ _ h1 (fun ps z => nomatch z), h2.kq k, h3.kq k, h4.kq k⟩, ⟨kvs, e _ _ m1 (fun ps z => nomatch z), m2, fun v hv => let ⟨p, q1, q2⟩ := m3 v hv; ⟨p, q1, k.1 _ _ q2⟩, fun v hv => let ⟨p, q1, q2⟩ := m4 v hv; ⟨p, q1, k.1 _ _ q2⟩⟩⟩
theorem Tabs.exB {TT : List (Addr × Str)} {H H' : Hp} {me : Addr} {kvs : List (Key × V)} (h : H me = some (.dK kvs)) (t : Tabs TT H) (e : ExB me H H') : Tabs TT H' := fun p hp => by
  obtain ⟨ps, h1, h2, h3⟩ := t p hp
  refine ⟨ps, e _ _ (ne_of h1 h (fun z => nomatch z)) h1, h2, fun pos cv hc => ?_⟩
  obtain ⟨c, e1, e2⟩ := h3 pos cv hc
  refine ⟨c, e1, e _ _ (ne_of e2 h ?_) e2⟩
  unfold CodeO
  intro z
  cases z
theorem Tabs.same {TT : List (Addr × Str)} {H H' : Hp} (t : Tabs TT H) (e : Same H H') : Tabs TT H' := Tabs.ext t e
/-- nothing but a table of code could have been at p -/
def Nw (H : Hp) (p : Addr) : Prop := ∀ o, H p = some o → ∃ ps, o = .tbl ps
theorem Nw.ne {H : Hp} {p b : Addr} {o : HO} (n : Nw H p) (h : H b = some o) (t : ∀ ps, o ≠ .tbl ps) : b ≠ p := fun e => by
  rw [e] at h
  obtain ⟨ps, q⟩ := n o h
  exact t ps q
/-- a list of references is none of the object's lists -/
theorem Ob.updL {z : Zed} {H : Hp} {a me D : Addr} {T : Tab} {m N : Nat} {bs : List Addr} {xs : List V} (o : Ob z H a me T m N) (G : GoodT T m N) (hD : H D = some (.lst (refs bs))) : Ob z (L2.upd H D (.lst xs)) a me T m N := by
  obtain ⟨⟨dx, r, t, l, h1, h2, h3, h4⟩, ⟨kvs, m1, m2, m3, m4⟩⟩ := o
  have hpos := G.g.pos
  have kt : ∀ a ys, H a = some (.tup ys) → (L2.upd H D (.lst xs)) a = some (.tup ys) := fun a ys h => by rw [upd_ne (ne_of h hD (fun z => nomatch z))]; exact h
  have kl : ∀ p ys, H p = some (.lst ys) → ys ≠ refs bs → (L2.upd H D (.lst xs)) p = some (.lst ys) := fun p ys h n => by rw [upd_ne (ne_of h hD (fun z => n (HO.lst.inj z)))]; exact h
  have ktb : ∀ p S, Tb true true H p S → Tb true true (L2.upd H D (.lst xs)) p S := fun p S ⟨as, e1, e2, e3⟩ => ⟨as, kt _ _ e1, e2, fun i a r q1 q2 => kt _ _ (e3 i a r q1 q2)⟩
  refine ⟨⟨dx, r, t, l, by rw [upd_ne (ne_of h1 hD (fun z => nomatch z))]; exact h1, ktb _ _ h2, ?_, ktb _ _ h4⟩, ⟨kvs, by rw [upd_ne (ne_of m1 hD (fun z => nomatch z))]; exact m1, m2, fun v hv => ?_, fun v hv => ?_⟩⟩
  · obtain ⟨as, e1, e2, e3⟩ := h3
    refine ⟨as, kl _ _ e1 (fun z => ?_), e2, fun i a q q1 q2 => kt _ _ (e3 i a q q1 q2)⟩
    cases bs <;> cases z
  · obtain ⟨p, q1, q2⟩ := m3 v hv
    refine ⟨p, q1, kl _ _ q2 fun z => ?_⟩
    have hl := G.g.wlen
    cases hw : wds (tree T m N) with
    | nil => rw [hw] at hl; simp at hl; omega
    | cons x y => rw [hw] at z; cases bs <;> cases z
  · obtain ⟨p, q1, q2⟩ := m4 v hv
    refine ⟨p, q1, kl _ _ q2 fun z => ?_⟩
    have hl := G.g.elen
    cases hw : ends T (tree T m N) with
    | nil => rw [hw] at hl; simp at hl; omega
    | cons x y => rw [hw] at z; cases bs <;> cases z
theorem Tabs.updL {TT : List (Addr × Str)} {H : Hp} {D : Addr} {xs ys : List V} (t : Tabs TT H) (hD : H D = some (.lst ys)) : Tabs TT (L2.upd H D (.lst xs)) := fun p hp => by
  obtain ⟨ps, h1, h2, h3⟩ := t p hp
  refine ⟨ps, by rw [upd_ne (ne_of h1 hD (fun z => nomatch z))]; exact h1, h2, fun pos cv hc => ?_⟩
  obtain ⟨c, e1, e2⟩ := h3 pos cv hc
  refine ⟨c, e1, ?_⟩
  rw [upd_ne (ne_of e2 hD ?_)]
  · exact e2
  · unfold CodeO
    intro z
    cases z
/-! ### promises -/
def sp_is_number (_ : PySem.W.Frag) : Sp := fun vs H Q _ => ∃ i : Int, vs = [.int i] ∧ ∀ H', Same H H' → Q (.bl true) H'
def sp_is_sequence (_ : PySem.W.Frag) : Sp := fun vs H Q _ => ∃ (p : Addr) (b : Bool) (xs : List V), vs = [.ref p] ∧ H p = some (Bx b xs) ∧ ∀ H', Same H H' → Q (.bl true) H'
def sp_check_form (_ : PySem.W.Frag) : Sp := fun vs H Q _ => ∃ (p : Addr) (T : Tab) (m N : Nat), vs = [.ref p] ∧ Tb false false H p T ∧ GoodT T m N ∧ ∀ H', Same H H' → Q .non H'
def sp_check_order (_ : PySem.W.Frag) : Sp := fun vs H Q _ => ∃ (p : Addr) (T : Tab) (m N : Nat), vs = [.ref p] ∧ Tb true true H p T ∧ GoodT T m N ∧ ∀ H', Same H H' → Q .non H'
def sp_tree_of (_ : PySem.W.Frag) : Sp := fun vs H Q _ => ∃ (p : Addr) (T : Tab) (m N : Nat), vs = [.ref p] ∧ Tb true true H p T ∧ GoodT T m N ∧ ∀ q H', H q = none → Same H H' → Trl H' q (tree T m N) → Q (.ref q) H'
def sp_left_of (_ : PySem.W.Frag) : Sp := fun vs H Q _ => ∃ (p t : Addr) (T : Tab) (m N : Nat), vs = [.ref p, .ref t] ∧ Tb true true H p T ∧ Trl H t (tree T m N) ∧ GoodT T m N ∧ ∀ q H', Same H H' → Tb true true H' q (lefts T (tree T m N)) → Q (.ref q) H'
def sp_check_products (_ : PySem.W.Frag) : Sp := fun vs H Q _ => ∃ (p l : Addr) (T : Tab) (m N : Nat), vs = [.ref p, .ref l] ∧ Tb true true H p T ∧ Tb true true H l (lefts T (tree T m N)) ∧ GoodT T m N ∧ ∀ H', Same H H' → Q .non H'
def sp_Monoid_init (z : Zed) (_ : PySem.W.Frag) : Sp := fun vs H Q _ => ∃ (x dx p : Addr) (T : Tab) (m N : Nat), vs = [.ref x, .ref p] ∧ H x = some (.ins z.C dx []) ∧ Tb false false H p T ∧ GoodT T m N ∧ ∀ H' me, H me = none → ExB x H H' → Ob z H' x me T m N → Q .non H'
def sp_Monoid_all_words (z : Zed) (_ : PySem.W.Frag) : Sp := fun vs H Q _ => ∃ (a me : Addr) (T : Tab) (m N : Nat), vs = [.ref a] ∧ Ob z H a me T m N ∧ GoodT T m N ∧ ∀ p H', ExB me H H' → Ob z H' a me T m N → H' p = some (.lst (txV (wds (tree T m N)))) → Q (.ref p) H'
def sp_Monoid_ends (z : Zed) (_ : PySem.W.Frag) : Sp := fun vs H Q _ => ∃ (a me : Addr) (T : Tab) (m N : Nat), vs = [.ref a] ∧ Ob z H a me T m N ∧ GoodT T m N ∧ ∀ p H', ExB me H H' → Ob z H' a me T m N → H' p = some (.lst (rowV (ends T (tree T m N)))) → Q (.ref p) H'
def sp_Monoid_is_least (z : Zed) (_ : PySem.W.Frag) : Sp := fun vs H Q _ => ∃ (a me : Addr) (T : Tab) (m N n l : Nat), vs = [.ref a, vI n, vI l] ∧ Ob z H a me T m N ∧ GoodT T m N ∧ n < N ∧ l < m ∧ ∀ H', Same H H' → Q (.bl (least T m N n l)) H'
def sp_Monoid_is_rule (z : Zed) (_ : PySem.W.Frag) : Sp := fun vs H Q _ => ∃ (a me : Addr) (T : Tab) (m N n l : Nat), vs = [.ref a, vI n, vI l] ∧ Ob z H a me T m N ∧ GoodT T m N ∧ n < N ∧ l < m ∧ ∀ H', ExB me H H' → Ob z H' a me T m N → Q (.bl (rule T m N n l)) H'
def sp_Monoid_rules (z : Zed) (_ : PySem.W.Frag) : Sp := fun vs H Q _ => ∃ (a me : Addr) (T : Tab) (m N : Nat), vs = [.ref a] ∧ Ob z H a me T m N ∧ GoodT T m N ∧ Tabs z.TT H ∧ ∀ p H', Nw H p → ExM me H H' → Tabs z.TT H' → Ob z H' a me T m N → Prs H' p (rules T m N) → Q (.ref p) H'
/-- the source of draws -/
def Src (H : Hp) (p : Addr) : Prop := ∃ a b c : Int, H p = some (.lst [.int a, .int b, .int c]) ∧ 0 ≤ a
theorem Src.same {H H' : Hp} {p : Addr} (s : Src H p) (k : Kq H H') : Src H' p := let ⟨a, b, c, h, r⟩ := s; ⟨a, b, c, k.1 _ _ h, r⟩
def sp__law_source (_ : PySem.W.Frag) : Sp := fun vs H Q _ => ∃ i : Int, vs = [.int i] ∧ ∀ p H', H p = none → Same H H' → Src H' p → Q (.ref p) H'
def sp__law_draw (_ : PySem.W.Frag) : Sp := fun vs H Q _ => ∃ (p : Addr) (n : Int), vs = [.ref p, .int n] ∧ Src H p ∧ 0 < n ∧ n < 1000000 ∧ ∀ (d : Int) (H' : Hp), 0 ≤ d → d < n → Src H' p → ExB p H H' → Q (.int d) H'
/-- the drawn maps -/
structure Mps (rows : Tab) (sz : Nat) : Prop where
  s1 : 1 ≤ sz
  s4 : sz ≤ 4
  r1 : 1 ≤ rows.length
  r6 : rows.length ≤ 6
  maps : ∀ r ∈ rows, IsMap sz r
def sp__law_maps (_ : PySem.W.Frag) : Sp := fun vs H Q _ => ∃ (p : Addr) (a b : Int), vs = [.ref p, .int a, .int b] ∧ Src H p ∧ 1 ≤ a ∧ a ≤ 4 ∧ 1 ≤ b ∧ b ≤ 6 ∧ ∀ (q : Addr) (rows : Tab) (sz : Nat) (H' : Hp), H q = none → q ≠ p → Mps rows sz → Src H' p → Tb false true H' q rows → ExB p H H' → Q (.ref q) H'
def sp__law_mixed (_ : PySem.W.Frag) : Sp := fun vs H Q _ => ∃ (p q : Addr) (rows : Tab) (sz : Nat), vs = [.ref p, .ref q] ∧ Src H p ∧ Tb false true H q rows ∧ q ≠ p ∧ Mps rows sz ∧ ∀ (q' : Addr) (rows' : Tab) (H' : Hp), q' ≠ p → Mps rows' sz → Src H' p → Tb false true H' q' rows' → ExB p H H' → Q (.ref q') H'
def sp__law_table (_ : PySem.W.Frag) : Sp := fun vs H Q _ => ∃ (q : Addr) (rows : Tab) (sz : Nat), vs = [.ref q] ∧ Tb false true H q rows ∧ Mps rows sz ∧ ∀ (t f w tb : Addr) (N : Nat) (H' : Hp), Done rows sz N → Same H H' → H' t = some (.tup [.ref f, .ref w, .ref tb]) → Tb false true H' f (fdT rows sz N) → H' w = some (.lst (txV (wsT rows sz N))) → Tb false false H' tb (tbT rows sz N) → Q (.ref t) H'
def sp__law_due (z : Zed) (_ : PySem.W.Frag) : Sp := fun vs H Q _ => ∃ (w tb : Addr) (T : Tab) (m N : Nat), vs = [.ref w, .ref tb] ∧ GoodT T m N ∧ H w = some (.lst (txV (wds (tree T m N)))) ∧ Tb false false H tb T ∧ Tabs z.TT H ∧ ∀ p H', Nw H p → ExtN H H' → Tabs z.TT H' → Prs H' p (rules T m N) → Q (.ref p) H'
def sp__law_parts (_ : PySem.W.Frag) : Sp := fun vs H Q _ => ∃ w : List Nat, vs = [.str (S w)] ∧ w.length ≤ 100 ∧ ∀ p H', H p = none → Same H H' → H' p = some (.lst (txV (parts w))) → Q (.ref p) H'
def sp__law_by_words (_ : PySem.W.Frag) : Sp := fun vs H Q _ => ∃ (q f w : Addr) (rows : Tab) (sz N most : Nat), vs = [.ref q, .ref f, .ref w, .int (most : Nat)] ∧ Mps rows sz ∧ Done rows sz N ∧ N ≤ 40 ∧ rows.length ^ most ≤ 300 ∧ most ≤ 8 ∧ Tb false true H q rows ∧ Tb false true H f (fdT rows sz N) ∧ H w = some (.lst (txV (wsT rows sz N))) ∧ ∀ p H', H p = none → Same H H' → Prs H' p (byW (tbT rows sz N) rows.length N most) → Q (.ref p) H'
def sp__law_right (z : Zed) (_ : PySem.W.Frag) : Sp := fun vs H Q _ => ∃ (p q : Addr) (rows : Tab) (sz : Nat), vs = [.ref p, .ref q] ∧ Src H p ∧ Tb false true H q rows ∧ Mps rows sz ∧ Tabs z.TT H ∧ ∀ H', ExtN H H' → Tabs z.TT H' → Q (.bl true) H'
def sp_law (z : Zed) (K : PySem.W.Frag) : Sp := fun vs H Q _ => ∃ (a : Addr) (ns : List Int), vs = [.ref a] ∧ SqL K H a (ns.map V.int) ∧ ns.length ≤ 63 ∧ Tabs z.TT H ∧ ∀ H', Q (.bl true) H'
end My
namespace My
open PySem PySem.Spec L2 SX LamX Mon
open PyProof.Rows hiding St
local macro_rules | `(tactic| walk_at "kb") => `(tactic| first | exact kb_str_str | exact kb_str_int | exact kb_str_bool | exact kb_str_list | exact kb_str_tuple | exact kb_int_str | exact kb_int_int | exact kb_int_bool | exact kb_int_list | exact kb_int_tuple | exact kb_bool_str | exact kb_bool_int | exact kb_bool_bool | exact kb_bool_list | exact kb_bool_tuple | exact kb_list_str | exact kb_list_int | exact kb_list_bool | exact kb_list_list | exact kb_list_tuple | exact kb_tuple_str | exact kb_tuple_int | exact kb_tuple_bool | exact kb_tuple_list | exact kb_tuple_tuple | exact kb_NoneType_str | exact kb_NoneType_int | exact kb_NoneType_bool | exact kb_NoneType_list | exact kb_NoneType_tuple)
local macro_rules | `(tactic| walk_at "hp") => `(tactic| first | assumption | exact upd_same | (refine (upd_ne (by first | assumption | (apply Ne.symm; assumption))).trans ?_; walk_at "hp"))
local macro_rules | `(tactic| walk_at "sq") => `(tactic| first | assumption | exact SqL.of (by walk_at "hp"))
local macro_rules | `(tactic| walk_at "sqt") => `(tactic| first | assumption | exact SqT.of (by walk_at "hp"))
local macro_rules | `(tactic| walk_at "ar") => `(tactic| first | omega | (dsimp only; omega) | (unfold CMul; omega) | (unfold CDiv; omega) | (unfold CPow; refine ⟨?_, ?_, ?_⟩ <;> decide) | (simp only [List.length_cons, List.length_nil]; decide))
local macro_rules | `(tactic| walk_at "rd") => `(tactic| first
  | with_reducible refine rd_seq ?_
  | with_reducible refine rd_asg ?_
  | with_reducible refine rd_if ?_
  | with_reducible refine rd_ret ?_
  | with_reducible refine rd_drop ?_
  | with_reducible refine rd_name ?_
  | with_reducible refine rd_sub ?_
  | ((with_reducible refine' rd_var ?e ?_); (case e => exact rfl))
  | with_reducible refine rd_c ?_
  | with_reducible refine rd_op ?_
  | with_reducible refine rd_un ?_
  | with_reducible refine rd_I0 ?_
  | ((with_reducible refine' rd_I ?c ?_); (case c => walk_at "ar"))
  | with_reducible refine rd_U ?_
  | with_reducible refine rd_eqI ?_
  | with_reducible refine rd_neI ?_
  | with_reducible refine rd_eqS ?_
  | with_reducible refine rd_neS ?_
  | with_reducible refine rd_eqB ?_
  | with_reducible refine rd_neB ?_
  | with_reducible refine rd_test ?_
  | with_reducible refine rd_B ?_
  | with_reducible refine rd_and ?_
  | with_reducible refine rd_or ?_
  | with_reducible refine rd_not ?_
  | with_reducible refine rd_andV ?_
  | with_reducible refine rd_orV ?_
  | with_reducible refine rd_notV ?_
  | with_reducible refine rd_ifE ?_
  | with_reducible refine rd_isN ?_
  | with_reducible refine rd_notN ?_
  | with_reducible refine rd_cons ?_
  | with_reducible refine rd_nil ?_
  | with_reducible refine rd_lst ?_
  | with_reducible refine rd_tup ?_
  | with_reducible refine rd_CB ?_
  | with_reducible refine rd_call ?_
  | with_reducible refine rd_sl ?_
  | with_reducible refine rd_part ?_
  | with_reducible refine rd_nopart ?_
  | with_reducible refine rd_par ?_
  | with_reducible refine rd_two ?_
  | with_reducible refine rd_next ?_
  | with_reducible refine rd_retN ?_
  | with_reducible refine rd_bool ?_
  | with_reducible refine rd_int ?_
  | with_reducible refine rd_intI ?_
  | with_reducible refine rd_intB ?_
  | with_reducible refine rd_ltS ?_
  | with_reducible refine rd_leS ?_
  | with_reducible refine rd_gtS ?_
  | with_reducible refine rd_geS ?_
  | with_reducible refine rd_inC ?_
  | with_reducible refine rd_notInC ?_
  | with_reducible refine rd_abs ?_
  | with_reducible refine rd_max2 ?_
  | with_reducible refine rd_min2 ?_
  | with_reducible refine rd_M1 ?_
  | with_reducible refine rd_isStr ?_
  | ((with_reducible refine' rd_len ?b ?_); (case b => (simp only [List.length_cons, List.length_nil]; decide)))
  | ((with_reducible refine' rd_listS ?b ?_); (case b => first | (simp only [List.length_take, List.length_cons, List.length_nil]; omega) | omega))
  | ((with_reducible refine' rd_isi ?ty ?h ?_); (case ty => first | exact ty_str | exact ty_int | exact ty_bl | exact ty_non | exact ty_lst (by walk_at "hp") | exact ty_tup (by walk_at "hp")); (case h => walk_at "kb"))
  | with_reducible refine rd_lc ?_
  | with_reducible refine rd_for ?_
  | with_reducible refine rd_iList ?_
  | with_reducible refine rd_iTup ?_
  | with_reducible refine rd_iRng1 ?_
  | with_reducible refine rd_iRng2 ?_
  | with_reducible refine rd_iRng3 ?_
  | with_reducible refine rd_iStr ?_
  | with_reducible refine rd_qIs ?_
  | with_reducible refine rd_whb ?_
  | ((with_reducible refine' rd_qIl ?sq ?_); (case sq => walk_at "sq"))
  | ((with_reducible refine' rd_qItu ?sq ?_); (case sq => walk_at "sqt"))
  | ((with_reducible refine' rd_qIr1 ?b1 ?b2 ?_); (case b1 => walk_at "ar"); (case b2 => walk_at "ar"))
  | ((with_reducible refine' rd_qIr2 ?b1 ?b2 ?b3 ?b4 ?_); (case b1 => walk_at "ar"); (case b2 => walk_at "ar"); (case b3 => walk_at "ar"); (case b4 => walk_at "ar"))
  | ((with_reducible refine' rd_qIr3 ?b1 ?b2 ?b3 ?b4 ?_); (case b1 => walk_at "ar"); (case b2 => walk_at "ar"); (case b3 => walk_at "ar"); (case b4 => walk_at "ar"))
  | ((with_reducible refine' rd_mulS ?b1 ?b2 ?b3 ?_); (case b1 => walk_at "ar"); (case b2 => walk_at "ar"); (case b3 => walk_at "ar"))
  | ((with_reducible refine' rd_slS_to ?b1 ?b2 ?_); (case b1 => walk_at "ar"); (case b2 => walk_at "ar"))
  | ((with_reducible refine' rd_slS_from ?b1 ?b2 ?_); (case b1 => walk_at "ar"); (case b2 => walk_at "ar"))
  | ((with_reducible refine' rd_slS_mid ?b1 ?b2 ?b3 ?b4 ?_); (case b1 => walk_at "ar"); (case b2 => walk_at "ar"); (case b3 => walk_at "ar"); (case b4 => walk_at "ar"))
  | ((with_reducible refine' rd_slL ?sq ?_); (case sq => walk_at "sq"))
  | with_reducible refine rd_true ?_
  | with_reducible refine rd_false ?_
  | with_reducible refine rd_nt ?_
  | with_reducible refine rd_nf ?_
  | ((with_reducible refine' rd_decT ?h ?_); (case h => omega))
  | ((with_reducible refine' rd_decF ?h ?_); (case h => omega))
  | ((with_reducible refine' rd_ndecT ?h ?_); (case h => omega))
  | ((with_reducible refine' rd_ndecF ?h ?_); (case h => omega))
  | ((with_reducible refine' rd_evT ?h ?_); (case h => first | exact rfl | (simp; done)))
  | ((with_reducible refine' rd_evF ?h ?_); (case h => first | exact rfl | (simp; done)))
  | ((with_reducible refine' rd_ixL ?sq ?a1 ?_); (case sq => walk_at "sq"); (case a1 => first | exact rfl | exact at_of (by omega) (by assumption)))
  | ((with_reducible refine' rd_ixT ?sq ?a1 ?_); (case sq => walk_at "sqt"); (case a1 => first | exact rfl | exact at_of (by omega) (by assumption)))
  | ((with_reducible refine' rd_lenL ?sq ?_); (case sq => walk_at "sq"))
  | ((with_reducible refine' rd_lenT ?sq ?_); (case sq => walk_at "sqt"))
  | ((with_reducible refine' rd_setL ?h ?j ?_); (case h => walk_at "hp"); (case j => exact rfl); (with_reducible refine id ?_))
  | ((with_reducible refine' rd_strlen ?l ?_); (case l => walk_at "ar"))
  | ((with_reducible refine' rd_cat ?l ?_); (case l => walk_at "ar")))
local macro_rules | `(tactic| walk_at "go") => `(tactic| ((try dsimp only); (repeat (walk_at "rd"))))
local macro_rules | `(tactic| walk_at "rd") => `(tactic| first
  | with_reducible refine rd_lstRg ?_
  | with_reducible refine rd_tRg1 ?_
  | with_reducible refine rd_tRg2 ?_
  | with_reducible refine rd_rg1 ?_
  | with_reducible refine rd_rg2 ?_
  | ((with_reducible refine' rd_qRg ?b ?_); (case b => refine ⟨?_, ?_, ?_, ?_⟩ <;> omega))
  | with_reducible refine rd_sortSet ?_
  | with_reducible refine rd_tDGet ?_
  | with_reducible refine rd_sDPut ?_
  | with_reducible refine rd_dnew ?_
  | with_reducible refine rd_iZipS ?_
  | with_reducible refine rd_zipS ?_
  | ((with_reducible refine' rd_inI ?sq ?_); (case sq => walk_at "sq"))
  | ((with_reducible refine' rd_notInI ?sq ?_); (case sq => walk_at "sq"))
  | with_reducible refine rd_chain ?_)

local macro_rules | `(tactic| walk_at "rd") => `(tactic| first
  | with_reducible refine rd_fld ?_
  | with_reducible refine rd_par3 ?_
  | with_reducible refine rd_sFld ?_
  | with_reducible refine rd_meth ?_
  | with_reducible refine rd_make ?_
  | with_reducible refine rd_iEnT ?_
  | with_reducible refine rd_iEnL ?_
  | with_reducible refine rd_iZipSL ?_
  | with_reducible refine rd_dIn ?_
  | with_reducible refine rd_dNotIn ?_
  | with_reducible refine rd_tDGet ?_
  | with_reducible refine rd_thenT ?_
  | with_reducible refine rd_sortLam ?_
  | with_reducible refine rd_tupRg ?_
  | with_reducible refine rd_bm ?_
  | ((with_reducible refine' rd_kTupT ?sq ?_); (case sq => walk_at "sqt"))
  | ((with_reducible refine' rd_kTupL ?sq ?_); (case sq => walk_at "sq"))
  | with_reducible refine rd_sDPut ?_
  | ((with_reducible refine' rd_enT ?sq ?_); (case sq => walk_at "sqt"))
  | ((with_reducible refine' rd_enL ?sq ?_); (case sq => walk_at "sq"))
  | ((with_reducible refine' rd_zipSL ?sq ?_); (case sq => walk_at "sq")))

section
variable {P : Program} {w : World} {K : PySem.W.Frag} {mg : Str → Option Value} {base : Heap}
theorem ok_is_number {f : Addr} {fd : FuncData} (F : Fun K "is_number" "is_number" s_is_number f fd) (T : Txt K mg) : FnOk P w K mg base CX0 1 f fd ["thing"] (sp_is_number K) := by
  refine F.ok sc_is_number (fun vs H Q E h => by repeat (first | (obtain ⟨rfl, _⟩ := h; rfl) | obtain ⟨_, h⟩ := h)) (fun cdv A outer s H vs Q E hr h => ?_)
  refine ⟨_, (pss_one (ps_ret (pe_and (pe_callB call_isi rfl T.n_isinstance boot_isinstance (pa_cons (pv 0) (pa_cons (pe_bltn (v := .ty "int") rfl T.n_int boot_int rfl) pa_nil))) (pe_one (pe_not (pe_callB call_isi rfl T.n_isinstance boot_isinstance (pa_cons (pv 0) (pa_cons (pe_bltn (v := .ty "bool") rfl T.n_bool boot_bool rfl) pa_nil)))))))), ?_⟩
  try dsimp only [cxOf, Cx.nox, Cx.wish]
  obtain ⟨i, rfl, k⟩ := h
  walk_at "go"
  exact k _ (Same.refl _)
theorem ok_is_sequence {f : Addr} {fd : FuncData} (F : Fun K "is_sequence" "is_sequence" s_is_sequence f fd) (T : Txt K mg) : FnOk P w K mg base CX0 1 f fd ["thing"] (sp_is_sequence K) := by
  refine F.ok sc_is_sequence (fun vs H Q E h => by repeat (first | (obtain ⟨rfl, _⟩ := h; rfl) | obtain ⟨_, h⟩ := h)) (fun cdv A outer s H vs Q E hr h => ?_)
  refine ⟨_, (pss_one (ps_ret (pe_callB call_isiT rfl T.n_isinstance boot_isinstance (pa_cons (pv 0) (pa_cons (pe_tup (pa_cons (pe_bltn (v := .ty "list") rfl T.n_list boot_list rfl) (pa_cons (pe_bltn (v := .ty "tuple") rfl T.n_tuple boot_tuple rfl) pa_nil))) pa_nil))))), ?_⟩
  try dsimp only [cxOf, Cx.nox, Cx.wish]
  obtain ⟨p, b, xs, rfl, hp, k⟩ := h
  walk_at "go"
  intro p1 n1
  walk_at "go"
  cases b with
  | true => exact rd_isiLT upd_same (ty_tup (by rw [upd_ne (ne_of_none hp n1)]; exact hp)) kb_tuple_list kb_tuple_tuple (k _ (Same.new n1))
  | false => exact rd_isiLT upd_same (ty_lst (by rw [upd_ne (ne_of_none hp n1)]; exact hp)) kb_list_list kb_list_tuple (k _ (Same.new n1))
theorem trR_succ_len (T : Tab) (n j : Nat) (a : List (Nat × Nat)) : (trR T n (j + 1) a).length = if at2 T n j = (trR T n j a).length then (trR T n j a).length + 1 else (trR T n j a).length := by
  show (if at2 T n j = (trR T n j a).length then trR T n j a ++ [(n, j)] else trR T n j a).length = _
  split
  · simp
  · rfl
theorem row_at {T : Tab} {m N n j : Nat} (G : GoodT T m N) (hn : n < N) (hj : j < m) : (rowV (T.getD n []))[j]? = some (vI (at2 T n j)) := rowV_get (by rw [G.g.row n hn]; exact hj)
theorem ok_check_order {f : Addr} {fd : FuncData} (F : Fun K "check_order" "check_order" s_check_order f fd) (T : Txt K mg) : FnOk P w K mg base CX0 1 f fd ["right"] (sp_check_order K) := by
  refine F.ok sc_check_order (fun vs H Q E h => by repeat (first | (obtain ⟨rfl, _⟩ := h; rfl) | obtain ⟨_, h⟩ := h)) (fun cdv A outer s H vs Q E hr h => ?_)
  refine ⟨_, (pss_cons (ps_set (i := 1) sc_check_order.nd rfl (Or.inl rfl) pe_int)
  (pss_one (ps_for PassesOwn.never rfl (pi_enT rfl T.n_enumerate (pa_cons (pv 0) pa_nil)) (pg_two (i := 2) (j := 3) K rfl rfl sc_check_order.nd rfl (Or.inl rfl) rfl (Or.inl rfl))
  (pss_cons (ps_if (pt_cmpR op_ge (pv 2) (pv 1) (nomark _)) (pss_one ps_never) pss_nil)
  (pss_one (ps_for PassesOwn.never rfl (pi_tup (pv 3)) (pg_name (i := 4) sc_check_order.nd rfl (Or.inl rfl))
  (pss_cons (ps_if (pt_cmpR op_gt (pv 4) (pv 1) (nomark _)) (pss_one ps_never) pss_nil)
  (pss_one (ps_set (i := 1) sc_check_order.nd rfl (Or.inl rfl) (pe_op op_add (pv 1) (pe_callTy cq_int rfl T.n_int boot_int (pa_cons (pe_cmpR op_eq (pv 4) (pv 1) (nomark _)) pa_nil)))))))))))), ?_⟩
  try dsimp only [cxOf, Cx.nox, Cx.wish]
  obtain ⟨p, T, m, N, rfl, ⟨as, hp, hl, hr⟩, G, k⟩ := h
  have hN : as.length = N := by rw [hl, G.len]
  walk_at "go"
  refine forP (n := N) (by have := walk_enT (K := K) (a := p) (ys := refs as); rw [refs_len, hN] at this; exact this) (fun n σ' H' => ∃ v2 v3 v4, σ' = [some (.ref p), some (vI (trT T m n).length), v2, v3, v4] ∧ Same H H') ⟨_, _, _, rfl, Same.refl _⟩ (fun i σ' H' _ ⟨_, _, _, _, X1⟩ => Same.seqT X1 (SqT.of hp)) ?_ ?_
  · rintro n σ' H1 T1 x y hn ⟨v2, v3, v4, rfl, X1⟩ n1 hx hy
    obtain ⟨a, ha, rfl⟩ := refs_get hy
    cases hx
    have hrow := row_of hl hr ha
    obtain ⟨o1, o2⟩ := G.g.ord n hn
    walk_at "go"
    have hrow1 : (L2.upd H1 T1 (.tup [.int (n : Nat), .ref a])) a = some (.tup (rowV (T.getD n []))) := by
      have h2 := X1 _ _ hrow
      rw [upd_ne (ne_of_none h2 n1)]
      exact h2
    refine rd_qItu (SqT.of hrow1) ?_
    refine forT (K := K) (rowV (T.getD n [])) id (fun j σ' H' => ∃ v4, σ' = [some (.ref p), some (vI (trR T n j (trT T m n)).length), some (.int (n : Nat)), some (.ref a), v4] ∧ Same H H') ⟨_, rfl, X1.trans (Same.new n1)⟩ (fun i σ' H' _ ⟨_, _, X2⟩ => by rw [List.map_id]; exact Same.seqT X2 (SqT.of hrow)) ?_ ?_
    · rintro j y σ' H2 hy ⟨v4, rfl, X2⟩
      have hj : j < m := by
        have := (List.getElem?_eq_some_iff.mp hy).1
        rw [rowV_len, G.g.row n hn] at this
        exact this
      rw [row_at G hn hj] at hy
      cases hy
      have o3 := o2 j hj
      dsimp only [id]
      walk_at "go"
      refine ⟨some (.int (at2 T n j : Nat)), ?_, X2⟩
      have e : ((trR T n j (trT T m n)).length : Int) + (if decide (((at2 T n j : Nat) : Int) = ((trR T n j (trT T m n)).length : Int)) = true then 1 else 0) = ((trR T n (j + 1) (trT T m n)).length : Nat) := by
        rw [trR_succ_len]
        by_cases h1 : at2 T n j = (trR T n j (trT T m n)).length
        · rw [if_pos h1, h1]; simp
        · have h2 : ¬ (((at2 T n j : Nat) : Int) = ((trR T n j (trT T m n)).length : Int)) := by omega
          rw [if_neg h1]; simp [h2]
      dsimp only [List.set]
      rw [e]
    · rintro σ' H2 ⟨v4, rfl, X2⟩
      rw [rowV_len, G.g.row n hn]
      exact ⟨_, _, _, rfl, X2⟩
  · rintro σ' H1 ⟨v2, v3, v4, rfl, X1⟩
    exact k _ X1
theorem trl_snoc {H : Hp} {D p1 : Addr} {tr : List (Nat × Nat)} {n j : Nat} (h : Trl H D tr) (n1 : H p1 = none) : ∃ as : List Addr, H D = some (.lst (.non :: refs as)) ∧ Trl (L2.upd (L2.upd H p1 (.tup [vI n, vI j])) D (.lst ((.non :: refs as) ++ [.ref p1]))) D (tr ++ [(n, j)]) := by
  obtain ⟨as, h1, h2, h3⟩ := h
  refine ⟨as, h1, as ++ [p1], ?_, ?_, ?_⟩
  · rw [upd_same]; unfold refs; rw [List.map_append]; rfl
  · simp; omega
  · intro i a q e1 e2
    have hD : p1 ≠ D := (ne_of_none h1 n1).symm
    by_cases hi : i < as.length
    · rw [List.getElem?_append_left hi] at e1
      rw [List.getElem?_append_left (by omega)] at e2
      have h4 := h3 i a q e1 e2
      rw [upd_ne (ne_of h4 h1 (fun z => nomatch z)), upd_ne (ne_of_none h4 n1)]
      exact h4
    · have hi2 : i = as.length := by
        have := (List.getElem?_eq_some_iff.mp e1).1
        simp at this; omega
      subst hi2
      rw [List.getElem?_append_right (Nat.le_refl _), Nat.sub_self] at e1
      cases e1
      rw [List.getElem?_append_right (by omega), show as.length + 1 - tr.length = 0 by omega] at e2
      cases e2
      rw [upd_ne hD, upd_same]
theorem ok_tree_of {f : Addr} {fd : FuncData} (F : Fun K "tree_of" "tree_of" s_tree_of f fd) (T : Txt K mg) : FnOk P w K mg base CX0 1 f fd ["right"] (sp_tree_of K) := by
  refine F.ok sc_tree_of (fun vs H Q E h => by repeat (first | (obtain ⟨rfl, _⟩ := h; rfl) | obtain ⟨_, h⟩ := h)) (fun cdv A outer s H vs Q E hr h => ?_)
  refine ⟨_, (pss_cons (ps_set (i := 1) sc_tree_of.nd rfl (Or.inl rfl) (pe_lst (pa_cons pe_non pa_nil)))
  (pss_cons (ps_for PassesOwn.never rfl (pi_enT rfl T.n_enumerate (pa_cons (pv 0) pa_nil)) (pg_two (i := 2) (j := 3) K rfl rfl sc_tree_of.nd rfl (Or.inl rfl) rfl (Or.inl rfl))
  (pss_one (ps_for PassesOwn.never rfl (pi_enT rfl T.n_enumerate (pa_cons (pv 3) pa_nil)) (pg_two (i := 4) (j := 5) K rfl rfl sc_tree_of.nd rfl (Or.inl rfl) rfl (Or.inl rfl))
  (pss_one (ps_if (pt_cmpR op_eq (pv 5) (pe_callB cq_len rfl T.n_len boot_len (pa_cons (pv 1) pa_nil)) (nomark _)) (pss_one (ps_expr (pe_bm PySem.F.plainAttrs_list PySem.F.slot_list_append PySem.F.type_list_append mt_append (pv 1) (pa_cons (pe_tup (pa_cons (pv 2) (pa_cons (pv 4) pa_nil))) pa_nil)))) pss_nil)))))
  (pss_one (ps_ret (pv 1))))), ?_⟩
  try dsimp only [cxOf, Cx.nox, Cx.wish]
  obtain ⟨p, T, m, N, rfl, ⟨as, hp, hl, hr⟩, G, k⟩ := h
  have hN : as.length = N := by rw [hl, G.len]
  walk_at "go"
  intro D nD
  walk_at "go"
  have hp0 : (L2.upd H D (.lst [V.non])) p = some (.tup (refs as)) := by rw [upd_ne (ne_of_none hp nD)]; exact hp
  refine rd_enT (SqT.of hp0) ?_
  refine forP (n := N) (by have := walk_enT (K := K) (a := p) (ys := refs as); rw [refs_len, hN] at this; exact this) (fun n σ' H' => ∃ v2 v3 v4 v5, σ' = [some (.ref p), some (.ref D), v2, v3, v4, v5] ∧ Same H H' ∧ Trl H' D (trT T m n)) ⟨_, _, _, _, rfl, Same.new nD, [], upd_same, rfl, fun i a q e => by simp at e⟩ (fun i σ' H' _ ⟨_, _, _, _, _, X1, _⟩ => Same.seqT X1 (SqT.of hp)) ?_ ?_
  · rintro n σ' H1 T1 x y hn ⟨v2, v3, v4, v5, rfl, X1, R1⟩ n1 hx hy
    obtain ⟨a, ha, rfl⟩ := refs_get hy
    cases hx
    have hrow := row_of hl hr ha
    walk_at "go"
    have X1' := X1.trans (Same.new n1 (o := .tup [.int (n : Nat), .ref a]))
    refine rd_enT (SqT.of (X1' _ _ hrow)) ?_
    refine forP (n := m) (by have := walk_enT (K := K) (a := a) (ys := rowV (T.getD n [])); rw [rowV_len, G.g.row n hn] at this; exact this) (fun j σ' H' => ∃ v4 v5, σ' = [some (.ref p), some (.ref D), some (.int (n : Nat)), some (.ref a), v4, v5] ∧ Same H H' ∧ Trl H' D (trR T n j (trT T m n))) ⟨_, _, rfl, X1', R1.kq (Kq.of (Same.new n1))⟩ (fun i σ' H' _ ⟨_, _, _, X2, _⟩ => Same.seqT X2 (SqT.of hrow)) ?_ ?_
    · rintro j σ' H2 T2 x y hj ⟨v4, v5, rfl, X2, R2⟩ n2 hx hy
      cases hx
      rw [row_at G hn hj] at hy
      cases hy
      have X3 := X2.trans (Same.new n2 (o := .tup [.int (j : Nat), vI (at2 T n j)]))
      have R3 : Trl (L2.upd H2 T2 (.tup [.int (j : Nat), vI (at2 T n j)])) D (trR T n j (trT T m n)) := R2.kq (Kq.of (Same.new n2))
      obtain ⟨bs, e1, e2, e3⟩ := id R3
      walk_at "go"
      have elen : ((.non :: refs bs : List V)).length = (trR T n j (trT T m n)).length := by rw [List.length_cons, refs_len]; exact e2
      have hlt : (trR T n j (trT T m n)).length ≤ 2000 := Nat.le_trans (trR_le (B := N) (trT_le G.g.pos n fun i l hi hl => G.g.lt i l (by omega) hl) j fun i hi => G.g.lt n i hn (by omega)) G.le
      rw [elen]
      refine rd_dec (fun hyes => ?_) (fun hno => ?_)
      · have hy2 : at2 T n j = (trR T n j (trT T m n)).length := by omega
        walk_at "go"
        refine ⟨tyL e1, ?_⟩
        walk_at "go"
        intro p1 np1
        obtain ⟨as2, f1, f2⟩ := trl_snoc (n := n) (j := j) R3 np1
        have e4 : (L2.upd (L2.upd H2 T2 (.tup [.int (j : Nat), vI (at2 T n j)])) p1 (.tup [vI n, vI j])) D = some (.lst (.non :: refs as2)) := by rw [upd_ne (ne_of_none f1 np1)]; exact f1
        walk_at "go"
        refine rd_app e4 (by have h9 := congrArg (fun o => match o with | some (HO.lst xs) => xs.length | _ => 0) (e1.symm.trans f1); dsimp only at h9; omega) ?_
        walk_at "go"
        refine ⟨_, _, rfl, ?_, ?_⟩
        · exact Same.mut (X3.trans (Same.new np1)) nD
        · have e5 : trR T n (j + 1) (trT T m n) = trR T n j (trT T m n) ++ [(n, j)] := if_pos hy2
          rw [e5]
          exact f2
      · have hy2 : ¬ at2 T n j = (trR T n j (trT T m n)).length := by omega
        walk_at "go"
        refine ⟨_, _, rfl, X3, ?_⟩
        have e5 : trR T n (j + 1) (trT T m n) = trR T n j (trT T m n) := if_neg hy2
        rw [e5]
        exact R3
    · rintro σ' H2 ⟨v4, v5, rfl, X2, R2⟩
      exact ⟨_, _, _, _, rfl, X2, R2⟩
  · rintro σ' H1 ⟨v2, v3, v4, v5, rfl, X1, R1⟩
    walk_at "go"
    exact k D _ nD X1 R1
theorem lefts_len {T : Tab} {m N : Nat} (G : GoodT T m N) : (lefts T (tree T m N)).length = N := G.g.llen
theorem ok_left_of {f : Addr} {fd : FuncData} (F : Fun K "left_of" "left_of" s_left_of f fd) (T : Txt K mg) : FnOk P w K mg base CX0 1 f fd ["right", "tree"] (sp_left_of K) := by
  refine F.ok sc_left_of (fun vs H Q E h => by repeat (first | (obtain ⟨rfl, _⟩ := h; rfl) | obtain ⟨_, h⟩ := h)) (fun cdv A outer s H vs Q E hr h => ?_)
  refine ⟨_, (pss_cons (ps_set (i := 2) sc_left_of.nd rfl (Or.inl rfl) (pe_lst (pa_cons (pe_tupleOf rfl T.n_tuple (pe_ix ix_tup (pv 0) pe_int (fun _ _ => rfl))) pa_nil)))
  (pss_cons (ps_for PassesOwn.never rfl (pi_list (pe_slice sl_list (pv 1) (po_some pe_int) po_none)) (pg_two (i := 3) (j := 4) K rfl rfl sc_left_of.nd rfl (Or.inl rfl) rfl (Or.inr rfl))
  (pss_one (ps_expr (pe_bm PySem.F.plainAttrs_list PySem.F.slot_list_append PySem.F.type_list_append mt_append (pv 2) (pa_cons (pe_tupleOf rfl T.n_tuple (pe_lc (own := [("number", 5)]) rfl sc_left_of.nd (pi_tup (pe_ix ix_list (pv 2) (pv 3) (fun _ _ => rfl))) (blkOk_by (N := N_left_of) (sc := defScope s_left_of) (by decide +kernel)) (fun _ _ _ _ _ => (pg_name (i := 5) sc_left_of.nd rfl (Or.inl rfl))) (fun _ _ _ _ _ => pts_nil) (fun _ _ _ _ _ => (pe_ix (ix_tupK K rfl) (pe_ix (ix_tupK K rfl) (pv 0) (pv 5) (fun _ _ => rfl)) (pv 4) (fun _ _ => rfl))))) pa_nil)))))
  (pss_one (ps_ret (pe_tupleOf rfl T.n_tuple (pv 2)))))), ?_⟩
  try dsimp only [cxOf, Cx.nox, Cx.wish]
  obtain ⟨p, t, T, m, N, rfl, ⟨as, hp, hl, hr⟩, ⟨ts, ht, htl, htr⟩, G, k⟩ := h
  have hN : as.length = N := by rw [hl, G.len]
  have hpos := G.g.pos
  have htl2 : (tree T m N).length = N := G.g.len
  obtain ⟨a0, ha0⟩ : ∃ a0, as[0]? = some a0 := ⟨as[0], List.getElem?_eq_getElem (by omega)⟩
  have hr0 := row_of hl hr ha0
  walk_at "go"
  refine rd_ixT (SqT.of hp) (atI_nat (j := 0) (getElem?_refs ha0)) ?_
  refine rd_kTupT (SqT.of hr0) ?_
  walk_at "go"
  intro D nD
  walk_at "go"
  refine rd_slL (SqL.of (by rw [upd_ne (ne_of_none ht nD)]; exact ht)) fun p2 np2 => ?_
  rw [cutV_from1]
  have S0 : Same H (L2.upd (L2.upd H D (.lst [V.ref a0])) p2 (.lst (refs ts))) := (Same.new nD).trans (Same.new np2)
  have hDp : D ≠ p2 := ne_of_none (o := .lst [V.ref a0]) upd_same np2
  have hLr : ∀ k, k < N → (Lf T m N k).length = m := G.g.Lf_len
  refine rd_qIl (SqL.of upd_same) ?_
  refine forLP (K := K) (ls := refs ts) (fun i σ' H' => ∃ fs v3 v4, σ' = [some (.ref p), some (.ref t), some (.ref D), v3, v4, none] ∧ ExB D (L2.upd (L2.upd H D (.lst [V.ref a0])) p2 (.lst (refs ts))) H' ∧ H' D = some (.lst (refs fs)) ∧ fs.length = ((lefts T (tree T m N)).take (i + 1)).length ∧ ∀ (j : Nat) (a : Addr) (r : List Nat), fs[j]? = some a → ((lefts T (tree T m N)).take (i + 1))[j]? = some r → H' a = some (Bx true (rowV r)))
    ⟨[a0], _, _, rfl, ExB.refl _ _, by rw [upd_ne hDp, upd_same]; rfl, by rw [List.length_take, lefts_len G]; simp; omega, fun j a r e1 e2 => ?_⟩ (fun i σ' H' _ ⟨_, _, _, _, X1, _⟩ => SqL.of (X1 _ _ hDp.symm upd_same)) ?_ ?_
  · have hj : j = 0 := by
      have := (List.getElem?_eq_some_iff.mp e1).1
      simp at this; omega
    subst hj
    cases e1
    have e3 : r = T.getD 0 [] := by
      rw [List.getElem?_take_of_lt (by omega)] at e2
      have := G.g.Lf0
      unfold Lf at this
      rw [List.getD_eq_getElem?_getD, e2] at this
      exact this
    rw [e3]
    exact S0 _ _ hr0
  · rintro i v σ' H1 hv ⟨fs, v3, v4, rfl, X1, hD, hfl, hfr⟩
    obtain ⟨ta, hta, rfl⟩ := refs_get hv
    have hi : i + 1 < N := by have := (List.getElem?_eq_some_iff.mp hta).1; omega
    have hq := htr i ta _ hta (get_getD (0, 0) (by rw [htl2]; exact hi))
    have X0 : Same H H1 := ExB.same S0 nD X1
    have hf := G.g.fst (k := i + 1) (by omega) hi
    refine ⟨ta, _, _, rfl, SqT.of (X0 _ _ hq), ?_⟩
    walk_at "go"
    refine ⟨tyL hD, ?_⟩
    have hfl2 : fs.length = i + 1 := by rw [hfl, List.length_take, lefts_len G]; omega
    obtain ⟨b, hb⟩ : ∃ b, fs[P1 T m N (i + 1)]? = some b := ⟨_, List.getElem?_eq_getElem (by omega)⟩
    have hrb : H1 b = some (.tup (rowV (Lf T m N (P1 T m N (i + 1))))) := hfr _ b _ hb (by
      rw [List.getElem?_take_of_lt hf.1]
      exact get_getD [] (by rw [lefts_len G]; exact hf.2.2.2))
    walk_at "go"
    refine rd_ixL (SqL.of hD) (at_vI (getElem?_refs hb)) ?_
    refine rd_qItu (SqT.of hrb) ?_
    refine lcT (K := K) (Lf T m N (P1 T m N (i + 1))) vI (SqT.of hrb) (fun _ => true) (fun y => vI (at2 T y (P2 T m N (i + 1)))) (by rw [hLr _ hf.2.2.2]; have := G.m6; omega) (fun _ => rfl) (fun y hy => pt_yes) ?_ ?_
    · intro y hy _ H2 s2 Q2 q2
      have hyN := G.g.Lf_lt hf.2.2.2 y hy
      obtain ⟨ay, hay⟩ : ∃ a, as[y]? = some a := ⟨_, List.getElem?_eq_getElem (by omega)⟩
      have hry := row_of hl hr hay
      have X2 : Same H H2 := X0.trans s2
      walk_at "go"
      refine rd_ixT (SqT.of (X2 _ _ hp)) (at_vI (getElem?_refs hay)) ?_
      walk_at "go"
      refine rd_ixT (SqT.of (X2 _ _ hry)) (at_vI (row_at G hyN hf.2.1)) ?_
      exact q2 _ (Same.refl _)
    · intro D2 H2 nD2 s2 hD2
      rw [filter_yes] at hD2
      walk_at "go"
      intro r nr
      have hd2 : H2 D = some (.lst (refs fs)) := s2 _ _ hD
      have hDr : r ≠ D := (ne_of_none hd2 nr).symm
      walk_at "go"
      refine rd_app (by rw [upd_ne hDr.symm]; exact hd2) (by rw [refs_len, hfl2]; have := G.le; omega) ?_
      walk_at "go"
      have hrow : (Lf T m N (P1 T m N (i + 1))).map (fun y => vI (at2 T y (P2 T m N (i + 1)))) = rowV (Lf T m N (i + 1)) := by
        rw [G.g.Lfk (by omega) hi]
        unfold rowV
        rw [List.map_map]
        rfl
      have hnew := tb_snoc (b2 := true) (H := H1) (H' := L2.upd (L2.upd H2 r (.tup (rowV (Lf T m N (i + 1))))) D (.lst (refs fs ++ [V.ref r]))) (D := D) (q := r) (r := Lf T m N (i + 1)) hfl hfr (fun a ha h0 => ?_) (by rw [upd_ne hDr, upd_same]; rfl)
      · have etk : (lefts T (tree T m N)).take (i + 1 + 1) = (lefts T (tree T m N)).take (i + 1) ++ [Lf T m N (i + 1)] := by
          rw [List.take_succ, get_getD [] (by rw [lefts_len G]; exact hi)]
          rfl
        rw [hrow]
        refine ⟨fs ++ [r], _, _, rfl, ?_, ?_, ?_, ?_⟩
        · exact fun b o nb e => by
            rw [upd_ne nb, upd_ne (ne_of_none (s2 _ _ (X1 b o nb e)) nr)]
            exact s2 _ _ (X1 b o nb e)
        · rw [upd_same]; unfold refs; rw [List.map_append]; rfl
        · rw [etk]; exact hnew.1
        · rw [etk]; exact hnew.2
      · cases e : H1 a with
        | none => exact absurd e h0
        | some o =>
          obtain ⟨jj, hjj⟩ := List.mem_iff_getElem?.mp ha
          have h9 := hfr jj a _ hjj (get_getD [] (by rw [← hfl]; exact (List.getElem?_eq_some_iff.mp hjj).1))
          have hne : a ≠ D := ne_of h9 hD (fun z => nomatch z)
          have h10 := s2 _ _ e
          rw [upd_ne hne, upd_ne (ne_of_none h10 nr)]
          exact h10
  · rintro σ' H1 ⟨fs, v3, v4, rfl, X1, hD, hfl, hfr⟩
    have hts : (refs ts).length + 1 = N := by rw [refs_len]; omega
    have etk : (lefts T (tree T m N)).take ((refs ts).length + 1) = lefts T (tree T m N) := List.take_of_length_le (by rw [lefts_len G]; omega)
    rw [etk] at hfl hfr
    walk_at "go"
    intro r nr
    walk_at "go"
    refine k r _ ((ExB.same S0 nD X1).trans (Same.new nr)) ⟨fs, upd_same, hfl, fun j a s e1 e2 => ?_⟩
    have h9 := hfr j a s e1 e2
    rw [upd_ne (ne_of_none h9 nr)]
    exact h9
theorem ok_check_products {f : Addr} {fd : FuncData} (F : Fun K "check_products" "check_products" s_check_products f fd) (T : Txt K mg) : FnOk P w K mg base CX0 1 f fd ["right", "left"] (sp_check_products K) := by
  refine F.ok sc_check_products (fun vs H Q E h => by repeat (first | (obtain ⟨rfl, _⟩ := h; rfl) | obtain ⟨_, h⟩ := h)) (fun cdv A outer s H vs Q E hr h => ?_)
  refine ⟨_, (pss_one (ps_for PassesOwn.never rfl (pi_enT rfl T.n_enumerate (pa_cons (pv 0) pa_nil)) (pg_two (i := 2) (j := 3) K rfl rfl sc_check_products.nd rfl (Or.inl rfl) rfl (Or.inl rfl))
  (pss_one (ps_for PassesOwn.never rfl (pi_enT rfl T.n_enumerate (pa_cons (pv 3) pa_nil)) (pg_two (i := 4) (j := 5) K rfl rfl sc_check_products.nd rfl (Or.inr rfl) rfl (Or.inl rfl))
  (pss_one (ps_if (pt_cmpR (op_neD hr.units) (pe_ix ix_tup (pv 1) (pv 5) (fun _ _ => rfl)) (pe_tupleOf rfl T.n_tuple (pe_lc (own := [("one", 6)]) rfl sc_check_products.nd (pi_tup (pe_ix ix_tup (pv 1) (pv 2) (fun _ _ => rfl))) (blkOk_by (N := N_check_products) (sc := defScope s_check_products) (by decide +kernel)) (fun _ _ _ _ _ => (pg_name (i := 6) sc_check_products.nd rfl (Or.inl rfl))) (fun _ _ _ _ _ => pts_nil) (fun _ _ _ _ _ => (pe_ix (ix_tupK K rfl) (pe_ix (ix_tupK K rfl) (pv 0) (pv 6) (fun _ _ => rfl)) (pv 4) (fun _ _ => rfl))))) (nomark _)) (pss_one ps_never) pss_nil)))))), ?_⟩
  try dsimp only [cxOf, Cx.nox, Cx.wish]
  obtain ⟨p, l, T, m, N, rfl, ⟨as, hp, hl, hr⟩, ⟨ls, hL, hll, hlr⟩, G, k⟩ := h
  have hN : as.length = N := by rw [hl, G.len]
  have hlN : ls.length = N := by rw [hll, lefts_len G]
  walk_at "go"
  refine forP (n := N) (by have := walk_enT (K := K) (a := p) (ys := refs as); rw [refs_len, hN] at this; exact this) (fun n σ' H' => ∃ v2 v3 v4 v5, σ' = [some (.ref p), some (.ref l), v2, v3, v4, v5, none] ∧ Same H H') ⟨_, _, _, _, rfl, Same.refl _⟩ (fun i σ' H' _ ⟨_, _, _, _, _, X1⟩ => Same.seqT X1 (SqT.of hp)) ?_ ?_
  · rintro n σ' H1 T1 x y hn ⟨v2, v3, v4, v5, rfl, X1⟩ n1 hx hy
    obtain ⟨a, ha, rfl⟩ := refs_get hy
    cases hx
    have hrow := row_of hl hr ha
    have X1' := X1.trans (Same.new n1 (o := .tup [.int (n : Nat), .ref a]))
    walk_at "go"
    refine rd_enT (SqT.of (X1' _ _ hrow)) ?_
    refine forP (n := m) (by have := walk_enT (K := K) (a := a) (ys := rowV (T.getD n [])); rw [rowV_len, G.g.row n hn] at this; exact this) (fun j σ' H' => ∃ v4 v5, σ' = [some (.ref p), some (.ref l), some (.int (n : Nat)), some (.ref a), v4, v5, none] ∧ Same H H') ⟨_, _, rfl, X1'⟩ (fun i σ' H' _ ⟨_, _, _, X2⟩ => Same.seqT X2 (SqT.of hrow)) ?_ ?_
    · rintro j σ' H2 T2 x y hj ⟨v4, v5, rfl, X2⟩ n2 hx hy
      cases hx
      rw [row_at G hn hj] at hy
      cases hy
      have X3 := X2.trans (Same.new n2 (o := .tup [.int (j : Nat), vI (at2 T n j)]))
      have hv := G.g.lt n j hn hj
      obtain ⟨b, hb⟩ : ∃ b, ls[at2 T n j]? = some b := ⟨_, List.getElem?_eq_getElem (by omega)⟩
      have hrb : H b = some (.tup (rowV (Lf T m N (at2 T n j)))) := row_of hll hlr hb
      obtain ⟨c, hc⟩ : ∃ c, ls[n]? = some c := ⟨_, List.getElem?_eq_getElem (by omega)⟩
      have hrc : H c = some (.tup (rowV (Lf T m N n))) := row_of hll hlr hc
      walk_at "go"
      refine rd_ixT (SqT.of (X3 _ _ hL)) (at_vI (getElem?_refs hb)) ?_
      walk_at "go"
      refine rd_ixT (SqT.of (X3 _ _ hL)) (at_vI (getElem?_refs hc)) ?_
      refine rd_qItu (SqT.of (X3 _ _ hrc)) ?_
      refine lcT (K := K) (Lf T m N n) vI (SqT.of (X3 _ _ hrc)) (fun _ => true) (fun y => vI (at2 T y j)) (by rw [G.g.Lf_len n hn]; have := G.m6; omega) (fun _ => rfl) (fun y hy => pt_yes) ?_ ?_
      · intro y hy _ H4 s4 Q4 q4
        have hyN := G.g.Lf_lt hn y hy
        obtain ⟨ay, hay⟩ : ∃ a, as[y]? = some a := ⟨_, List.getElem?_eq_getElem (by omega)⟩
        have hry := row_of hl hr hay
        have X4 : Same H H4 := X3.trans s4
        walk_at "go"
        refine rd_ixT (SqT.of (X4 _ _ hp)) (at_vI (getElem?_refs hay)) ?_
        walk_at "go"
        refine rd_ixT (SqT.of (X4 _ _ hry)) (at_vI (row_at G hyN hj)) ?_
        exact q4 _ (Same.refl _)
      · intro D2 H4 nD2 s4 hD2
        rw [filter_yes] at hD2
        walk_at "go"
        intro r nr
        have hrow2 : (Lf T m N n).map (fun y => vI (at2 T y j)) = rowV (Lf T m N (at2 T n j)) := by
          rw [G.p n j hn hj]
          unfold rowV
          rw [List.map_map]
          rfl
        rw [hrow2, rowV_int]
        have X5 := (X3.trans s4).trans (Same.new nr (o := .tup (rowV (Lf T m N (at2 T n j)))))
        rw [rowV_int] at X5
        have h11 : _ = some (HO.tup (rowV (Lf T m N (at2 T n j)))) := X5 _ _ hrb
        rw [rowV_int] at h11
        walk_at "go"
        refine rd_neTI (SqT.of h11) (SqT.of upd_same) ?_
        walk_at "go"
        exact ⟨_, _, rfl, X5⟩
    · rintro σ' H2 ⟨v4, v5, rfl, X2⟩
      exact ⟨_, _, _, _, rfl, X2⟩
  · rintro σ' H1 ⟨v2, v3, v4, v5, rfl, X1⟩
    exact k _ X1
theorem ok_check_form {f : Addr} {fd : FuncData} (F : Fun K "check_form" "check_form" s_check_form f fd) (T : Txt K mg) (C_is_sequence : Cal P w K mg base 1 "is_sequence" (sp_is_sequence K)) (C_is_number : Cal P w K mg base 1 "is_number" (sp_is_number K)) : FnOk P w K mg base CX0 2 f fd ["right"] (sp_check_form K) := by
  refine F.ok sc_check_form (fun vs H Q E h => by repeat (first | (obtain ⟨rfl, _⟩ := h; rfl) | obtain ⟨_, h⟩ := h)) (fun cdv A outer s H vs Q E hr h => ?_)
  refine ⟨_, (pss_cons (ps_if (PW.pt (pw_or (pt_not (pt_val (pe_c C_is_sequence hr (by decide) rfl (pa_cons (pv 0) pa_nil)))) (pw_or1 (pt_not (pt_chain op_le op_le pe_int (pe_callB cq_len rfl T.n_len boot_len (pa_cons (pv 0) pa_nil)) (C8.pe_gc rfl T.c_MOST_ELEMENTS)))))) (pss_one ps_never) pss_nil)
  (pss_one (ps_for PassesOwn.never rfl (pi_enum rfl T.n_enumerate (pa_cons (pv 0) pa_nil)) (pg_two (i := 1) (j := 2) K rfl rfl sc_check_form.nd rfl (Or.inl rfl) rfl (Or.inl rfl))
  (pss_cons (ps_if (PW.pt (pw_or (pt_not (pt_val (pe_c C_is_sequence hr (by decide) rfl (pa_cons (pv 2) pa_nil)))) (pw_or (pt_not (pt_chain op_le op_le pe_int (pe_callB cq_len rfl T.n_len boot_len (pa_cons (pv 2) pa_nil)) (C8.pe_gc rfl T.c_MOST_LETTERS))) (pw_or1 (pt_cmpR op_ne (pe_callB cq_len rfl T.n_len boot_len (pa_cons (pv 2) pa_nil)) (pe_callB cq_len rfl T.n_len boot_len (pa_cons (pe_ix ix_list (pv 0) pe_int (fun _ _ => rfl)) pa_nil)) (nomark _)))))) (pss_one ps_never) pss_nil)
  (pss_one (ps_if (pt_not (pt_val (pe_callB (cr_all rfl) rfl T.n_all boot_all (pa_cons (pe_lc (own := [("number", 3)]) rfl sc_check_form.nd (pi_list (pv 2)) (blkOk_by (N := N_check_form) (sc := defScope s_check_form) (by decide +kernel)) (fun _ _ _ _ _ => (pg_name (i := 3) sc_check_form.nd rfl (Or.inl rfl))) (fun _ _ _ _ _ => pts_nil) (fun _ _ _ _ _ => (pe_and (pe_c C_is_number hr (by decide) rfl (pa_cons (pv 3) pa_nil)) (pe_one (pe_chain op_le op_lt pe_int (pv 3) (pe_callB (cq_lenK K rfl) rfl T.n_len boot_len (pa_cons (pv 0) pa_nil))))))) pa_nil)))) (pss_one ps_never) pss_nil)))))), ?_⟩
  try dsimp only [cxOf, Cx.nox, Cx.wish]
  obtain ⟨p, T, m, N, rfl, ⟨as, hp, hl, hr⟩, G, k⟩ := h
  have hN : as.length = N := by rw [hl, G.len]
  have hpos := G.g.pos
  have hle := G.le
  have m1 := G.m1
  have m6 := G.m6
  obtain ⟨a0, ha0⟩ : ∃ a0, as[0]? = some a0 := ⟨as[0], List.getElem?_eq_getElem (by omega)⟩
  have hr0 := row_of hl hr ha0
  have e0 : (rowV (T.getD 0 [])).length = m := by rw [rowV_len, G.g.row 0 hpos]
  walk_at "go"
  refine ⟨p, false, _, rfl, hp, fun H0 X0 => ?_⟩
  have hp0 := X0 _ _ hp
  walk_at "go"
  have hal : (refs as).length = N := by rw [refs_len, hN]
  rw [hal]
  walk_at "go"
  try refine rd_enL (SqL.of hp0) ?_
  refine forP (n := N) (by have := walk_enum (K := K) (a := p) (xs := refs as); rw [hal] at this; exact this) (fun n σ' H' => ∃ v1 v2, σ' = [some (.ref p), v1, v2, none] ∧ Same H H') ⟨_, _, rfl, X0⟩ (fun i σ' H' _ ⟨_, _, _, X1⟩ => Same.seq X1 (SqL.of hp)) ?_ ?_
  · rintro n σ' H1 T1 x y hn ⟨v1, v2, rfl, X1⟩ n1 hx hy
    obtain ⟨a, ha, rfl⟩ := refs_get hy
    cases hx
    have hrow := row_of hl hr ha
    have X1' := X1.trans (Same.new n1 (o := .tup [.int (n : Nat), .ref a]))
    have en : (rowV (T.getD n [])).length = m := by rw [rowV_len, G.g.row n hn]
    walk_at "go"
    refine ⟨a, false, _, rfl, X1' _ _ hrow, fun H2 X2 => ?_⟩
    have X3 := X1'.trans X2
    walk_at "go"
    try refine rd_lenL (SqL.of (X3 _ _ hrow)) ?_
    walk_at "go"
    try refine rd_lenL (SqL.of (X3 _ _ hrow)) ?_
    walk_at "go"
    try refine rd_ixL (SqL.of (X3 _ _ hp)) (atI_nat (j := 0) (getElem?_refs ha0)) ?_
    walk_at "go"
    try refine rd_lenL (SqL.of (X3 _ _ hr0)) ?_
    rw [en, e0]
    walk_at "go"
    try refine rd_qIl (SqL.of (X3 _ _ hrow)) ?_
    refine lcL (K := K) (T.getD n []) vI (SqL.of (X3 _ _ hrow)) (fun _ => true) (fun _ => .bl true) (by rw [G.g.row n hn]; omega) (fun _ => rfl) (fun y hy => pt_yes) ?_ ?_
    · intro y hy _ H4 s4 Q4 q4
      have hyN : y < N := by
        obtain ⟨j, hj⟩ := List.mem_iff_getElem?.mp hy
        have hjm : j < m := by have := (List.getElem?_eq_some_iff.mp hj).1; rw [G.g.row n hn] at this; exact this
        have e1 := G.g.lt n j hn hjm
        unfold at2 at e1
        rw [getD_some hj] at e1
        exact e1
      walk_at "go"
      refine ⟨(y : Nat), rfl, fun H5 s5 => ?_⟩
      walk_at "go"
      try refine rd_lenL (SqL.of (s5 _ _ (s4 _ _ (X3 _ _ hp)))) ?_
      rw [hal]
      walk_at "go"
      rw [decide_eq_true (show ((y : Nat) : Int) < ((N : Nat) : Int) by omega)]
      exact q4 _ s5
    · intro D2 H4 nD2 s4 hD2
      rw [filter_yes] at hD2
      have hD3 : H4 D2 = some (.lst (((T.getD n []).map fun _ => true).map V.bl)) := by rw [hD2, List.map_map]; rfl
      walk_at "go"
      refine rd_all (SqL.of hD3) ?_
      have e9 : ((T.getD n []).map fun _ => true).all id = true := by simp
      rw [e9]
      walk_at "go"
      exact ⟨_, _, rfl, X3.trans s4⟩
  · rintro σ' H1 ⟨v1, v2, rfl, X1⟩
    exact k _ X1
theorem kq_ins {H : Hp} {x C dx : Addr} {fs : List (Str × V)} {o : HO} (h : H x = some (.ins C dx fs)) : Kq H (L2.upd H x o) := ⟨fun a xs q => by rw [upd_ne (ne_of q h (fun z => nomatch z))]; exact q, fun a xs q => by rw [upd_ne (ne_of q h (fun z => nomatch z))]; exact q⟩
theorem ok_Monoid_init {f : Addr} {fd : FuncData} {z : Zed} (Z : Zok K mg z) (F : Fun K "__init__" "Monoid.__init__" s_Monoid_init f fd) (T : Txt K mg) (C_check_form : Cal P w K mg base 2 "check_form" (sp_check_form K)) (C_check_order : Cal P w K mg base 1 "check_order" (sp_check_order K)) (C_tree_of : Cal P w K mg base 1 "tree_of" (sp_tree_of K)) (C_left_of : Cal P w K mg base 1 "left_of" (sp_left_of K)) (C_check_products : Cal P w K mg base 1 "check_products" (sp_check_products K)) : FnOk P w K mg base CX0 3 f fd ["self", "right"] (sp_Monoid_init z K) := by
  refine F.ok sc_Monoid_init (fun vs H Q E h => by repeat (first | (obtain ⟨rfl, _⟩ := h; rfl) | obtain ⟨_, h⟩ := h)) (fun cdv A outer s H vs Q E hr h => ?_)
  refine ⟨_, (pss_cons (ps_expr (pe_c C_check_form hr (by decide) rfl (pa_cons (pv 1) pa_nil)))
  (pss_cons (ps_set (i := 2) sc_Monoid_init.nd rfl (Or.inl rfl) (pe_tupleOf rfl T.n_tuple (pe_lc (own := [("row", 3)]) rfl sc_Monoid_init.nd (pi_list (pv 1)) (blkOk_by (N := N_Monoid_init) (sc := defScope s_Monoid_init) (by decide +kernel)) (fun _ _ _ _ _ => (pg_name (i := 3) sc_Monoid_init.nd rfl (Or.inl rfl))) (fun _ _ _ _ _ => pts_nil) (fun _ _ _ _ _ => (pe_tupleOfK K rfl rfl T.n_tuple (pv 3))))))
  (pss_cons (ps_expr (pe_c C_check_order hr (by decide) rfl (pa_cons (pv 2) pa_nil)))
  (pss_cons (ps_fld (pv 0) (pv 2) rfl)
  (pss_cons (ps_fld (pv 0) (pe_c C_tree_of hr (by decide) rfl (pa_cons (pv 2) pa_nil)) rfl)
  (pss_cons (ps_fld (pv 0) (pe_c C_left_of hr (by decide) rfl (pa_cons (pv 2) (pa_cons (pe_fld (pv 0) rfl) pa_nil))) rfl)
  (pss_cons (ps_expr (pe_c C_check_products hr (by decide) rfl (pa_cons (pv 2) (pa_cons (pe_fld (pv 0) rfl) pa_nil))))
  (pss_one (ps_fld (pv 0) pe_dnewK rfl))))))))), ?_⟩
  try dsimp only [cxOf, Cx.nox, Cx.wish]
  obtain ⟨x, dx, p, T, m, N, rfl, hx, hT, G, k⟩ := h
  have hN := G.len
  have hpos := G.g.pos
  have hle := G.le
  walk_at "go"
  refine ⟨p, T, m, N, rfl, hT, G, fun H0 X0 => ?_⟩
  obtain ⟨as, hp, hl, hr⟩ := hT.kq (Kq.of X0)
  have hasN : as.length = N := by omega
  walk_at "go"
  have w1 := walk_list (K := K) (a := p) (xs := refs as)
  refine lc_inv (ls := refs as) w1 (fun D i acc H' => Same H0 H' ∧ ∃ bs : List Addr, acc = refs bs ∧ bs.length = (T.take i).length ∧ ∀ (j : Nat) (a : Addr) (r : List Nat), bs[j]? = some a → (T.take i)[j]? = some r → H' a = some (Bx true (rowV r))) (by rw [refs_len]; omega) (fun _ => rfl) (fun D i acc H' h => Same.seq h.1 (SqL.of hp)) (fun D nD => ⟨Same.new nD, [], rfl, rfl, fun j a r e => by simp at e⟩) ?_ ?_
  · rintro D i v acc H' Q' hv nD hacc ⟨X1, bs, rfl, hb1, hb2⟩ hD kk
    obtain ⟨a, ha, rfl⟩ := refs_get hv
    have hrow := row_of hl hr ha
    have hi : i < N := by have := (List.getElem?_eq_some_iff.mp ha).1; omega
    walk_at "go"
    refine rd_kTupL (SqL.of (X1 _ _ hrow)) fun r nr => ?_
    have hDr : r ≠ D := (ne_of_none hD nr).symm
    refine kk _ _ (by rw [upd_ne hDr.symm]; exact hD) ⟨Same.mut (X1.trans (Same.new nr)) nD, bs ++ [r], by unfold refs; rw [List.map_append]; rfl, ?_⟩
    have etk : T.take (i + 1) = T.take i ++ [T.getD i []] := by
      rw [List.take_succ, get_getD [] (by rw [hN]; exact hi)]
      rfl
    rw [etk]
    refine tb_snoc (b2 := true) (H := H') (D := D) hb1 hb2 (fun b hb h0 => ?_) (by rw [upd_ne hDr, upd_same]; rfl)
    obtain ⟨jj, hjj⟩ := List.mem_iff_getElem?.mp hb
    have h9 := hb2 jj b _ hjj (get_getD [] (by rw [← hb1]; exact (List.getElem?_eq_some_iff.mp hjj).1))
    rw [upd_ne (ne_of h9 hD (fun z => nomatch z)), upd_ne (ne_of_none h9 nr)]
  · rintro D acc H1 nD hacc ⟨X1, bs, rfl, hb1, hb2⟩ hD
    rw [refs_len, hasN, ← hN, List.take_length] at hb1 hb2
    walk_at "go"
    intro r nr
    have hTr : Tb true true (L2.upd H1 r (.tup (refs bs))) r T := ⟨bs, upd_same, hb1, fun j a s e1 e2 => by
      have h9 := hb2 j a s e1 e2
      rw [upd_ne (ne_of_none h9 nr)]
      exact h9⟩
    have Y1 : Same H (L2.upd H1 r (.tup (refs bs))) := (X0.trans X1).trans (Same.new nr)
    walk_at "go"
    refine ⟨r, T, m, N, rfl, hTr, G, fun H2 X2 => ?_⟩
    have hx2 := X2 _ _ (Y1 _ _ hx)
    have hT2 := hTr.kq (Kq.of X2)
    walk_at "go"
    refine rd_qSFld Z.cl hx2 Z.n_right (by simp) ?_
    have K3 := kq_ins (o := .ins z.C dx (putF "right" (.ref r) [])) hx2
    have hx3 : (L2.upd H2 x (.ins z.C dx (putF "right" (.ref r) []))) x = some (.ins z.C dx [("right", .ref r)]) := upd_same
    have hT3 := hT2.kq K3
    have E3 : ExB x H (L2.upd H2 x (.ins z.C dx (putF "right" (.ref r) []))) := (ExB.of (Y1.trans X2)).trans ExB.upd
    generalize hH3 : L2.upd H2 x (.ins z.C dx (putF "right" (.ref r) [])) = H3 at *
    walk_at "go"
    refine ⟨r, T, m, N, rfl, hT3, G, fun t H4 nt X4 hTr4 => ?_⟩
    have hx4 := X4 _ _ hx3
    have hT4 := hT3.kq (Kq.of X4)
    walk_at "go"
    refine rd_qSFld Z.cl hx4 Z.n_tree (by simp) ?_
    have K5 := kq_ins (o := .ins z.C dx (putF "tree" (.ref t) [("right", .ref r)])) hx4
    have hx5 : (L2.upd H4 x (.ins z.C dx (putF "tree" (.ref t) [("right", .ref r)]))) x = some (.ins z.C dx [("right", .ref r), ("tree", .ref t)]) := upd_same
    have hT5 := hT4.kq K5
    have hR5 := hTr4.kq K5
    have E5 : ExB x H (L2.upd H4 x (.ins z.C dx (putF "tree" (.ref t) [("right", .ref r)]))) := (E3.trans (ExB.of X4)).trans ExB.upd
    generalize hH5 : L2.upd H4 x (.ins z.C dx (putF "tree" (.ref t) [("right", .ref r)])) = H5 at *
    walk_at "go"
    refine rd_qFld Z.cl hx5 Z.n_tree rfl ?_
    walk_at "go"
    refine ⟨r, t, T, m, N, rfl, hT5, hR5, G, fun l H6 X6 hL6 => ?_⟩
    have hx6 := X6 _ _ hx5
    have hT6 := hT5.kq (Kq.of X6)
    have hR6 := hR5.kq (Kq.of X6)
    walk_at "go"
    refine rd_qSFld Z.cl hx6 Z.n_lefts (by simp) ?_
    have K7 := kq_ins (o := .ins z.C dx (putF "lefts" (.ref l) [("right", .ref r), ("tree", .ref t)])) hx6
    have hx7 : (L2.upd H6 x (.ins z.C dx (putF "lefts" (.ref l) [("right", .ref r), ("tree", .ref t)]))) x = some (.ins z.C dx [("right", .ref r), ("tree", .ref t), ("lefts", .ref l)]) := upd_same
    have hT7 := hT6.kq K7
    have hR7 := hR6.kq K7
    have hL7 := hL6.kq K7
    have E7 : ExB x H (L2.upd H6 x (.ins z.C dx (putF "lefts" (.ref l) [("right", .ref r), ("tree", .ref t)]))) := (E5.trans (ExB.of X6)).trans ExB.upd
    generalize hH7 : L2.upd H6 x (.ins z.C dx (putF "lefts" (.ref l) [("right", .ref r), ("tree", .ref t)])) = H7 at *
    walk_at "go"
    refine rd_qFld Z.cl hx7 Z.n_lefts rfl ?_
    walk_at "go"
    refine ⟨r, l, T, m, N, rfl, hT7, hL7, G, fun H8 X8 => ?_⟩
    have hx8 := X8 _ _ hx7
    walk_at "go"
    intro me nme
    walk_at "go"
    have hx9 : (L2.upd H8 me (.dK [])) x = some (.ins z.C dx [("right", .ref r), ("tree", .ref t), ("lefts", .ref l)]) := by rw [upd_ne (ne_of_none hx8 nme)]; exact hx8
    refine rd_qSFld Z.cl hx9 Z.n_memory (by simp) ?_
    have hmx : me ≠ x := (ne_of_none hx8 nme).symm
    have Kf : Kq H8 (L2.upd (L2.upd H8 me (.dK [])) x (.ins z.C dx (putF "memory" (.ref me) [("right", .ref r), ("tree", .ref t), ("lefts", .ref l)]))) := (Kq.of (Same.new nme)).trans (kq_ins hx9)
    have Ef := ((E7.trans (ExB.of X8)).trans (ExB.new (h := x) (o := .dK []) nme)).trans (ExB.upd (h := x) (o := .ins z.C dx (putF "memory" (.ref me) [("right", .ref r), ("tree", .ref t), ("lefts", .ref l)])))
    have hmeH : H me = none := by
      cases e : H me with
      | none => rfl
      | some o =>
        have := (E7.trans (ExB.of X8)) _ _ hmx e
        rw [nme] at this
        cases this
    walk_at "go"
    refine k _ me hmeH Ef ⟨⟨dx, r, t, l, upd_same, (hT7.kq (Kq.of X8)).kq Kf, (hR7.kq (Kq.of X8)).kq Kf, (hL7.kq (Kq.of X8)).kq Kf⟩, [], ?_, rfl, fun v hv => by simp [valV] at hv, fun v hv => by simp [valV] at hv⟩
    rw [upd_ne hmx, upd_same]
end
end My
namespace My
open PySem PySem.Spec L2 SX LamX Mon
open PyProof.Rows hiding St
local macro_rules | `(tactic| walk_at "kb") => `(tactic| first | exact kb_str_str | exact kb_str_int | exact kb_str_bool | exact kb_str_list | exact kb_str_tuple | exact kb_int_str | exact kb_int_int | exact kb_int_bool | exact kb_int_list | exact kb_int_tuple | exact kb_bool_str | exact kb_bool_int | exact kb_bool_bool | exact kb_bool_list | exact kb_bool_tuple | exact kb_list_str | exact kb_list_int | exact kb_list_bool | exact kb_list_list | exact kb_list_tuple | exact kb_tuple_str | exact kb_tuple_int | exact kb_tuple_bool | exact kb_tuple_list | exact kb_tuple_tuple | exact kb_NoneType_str | exact kb_NoneType_int | exact kb_NoneType_bool | exact kb_NoneType_list | exact kb_NoneType_tuple)
local macro_rules | `(tactic| walk_at "hp") => `(tactic| first | assumption | exact upd_same | (refine (upd_ne (by first | assumption | (apply Ne.symm; assumption))).trans ?_; walk_at "hp"))
local macro_rules | `(tactic| walk_at "sq") => `(tactic| first | assumption | exact SqL.of (by walk_at "hp"))
local macro_rules | `(tactic| walk_at "sqt") => `(tactic| first | assumption | exact SqT.of (by walk_at "hp"))
local macro_rules | `(tactic| walk_at "ar") => `(tactic| first | omega | (dsimp only; omega) | (unfold CMul; omega) | (unfold CDiv; omega) | (unfold CPow; refine ⟨?_, ?_, ?_⟩ <;> decide) | (simp only [List.length_cons, List.length_nil]; decide))
local macro_rules | `(tactic| walk_at "rd") => `(tactic| first
  | with_reducible refine rd_seq ?_
  | with_reducible refine rd_asg ?_
  | with_reducible refine rd_if ?_
  | with_reducible refine rd_ret ?_
  | with_reducible refine rd_drop ?_
  | with_reducible refine rd_name ?_
  | with_reducible refine rd_sub ?_
  | ((with_reducible refine' rd_var ?e ?_); (case e => exact rfl))
  | with_reducible refine rd_c ?_
  | with_reducible refine rd_op ?_
  | with_reducible refine rd_un ?_
  | with_reducible refine rd_I0 ?_
  | ((with_reducible refine' rd_I ?c ?_); (case c => walk_at "ar"))
  | with_reducible refine rd_U ?_
  | with_reducible refine rd_eqI ?_
  | with_reducible refine rd_neI ?_
  | with_reducible refine rd_eqS ?_
  | with_reducible refine rd_neS ?_
  | with_reducible refine rd_eqB ?_
  | with_reducible refine rd_neB ?_
  | with_reducible refine rd_test ?_
  | with_reducible refine rd_B ?_
  | with_reducible refine rd_and ?_
  | with_reducible refine rd_or ?_
  | with_reducible refine rd_not ?_
  | with_reducible refine rd_andV ?_
  | with_reducible refine rd_orV ?_
  | with_reducible refine rd_notV ?_
  | with_reducible refine rd_ifE ?_
  | with_reducible refine rd_isN ?_
  | with_reducible refine rd_notN ?_
  | with_reducible refine rd_cons ?_
  | with_reducible refine rd_nil ?_
  | with_reducible refine rd_lst ?_
  | with_reducible refine rd_tup ?_
  | with_reducible refine rd_CB ?_
  | with_reducible refine rd_call ?_
  | with_reducible refine rd_sl ?_
  | with_reducible refine rd_part ?_
  | with_reducible refine rd_nopart ?_
  | with_reducible refine rd_par ?_
  | with_reducible refine rd_two ?_
  | with_reducible refine rd_next ?_
  | with_reducible refine rd_retN ?_
  | with_reducible refine rd_bool ?_
  | with_reducible refine rd_int ?_
  | with_reducible refine rd_intI ?_
  | with_reducible refine rd_intB ?_
  | with_reducible refine rd_ltS ?_
  | with_reducible refine rd_leS ?_
  | with_reducible refine rd_gtS ?_
  | with_reducible refine rd_geS ?_
  | with_reducible refine rd_inC ?_
  | with_reducible refine rd_notInC ?_
  | with_reducible refine rd_abs ?_
  | with_reducible refine rd_max2 ?_
  | with_reducible refine rd_min2 ?_
  | with_reducible refine rd_M1 ?_
  | with_reducible refine rd_isStr ?_
  | ((with_reducible refine' rd_len ?b ?_); (case b => (simp only [List.length_cons, List.length_nil]; decide)))
  | ((with_reducible refine' rd_listS ?b ?_); (case b => first | (simp only [List.length_take, List.length_cons, List.length_nil]; omega) | omega))
  | ((with_reducible refine' rd_isi ?ty ?h ?_); (case ty => first | exact ty_str | exact ty_int | exact ty_bl | exact ty_non | exact ty_lst (by walk_at "hp") | exact ty_tup (by walk_at "hp")); (case h => walk_at "kb"))
  | with_reducible refine rd_lc ?_
  | with_reducible refine rd_for ?_
  | with_reducible refine rd_iList ?_
  | with_reducible refine rd_iTup ?_
  | with_reducible refine rd_iRng1 ?_
  | with_reducible refine rd_iRng2 ?_
  | with_reducible refine rd_iRng3 ?_
  | with_reducible refine rd_iStr ?_
  | with_reducible refine rd_qIs ?_
  | with_reducible refine rd_whb ?_
  | ((with_reducible refine' rd_qIl ?sq ?_); (case sq => walk_at "sq"))
  | ((with_reducible refine' rd_qItu ?sq ?_); (case sq => walk_at "sqt"))
  | ((with_reducible refine' rd_qIr1 ?b1 ?b2 ?_); (case b1 => walk_at "ar"); (case b2 => walk_at "ar"))
  | ((with_reducible refine' rd_qIr2 ?b1 ?b2 ?b3 ?b4 ?_); (case b1 => walk_at "ar"); (case b2 => walk_at "ar"); (case b3 => walk_at "ar"); (case b4 => walk_at "ar"))
  | ((with_reducible refine' rd_qIr3 ?b1 ?b2 ?b3 ?b4 ?_); (case b1 => walk_at "ar"); (case b2 => walk_at "ar"); (case b3 => walk_at "ar"); (case b4 => walk_at "ar"))
  | ((with_reducible refine' rd_mulS ?b1 ?b2 ?b3 ?_); (case b1 => walk_at "ar"); (case b2 => walk_at "ar"); (case b3 => walk_at "ar"))
  | ((with_reducible refine' rd_slS_to ?b1 ?b2 ?_); (case b1 => walk_at "ar"); (case b2 => walk_at "ar"))
  | ((with_reducible refine' rd_slS_from ?b1 ?b2 ?_); (case b1 => walk_at "ar"); (case b2 => walk_at "ar"))
  | ((with_reducible refine' rd_slS_mid ?b1 ?b2 ?b3 ?b4 ?_); (case b1 => walk_at "ar"); (case b2 => walk_at "ar"); (case b3 => walk_at "ar"); (case b4 => walk_at "ar"))
  | ((with_reducible refine' rd_slL ?sq ?_); (case sq => walk_at "sq"))
  | with_reducible refine rd_true ?_
  | with_reducible refine rd_false ?_
  | with_reducible refine rd_nt ?_
  | with_reducible refine rd_nf ?_
  | ((with_reducible refine' rd_decT ?h ?_); (case h => omega))
  | ((with_reducible refine' rd_decF ?h ?_); (case h => omega))
  | ((with_reducible refine' rd_ndecT ?h ?_); (case h => omega))
  | ((with_reducible refine' rd_ndecF ?h ?_); (case h => omega))
  | ((with_reducible refine' rd_evT ?h ?_); (case h => first | exact rfl | (simp; done)))
  | ((with_reducible refine' rd_evF ?h ?_); (case h => first | exact rfl | (simp; done)))
  | ((with_reducible refine' rd_ixL ?sq ?a1 ?_); (case sq => walk_at "sq"); (case a1 => first | exact rfl | exact at_of (by omega) (by assumption)))
  | ((with_reducible refine' rd_ixT ?sq ?a1 ?_); (case sq => walk_at "sqt"); (case a1 => first | exact rfl | exact at_of (by omega) (by assumption)))
  | ((with_reducible refine' rd_lenL ?sq ?_); (case sq => walk_at "sq"))
  | ((with_reducible refine' rd_lenT ?sq ?_); (case sq => walk_at "sqt"))
  | ((with_reducible refine' rd_setL ?h ?j ?_); (case h => walk_at "hp"); (case j => exact rfl); (with_reducible refine id ?_))
  | ((with_reducible refine' rd_strlen ?l ?_); (case l => walk_at "ar"))
  | ((with_reducible refine' rd_cat ?l ?_); (case l => walk_at "ar")))
local macro_rules | `(tactic| walk_at "go") => `(tactic| ((try dsimp only); (repeat (walk_at "rd"))))
local macro_rules | `(tactic| walk_at "rd") => `(tactic| first
  | with_reducible refine rd_lstRg ?_
  | with_reducible refine rd_tRg1 ?_
  | with_reducible refine rd_tRg2 ?_
  | with_reducible refine rd_rg1 ?_
  | with_reducible refine rd_rg2 ?_
  | ((with_reducible refine' rd_qRg ?b ?_); (case b => refine ⟨?_, ?_, ?_, ?_⟩ <;> omega))
  | with_reducible refine rd_sortSet ?_
  | with_reducible refine rd_tDGet ?_
  | with_reducible refine rd_sDPut ?_
  | with_reducible refine rd_dnew ?_
  | with_reducible refine rd_iZipS ?_
  | with_reducible refine rd_zipS ?_
  | ((with_reducible refine' rd_inI ?sq ?_); (case sq => walk_at "sq"))
  | ((with_reducible refine' rd_notInI ?sq ?_); (case sq => walk_at "sq"))
  | with_reducible refine rd_chain ?_)

local macro_rules | `(tactic| walk_at "rd") => `(tactic| first
  | with_reducible refine rd_fld ?_
  | with_reducible refine rd_par3 ?_
  | with_reducible refine rd_sFld ?_
  | with_reducible refine rd_meth ?_
  | with_reducible refine rd_make ?_
  | with_reducible refine rd_iEnT ?_
  | with_reducible refine rd_iEnL ?_
  | with_reducible refine rd_iZipSL ?_
  | with_reducible refine rd_dIn ?_
  | with_reducible refine rd_dNotIn ?_
  | with_reducible refine rd_tDGet ?_
  | with_reducible refine rd_thenT ?_
  | with_reducible refine rd_sortLam ?_
  | with_reducible refine rd_tupRg ?_
  | with_reducible refine rd_bm ?_
  | ((with_reducible refine' rd_kTupT ?sq ?_); (case sq => walk_at "sqt"))
  | ((with_reducible refine' rd_kTupL ?sq ?_); (case sq => walk_at "sq"))
  | with_reducible refine rd_sDPut ?_
  | ((with_reducible refine' rd_enT ?sq ?_); (case sq => walk_at "sqt"))
  | ((with_reducible refine' rd_enL ?sq ?_); (case sq => walk_at "sq"))
  | ((with_reducible refine' rd_zipSL ?sq ?_); (case sq => walk_at "sq")))

section
variable {P : Program} {w : World} {K : PySem.W.Frag} {mg : Str → Option Value} {base : Heap}
theorem kwke : ¬ kw = ke := by intro h; exact absurd (Sum.inr.inj h) (by decide)
/-- a new value at a key that was not there -/
theorem memo_put {H : Hp} {me : Addr} {T : Tab} {m N : Nat} {kvs : List (Key × V)} {D : Addr} (hm : H me = some (.dK kvs)) (hl : kvs.length = (if (valV kvs kw).isSome then 1 else 0) + (if (valV kvs ke).isSome then 1 else 0))
    (h1 : ∀ v, valV kvs kw = some v → ∃ p, v = .ref p ∧ H p = some (.lst (txV (wds (tree T m N))))) (h2 : ∀ v, valV kvs ke = some v → ∃ p, v = .ref p ∧ H p = some (.lst (rowV (ends T (tree T m N))))) (b : Bool)
    (hn : valV kvs (if b then kw else ke) = none) (hD : H D = some (.lst (if b then txV (wds (tree T m N)) else rowV (ends T (tree T m N))))) : Memo (L2.upd H me (.dK (putK kvs (if b then kw else ke) (.ref D)))) me T m N := by
  have keep : ∀ p xs, H p = some (.lst xs) → (L2.upd H me (.dK (putK kvs (if b then kw else ke) (.ref D)))) p = some (.lst xs) := fun p xs h => by rw [upd_ne (ne_of h hm (fun z => nomatch z))]; exact h
  refine ⟨_, upd_same, ?_, fun v hv => ?_, fun v hv => ?_⟩
  · rw [putK_new _ hn, List.length_append, hl, valV_snoc _ _ _ _ hn, valV_snoc _ _ _ _ hn]
    cases b
    · have hn2 : valV kvs ke = none := hn
      simp only [Bool.false_eq_true, if_false, if_neg kwke, hn2, Option.isSome_none, if_pos, Option.isSome_some, List.length_cons, List.length_nil]
    · have hn2 : valV kvs kw = none := hn
      simp only [if_true, if_neg (Ne.symm kwke), hn2, Option.isSome_none, Option.isSome_some, List.length_cons, List.length_nil]
      simp
      omega
  · rw [valV_put] at hv
    cases b
    · rw [if_neg (by simpa using kwke)] at hv
      obtain ⟨p, rfl, hp⟩ := h1 v hv
      exact ⟨p, rfl, keep _ _ hp⟩
    · rw [if_pos (by simp)] at hv
      cases hv
      exact ⟨D, rfl, keep _ _ hD⟩
  · rw [valV_put] at hv
    cases b
    · rw [if_pos (by simp)] at hv
      cases hv
      exact ⟨D, rfl, keep _ _ hD⟩
    · rw [if_neg (by simpa using (Ne.symm kwke))] at hv
      obtain ⟨p, rfl, hp⟩ := h2 v hv
      exact ⟨p, rfl, keep _ _ hp⟩
theorem memo_len {kvs : List (Key × V)} (hl : kvs.length = (if (valV kvs kw).isSome then 1 else 0) + (if (valV kvs ke).isSome then 1 else 0)) : kvs.length ≤ 2 := by
  rw [hl]; split <;> split <;> omega
theorem lett {l : Nat} (h : l < 6) : atI [97, 98, 99, 100, 101, 102] ((l : Nat) : Int) = some (97 + l) := atI_nat (by
  match l, h with
  | 0, _ => rfl
  | 1, _ => rfl
  | 2, _ => rfl
  | 3, _ => rfl
  | 4, _ => rfl
  | 5, _ => rfl)
theorem ok_Monoid_all_words {f : Addr} {fd : FuncData} {z : Zed} (Z : Zok K mg z) (F : Fun K "all_words" "Monoid.all_words" s_Monoid_all_words f fd) (T : Txt K mg) : FnOk P w K mg base CX0 1 f fd ["self"] (sp_Monoid_all_words z K) := by
  refine F.ok sc_Monoid_all_words (fun vs H Q E h => by repeat (first | (obtain ⟨rfl, _⟩ := h; rfl) | obtain ⟨_, h⟩ := h)) (fun cdv A outer s H vs Q E hr h => ?_)
  refine ⟨_, (pss_cons (ps_if (pt_cmp (pc_dnotin (hu_of hr) (pe_strS [119, 111, 114, 100, 115] rfl) (pe_fld (pv 0) rfl))) (pss_cons (ps_set (i := 1) sc_Monoid_all_words.nd rfl (Or.inl rfl) (pe_lst (pa_cons (pe_strS [] rfl) pa_nil)))
  (pss_cons (ps_for PassesOwn.never rfl (pi_list (pe_slice sl_list (pe_fld (pv 0) rfl) (po_some pe_int) po_none)) (pg_two (i := 2) (j := 3) K rfl rfl sc_Monoid_all_words.nd rfl (Or.inl rfl) rfl (Or.inl rfl))
  (pss_one (ps_expr (pe_bm PySem.F.plainAttrs_list PySem.F.slot_list_append PySem.F.type_list_append mt_append (pv 1) (pa_cons (pe_op oq_addS (pe_ix ix_list (pv 1) (pv 2) (fun _ _ => rfl)) (pe_ix ix_str (C8.pe_gc rfl T.c_LETTERS) (pv 3) (fun _ _ => rfl))) pa_nil)))))
  (pss_one (ps_dput (hu_of hr) (pe_fld (pv 0) rfl) (pe_strS [119, 111, 114, 100, 115] rfl) (pv 1) rfl)))) pss_nil)
  (pss_one (ps_ret (pe_dget (hu_of hr) (pe_fld (pv 0) rfl) (pe_strS [119, 111, 114, 100, 115] rfl) (fun _ _ => rfl))))), ?_⟩
  try dsimp only [cxOf, Cx.nox, Cx.wish]
  obtain ⟨a, me, T, m, N, rfl, O, G, k⟩ := h
  have hpos := G.g.pos
  have hle := G.le
  obtain ⟨⟨dx, r, t, l, hx, hT, ⟨ts, ht, htl, htr⟩, hL⟩, ⟨kvs, hm, hkl, hw, he⟩⟩ := id O
  have htl2 : (tree T m N).length = N := G.g.len
  walk_at "go"
  refine rd_qFld Z.cl hx Z.n_memory rfl ?_
  refine rd_qInK (neg := true) kw hm ?_
  walk_at "go"
  cases hv : valV kvs kw with
  | some v =>
    walk_at "go"
    obtain ⟨p, rfl, hp⟩ := hw v hv
    refine rd_qFld Z.cl hx Z.n_memory rfl ?_
    walk_at "go"
    refine rd_qGetK kw hm hv ?_
    exact k p H (ExB.refl _ _) O hp
  | none =>
    walk_at "go"
    intro D nD
    walk_at "go"
    have S0 : Same H (L2.upd H D (.lst [V.str (S [])])) := Same.new nD
    refine rd_qFld Z.cl (S0 _ _ hx) Z.n_tree rfl ?_
    walk_at "go"
    refine rd_slL (SqL.of (S0 _ _ ht)) fun p2 np2 => ?_
    rw [cutV_from1]
    have S1 : Same H (L2.upd (L2.upd H D (.lst [V.str (S [])])) p2 (.lst (refs ts))) := S0.trans (Same.new np2)
    have hDp : D ≠ p2 := ne_of_none (o := .lst [V.str (S [])]) upd_same np2
    refine rd_qIl (SqL.of upd_same) ?_
    refine forLP (K := K) (ls := refs ts) (fun i σ' H' => ∃ v2 v3, σ' = [some (.ref a), some (.ref D), v2, v3] ∧ ExB D (L2.upd (L2.upd H D (.lst [V.str (S [])])) p2 (.lst (refs ts))) H' ∧ H' D = some (.lst (txV ((wds (tree T m N)).take (i + 1)))))
      ⟨_, _, rfl, ExB.refl _ _, ?_⟩ (fun i σ' H' _ ⟨_, _, _, X1, _⟩ => SqL.of (X1 _ _ hDp.symm upd_same)) ?_ ?_
    · rw [upd_ne hDp, upd_same]
      have h0 : (wds (tree T m N)).take 1 = [[]] := by
        rw [List.take_succ, List.take_zero, List.nil_append, get_getD [] (by rw [G.g.wlen]; exact hpos)]
        have := G.g.W0
        unfold W at this
        rw [this]; rfl
      rw [h0]; rfl
    · rintro i v σ' H1 hv1 ⟨v2, v3, rfl, X1, hD⟩
      obtain ⟨ta, hta, rfl⟩ := refs_get hv1
      have hi : i + 1 < N := by have := (List.getElem?_eq_some_iff.mp hta).1; omega
      have hq := htr i ta _ hta (get_getD (0, 0) (by rw [htl2]; exact hi))
      have X0 : Same H H1 := ExB.same S1 nD X1
      have hf := G.g.fst (k := i + 1) (by omega) hi
      refine ⟨ta, _, _, rfl, SqT.of (X0 _ _ hq), ?_⟩
      walk_at "go"
      refine ⟨tyL hD, ?_⟩
      walk_at "go"
      have hW : (txV ((wds (tree T m N)).take (i + 1)))[P1 T m N (i + 1)]? = some (.str (S (W T m N (P1 T m N (i + 1))))) := by
        rw [txV_get (by rw [List.length_take, G.g.wlen]; have := hf.1; omega), getD_take hf.1]
        rfl
      refine rd_ixL (SqL.of hD) (at_vI hW) ?_
      walk_at "go"
      have hm6 := G.m6
      have hlen := G.g.W_len _ hf.2.2.2
      have hf2 := hf.2.2.2
      refine rd_ixS (by decide) (lett (Nat.lt_of_lt_of_le hf.2.1 hm6)) ?_
      walk_at "go"
      refine rd_cat (by show _ + 1 ≤ 100000; omega) ?_
      walk_at "go"
      refine rd_app hD (by rw [txV_len, List.length_take]; omega) ?_
      walk_at "go"
      refine ⟨_, _, rfl, X1.trans ExB.upd, ?_⟩
      rw [upd_same, ← G.g.Wk (by omega) hi]
      have etk : (wds (tree T m N)).take (i + 1 + 1) = (wds (tree T m N)).take (i + 1) ++ [W T m N (i + 1)] := by
        rw [List.take_succ, get_getD [] (by rw [G.g.wlen]; exact hi)]
        rfl
      rw [etk]
      unfold txV
      rw [List.map_append]
      rfl
    · rintro σ' H1 ⟨v2, v3, rfl, X1, hD⟩
      have X0 : Same H H1 := ExB.same S1 nD X1
      have etk : (wds (tree T m N)).take ((refs ts).length + 1) = wds (tree T m N) := List.take_of_length_le (by rw [G.g.wlen, refs_len]; omega)
      rw [etk] at hD
      walk_at "go"
      refine rd_qFld Z.cl (X0 _ _ hx) Z.n_memory rfl ?_
      walk_at "go"
      refine rd_qPutK kw (X0 _ _ hm) (by have := memo_len hkl; omega) ?_
      have hme : me ≠ a := ne_of hm hx (fun z => nomatch z)
      have hx2 : (L2.upd H1 me (.dK (putK kvs kw (.ref D)))) a = some (.ins z.C dx [("right", .ref r), ("tree", .ref t), ("lefts", .ref l), ("memory", .ref me)]) := by rw [upd_ne hme.symm]; exact X0 _ _ hx
      have mm := memo_put (T := T) (m := m) (N := N) (X0 _ _ hm) hkl (fun v hv => let ⟨p, q1, q2⟩ := hw v hv; ⟨p, q1, X0 _ _ q2⟩) (fun v hv => let ⟨p, q1, q2⟩ := he v hv; ⟨p, q1, X0 _ _ q2⟩) true hv hD
      have kk : Kq H1 (L2.upd H1 me (.dK (putK kvs kw (.ref D)))) := kq_exB (X0 _ _ hm) ExB.upd
      walk_at "go"
      refine rd_qFld Z.cl hx2 Z.n_memory rfl ?_
      walk_at "go"
      refine rd_qGetK kw upd_same (v := .ref D) (by rw [valV_put, if_pos rfl]) ?_
      exact k D _ ((ExB.of X0).trans ExB.upd) ⟨⟨dx, r, t, l, hx2, (hT.kq (Kq.of X0)).kq kk, Trl.kq (Trl.kq ⟨ts, ht, htl, htr⟩ (Kq.of X0)) kk, (hL.kq (Kq.of X0)).kq kk⟩, mm⟩ (kk.1 _ _ hD)
theorem ok_Monoid_ends {f : Addr} {fd : FuncData} {z : Zed} (Z : Zok K mg z) (F : Fun K "ends" "Monoid.ends" s_Monoid_ends f fd) (T : Txt K mg) : FnOk P w K mg base CX0 1 f fd ["self"] (sp_Monoid_ends z K) := by
  refine F.ok sc_Monoid_ends (fun vs H Q E h => by repeat (first | (obtain ⟨rfl, _⟩ := h; rfl) | obtain ⟨_, h⟩ := h)) (fun cdv A outer s H vs Q E hr h => ?_)
  refine ⟨_, (pss_cons (ps_if (pt_cmp (pc_dnotin (hu_of hr) (pe_strS [101, 110, 100, 115] rfl) (pe_fld (pv 0) rfl))) (pss_cons (ps_set (i := 1) sc_Monoid_ends.nd rfl (Or.inl rfl) (pe_lst (pa_cons pe_int pa_nil)))
  (pss_cons (ps_for PassesOwn.never rfl (pi_list (pe_slice sl_list (pe_fld (pv 0) rfl) (po_some pe_int) po_none)) (pg_two (i := 2) (j := 3) K rfl rfl sc_Monoid_ends.nd rfl (Or.inl rfl) rfl (Or.inl rfl))
  (pss_one (ps_expr (pe_bm PySem.F.plainAttrs_list PySem.F.slot_list_append PySem.F.type_list_append mt_append (pv 1) (pa_cons (pe_ifExp (pt_cmpR op_ne (pv 2) pe_int (nomark _)) (pe_ix ix_tup (pe_ix ix_tup (pe_fld (pv 0) rfl) (pe_ix ix_list (pv 1) (pv 2) (fun _ _ => rfl)) (fun _ _ => rfl)) (pv 3) (fun _ _ => rfl)) pe_int) pa_nil)))))
  (pss_one (ps_dput (hu_of hr) (pe_fld (pv 0) rfl) (pe_strS [101, 110, 100, 115] rfl) (pv 1) rfl)))) pss_nil)
  (pss_one (ps_ret (pe_dget (hu_of hr) (pe_fld (pv 0) rfl) (pe_strS [101, 110, 100, 115] rfl) (fun _ _ => rfl))))), ?_⟩
  try dsimp only [cxOf, Cx.nox, Cx.wish]
  obtain ⟨a, me, T, m, N, rfl, O, G, k⟩ := h
  have hpos := G.g.pos
  have hle := G.le
  obtain ⟨⟨dx, r, t, l, hx, ⟨as, hp, hl, hr⟩, ⟨ts, ht, htl, htr⟩, hL⟩, ⟨kvs, hm, hkl, hw, he⟩⟩ := id O
  have htl2 : (tree T m N).length = N := G.g.len
  have hasN : as.length = N := by rw [hl, G.len]
  walk_at "go"
  refine rd_qFld Z.cl hx Z.n_memory rfl ?_
  refine rd_qInK (neg := true) ke hm ?_
  walk_at "go"
  cases hv : valV kvs ke with
  | some v =>
    walk_at "go"
    obtain ⟨p, rfl, hp⟩ := he v hv
    refine rd_qFld Z.cl hx Z.n_memory rfl ?_
    walk_at "go"
    refine rd_qGetK ke hm hv ?_
    exact k p H (ExB.refl _ _) O hp
  | none =>
    walk_at "go"
    intro D nD
    walk_at "go"
    have S0 : Same H (L2.upd H D (.lst [V.int 0])) := Same.new nD
    refine rd_qFld Z.cl (S0 _ _ hx) Z.n_tree rfl ?_
    walk_at "go"
    refine rd_slL (SqL.of (S0 _ _ ht)) fun p2 np2 => ?_
    rw [cutV_from1]
    have S1 : Same H (L2.upd (L2.upd H D (.lst [V.int 0])) p2 (.lst (refs ts))) := S0.trans (Same.new np2)
    have hDp : D ≠ p2 := ne_of_none (o := .lst [V.int 0]) upd_same np2
    refine rd_qIl (SqL.of upd_same) ?_
    refine forLP (K := K) (ls := refs ts) (fun i σ' H' => ∃ v2 v3, σ' = [some (.ref a), some (.ref D), v2, v3] ∧ ExB D (L2.upd (L2.upd H D (.lst [V.int 0])) p2 (.lst (refs ts))) H' ∧ H' D = some (.lst (rowV ((ends T (tree T m N)).take (i + 1)))))
      ⟨_, _, rfl, ExB.refl _ _, ?_⟩ (fun i σ' H' _ ⟨_, _, _, X1, _⟩ => SqL.of (X1 _ _ hDp.symm upd_same)) ?_ ?_
    · rw [upd_ne hDp, upd_same]
      have h0 : (ends T (tree T m N)).take 1 = [0] := by
        rw [List.take_succ, List.take_zero, List.nil_append, get_getD 0 (by rw [G.g.elen]; exact hpos)]
        have := G.g.E0
        unfold Mon.E at this
        rw [this]; rfl
      rw [h0]; rfl
    · rintro i v σ' H1 hv1 ⟨v2, v3, rfl, X1, hD⟩
      obtain ⟨ta, hta, rfl⟩ := refs_get hv1
      have hi : i + 1 < N := by have := (List.getElem?_eq_some_iff.mp hta).1; omega
      have hq := htr i ta _ hta (get_getD (0, 0) (by rw [htl2]; exact hi))
      have X0 : Same H H1 := ExB.same S1 nD X1
      have hf := G.g.fst (k := i + 1) (by omega) hi
      have hm6 := G.m6
      have hf2 := hf.2.2.2
      have hE : (rowV ((ends T (tree T m N)).take (i + 1)))[P1 T m N (i + 1)]? = some (vI (Mon.E T m N (P1 T m N (i + 1)))) := by
        rw [rowV_get (by rw [List.length_take, G.g.elen]; have := hf.1; omega), getD_take hf.1]
        rfl
      have hEl := G.g.E_lt hf2
      have fin : ∀ H2, ExB D (L2.upd (L2.upd H D (.lst [V.int 0])) p2 (.lst (refs ts))) H2 → H2 D = some (.lst (rowV ((ends T (tree T m N)).take (i + 1)))) → ∃ v2 v3, [some (V.ref a), some (.ref D), some (vI (P1 T m N (i + 1))), some (vI (P2 T m N (i + 1)))] = [some (.ref a), some (.ref D), v2, v3] ∧ ExB D (L2.upd (L2.upd H D (.lst [V.int 0])) p2 (.lst (refs ts))) (L2.upd H2 D (.lst (rowV ((ends T (tree T m N)).take (i + 1)) ++ [vI (Mon.E T m N (i + 1))]))) ∧ (L2.upd H2 D (.lst (rowV ((ends T (tree T m N)).take (i + 1)) ++ [vI (Mon.E T m N (i + 1))]))) D = some (.lst (rowV ((ends T (tree T m N)).take (i + 1 + 1)))) := fun H2 e1 e2 => by
        refine ⟨_, _, rfl, e1.trans ExB.upd, ?_⟩
        have etk : (ends T (tree T m N)).take (i + 1 + 1) = (ends T (tree T m N)).take (i + 1) ++ [Mon.E T m N (i + 1)] := by
          rw [List.take_succ, get_getD 0 (by rw [G.g.elen]; exact hi)]
          rfl
        rw [upd_same, etk]
        unfold rowV
        rw [List.map_append]
        rfl
      have hEk := G.g.Ek (k := i + 1) (by omega) hi
      refine ⟨ta, _, _, rfl, SqT.of (X0 _ _ hq), ?_⟩
      walk_at "go"
      refine ⟨tyL hD, ?_⟩
      walk_at "go"
      refine rd_ndec (fun h1 => ?_) (fun h1 => ?_)
      · have h2 : ¬ P1 T m N (i + 1) = 0 := fun z => h1 (by show ((P1 T m N (i + 1) : Nat) : Int) = 0; omega)
        walk_at "go"
        refine rd_qFld Z.cl (X0 _ _ hx) Z.n_right rfl ?_
        walk_at "go"
        try refine rd_ixL (SqL.of hD) (at_vI hE) ?_
        obtain ⟨b, hb⟩ : ∃ b, as[Mon.E T m N (P1 T m N (i + 1))]? = some b := ⟨_, List.getElem?_eq_getElem (by omega)⟩
        refine rd_ixT (SqT.of (X0 _ _ hp)) (at_vI (getElem?_refs hb)) ?_
        walk_at "go"
        refine rd_ixT (SqT.of (X0 _ _ (row_of hl hr hb))) (at_vI (v := vI (at2 T (Mon.E T m N (P1 T m N (i + 1))) (P2 T m N (i + 1)))) (rowV_get (by rw [G.g.row _ hEl]; exact hf.2.1))) ?_
        rw [if_neg h2] at hEk
        walk_at "go"
        refine rd_app hD (by rw [rowV_len, List.length_take]; omega) ?_
        rw [← hEk]
        walk_at "go"
        exact fin _ X1 hD
      · have h2 : P1 T m N (i + 1) = 0 := by have h3 : ((P1 T m N (i + 1) : Nat) : Int) = 0 := h1; omega
        rw [if_pos h2] at hEk
        walk_at "go"
        refine rd_app hD (by rw [rowV_len, List.length_take]; omega) ?_
        rw [hEk] at fin
        walk_at "go"
        exact fin _ X1 hD
    · rintro σ' H1 ⟨v2, v3, rfl, X1, hD⟩
      have X0 : Same H H1 := ExB.same S1 nD X1
      have etk : (ends T (tree T m N)).take ((refs ts).length + 1) = ends T (tree T m N) := List.take_of_length_le (by rw [G.g.elen, refs_len]; omega)
      rw [etk] at hD
      walk_at "go"
      refine rd_qFld Z.cl (X0 _ _ hx) Z.n_memory rfl ?_
      walk_at "go"
      refine rd_qPutK ke (X0 _ _ hm) (by have := memo_len hkl; omega) ?_
      have hme : me ≠ a := ne_of hm hx (fun z => nomatch z)
      have hx2 : (L2.upd H1 me (.dK (putK kvs ke (.ref D)))) a = some (.ins z.C dx [("right", .ref r), ("tree", .ref t), ("lefts", .ref l), ("memory", .ref me)]) := by rw [upd_ne hme.symm]; exact X0 _ _ hx
      have mm := memo_put (T := T) (m := m) (N := N) (X0 _ _ hm) hkl (fun v hv => let ⟨p, q1, q2⟩ := hw v hv; ⟨p, q1, X0 _ _ q2⟩) (fun v hv => let ⟨p, q1, q2⟩ := he v hv; ⟨p, q1, X0 _ _ q2⟩) false hv hD
      have kk : Kq H1 (L2.upd H1 me (.dK (putK kvs ke (.ref D)))) := kq_exB (X0 _ _ hm) ExB.upd
      walk_at "go"
      refine rd_qFld Z.cl hx2 Z.n_memory rfl ?_
      walk_at "go"
      refine rd_qGetK ke upd_same (v := .ref D) (by rw [valV_put, if_pos rfl]) ?_
      exact k D _ ((ExB.of X0).trans ExB.upd) ⟨⟨dx, r, t, l, hx2, (Tb.kq ⟨as, hp, hl, hr⟩ (Kq.of X0)).kq kk, Trl.kq (Trl.kq ⟨ts, ht, htl, htr⟩ (Kq.of X0)) kk, (hL.kq (Kq.of X0)).kq kk⟩, mm⟩ (kk.1 _ _ hD)
theorem ok_Monoid_is_least {f : Addr} {fd : FuncData} {z : Zed} (Z : Zok K mg z) (F : Fun K "is_least" "Monoid.is_least" s_Monoid_is_least f fd) (T : Txt K mg) : FnOk P w K mg base CX0 1 f fd ["self", "number", "letter"] (sp_Monoid_is_least z K) := by
  refine F.ok sc_Monoid_is_least (fun vs H Q E h => by repeat (first | (obtain ⟨rfl, _⟩ := h; rfl) | obtain ⟨_, h⟩ := h)) (fun cdv A outer s H vs Q E hr h => ?_)
  refine ⟨_, (pss_one (ps_ret (pe_cmpR (op_eqD hr.units) (pe_ix ix_list (pe_fld (pv 0) rfl) (pe_ix ix_tup (pe_ix ix_tup (pe_fld (pv 0) rfl) (pv 1) (fun _ _ => rfl)) (pv 2) (fun _ _ => rfl)) (fun _ _ => rfl)) (pe_tup (pa_cons (pv 1) (pa_cons (pv 2) pa_nil))) (nomark _)))), ?_⟩
  try dsimp only [cxOf, Cx.nox, Cx.wish]
  obtain ⟨a, me, T, m, N, n, j, rfl, O, G, hn, hj, k⟩ := h
  obtain ⟨⟨dx, r, t, l, hx, ⟨as, hp, hl, hr⟩, ⟨ts, ht, htl, htr⟩, hL⟩, _⟩ := id O
  have htl2 : (tree T m N).length = N := G.g.len
  have hasN : as.length = N := by rw [hl, G.len]
  have hv := G.g.lt n j hn hj
  obtain ⟨b, hb⟩ : ∃ b, as[n]? = some b := ⟨_, List.getElem?_eq_getElem (by omega)⟩
  walk_at "go"
  refine rd_qFld Z.cl hx Z.n_tree rfl ?_
  walk_at "go"
  refine rd_qFld Z.cl hx Z.n_right rfl ?_
  walk_at "go"
  refine rd_ixT (SqT.of hp) (at_vI (getElem?_refs hb)) ?_
  walk_at "go"
  refine rd_ixT (SqT.of (row_of hl hr hb)) (at_vI (v := vI (at2 T n j)) (rowV_get (by rw [G.g.row _ hn]; exact hj))) ?_
  by_cases h0 : at2 T n j = 0
  · rw [h0]
    refine rd_ixL (v := .non) (SqL.of ht) (atI_nat (j := 0) rfl) ?_
    walk_at "go"
    intro p1 n1
    refine rd_eqNI (SqT.of upd_same) ?_
    have e : least T m N n j = false := decide_eq_false fun z => by omega
    have := k _ (Same.new (o := .tup [vI n, vI j]) n1)
    rw [e] at this
    exact this
  · obtain ⟨ta, hta⟩ : ∃ ta, ts[at2 T n j - 1]? = some ta := ⟨_, List.getElem?_eq_getElem (by omega)⟩
    have hta2 : (.non :: refs ts : List V)[at2 T n j]? = some (.ref ta) := by
      have e : at2 T n j = (at2 T n j - 1) + 1 := by omega
      rw [e]
      exact getElem?_refs hta
    have hq := htr _ ta _ hta (get_getD (0, 0) (by rw [htl2]; omega))
    rw [show at2 T n j - 1 + 1 = at2 T n j by omega] at hq
    refine rd_ixL (SqL.of ht) (at_vI hta2) ?_
    walk_at "go"
    intro p1 n1
    refine rd_eqII (SqT.of (by rw [upd_ne (ne_of_none hq n1)]; exact hq)) (SqT.of upd_same) ?_
    have e : decide (((((tree T m N).getD (at2 T n j) (0, 0)).1 : Nat) : Int) = ((n : Nat) : Int) ∧ ((((tree T m N).getD (at2 T n j) (0, 0)).2 : Nat) : Int) = ((j : Nat) : Int)) = least T m N n j := by
      unfold least
      generalize (tree T m N).getD (at2 T n j) (0, 0) = q
      obtain ⟨q1, q2⟩ := q
      refine decide_eq_decide.mpr ?_
      constructor
      · rintro ⟨h1, h2⟩
        dsimp only at h1 h2
        refine ⟨by omega, ?_⟩
        rw [show q1 = n by omega, show q2 = j by omega]
      · rintro ⟨_, h1⟩
        cases h1
        exact ⟨rfl, rfl⟩
    have := k _ (Same.new (o := .tup [vI n, vI j]) n1)
    rw [← e] at this
    exact this
theorem ok_Monoid_is_rule {f : Addr} {fd : FuncData} {z : Zed} (Z : Zok K mg z) (F : Fun K "is_rule" "Monoid.is_rule" s_Monoid_is_rule f fd) (T : Txt K mg) (C_Monoid_is_least : C8.Met P w K mg base 1 z.C "is_least" (sp_Monoid_is_least z K) []) (C_Monoid_ends : C8.Met P w K mg base 1 z.C "ends" (sp_Monoid_ends z K) []) : FnOk P w K mg base CX0 2 f fd ["self", "number", "letter"] (sp_Monoid_is_rule z K) := by
  refine F.ok sc_Monoid_is_rule (fun vs H Q E h => by repeat (first | (obtain ⟨rfl, _⟩ := h; rfl) | obtain ⟨_, h⟩ := h)) (fun cdv A outer s H vs Q E hr h => ?_)
  refine ⟨_, (pss_one (ps_ret (pe_and (pe_not (C8.pe_mt C_Monoid_is_least hr (by decide) (pv 0) (pa_cons (pv 1) (pa_cons (pv 2) pa_nil)))) (pe_one (pe_or (pe_cmpR op_eq (pv 1) pe_int (nomark _)) (pe_one (C8.pe_mt C_Monoid_is_least hr (by decide) (pv 0) (pa_cons (pe_ix ix_list (C8.pe_mt0 C_Monoid_ends hr (by decide) (pv 0)) (pv 1) (fun _ _ => rfl)) (pa_cons (pv 2) pa_nil))))))))), ?_⟩
  try dsimp only [cxOf, Cx.nox, Cx.wish]
  obtain ⟨a, me, T, m, N, n, j, rfl, O, G, hn, hj, k⟩ := h
  walk_at "go"
  obtain ⟨⟨dx, r, t, l, hx, _⟩, _⟩ := id O
  refine ⟨a, dx, _, rfl, hx, rfl, ?_⟩
  walk_at "go"
  refine ⟨a, me, T, m, N, n, j, rfl, O, G, hn, hj, fun H1 X1 => ?_⟩
  have O1 := O.same X1
  walk_at "go"
  cases hL : least T m N n j with
  | true =>
    walk_at "go"
    have e : rule T m N n j = false := by unfold Mon.rule; rw [hL]; rfl
    have := k _ (ExB.of X1) O1
    rw [e] at this
    exact this
  | false =>
    walk_at "go"
    by_cases h0 : n = 0
    · subst h0
      walk_at "go"
      have e : rule T m N 0 j = true := by unfold Mon.rule; rw [hL]; rfl
      have := k _ (ExB.of X1) O1
      rw [e] at this
      exact this
    · walk_at "go"
      obtain ⟨⟨dx1, r1, t1, l1, hx1, _⟩, _⟩ := id O1
      refine ⟨a, dx1, _, rfl, hx1, rfl, ?_⟩
      walk_at "go"
      refine ⟨a, dx1, _, rfl, hx1, rfl, ?_⟩
      walk_at "go"
      refine ⟨a, me, T, m, N, rfl, O1, G, fun pe H2 X2 O2 hpe => ?_⟩
      walk_at "go"
      have hEl := G.g.E_lt hn
      refine rd_ixL (SqL.of hpe) (at_vI (v := vI (Mon.E T m N n)) (rowV_get (by rw [G.g.elen]; exact hn))) ?_
      walk_at "go"
      refine ⟨a, me, T, m, N, Mon.E T m N n, j, rfl, O2, G, hEl, hj, fun H3 X3 => ?_⟩
      have e : rule T m N n j = least T m N (Mon.E T m N n) j := by unfold Mon.rule; rw [hL, decide_eq_false h0]; rfl
      have := k _ (((ExB.of X1).trans X2).trans (ExB.of X3)) (O2.same X3)
      rw [e] at this
      walk_at "go"
      exact this
end
end My
namespace My
open PySem PySem.Spec L2 SX LamX Mon
open PyProof.Rows hiding St
local macro_rules | `(tactic| walk_at "kb") => `(tactic| first | exact kb_str_str | exact kb_str_int | exact kb_str_bool | exact kb_str_list | exact kb_str_tuple | exact kb_int_str | exact kb_int_int | exact kb_int_bool | exact kb_int_list | exact kb_int_tuple | exact kb_bool_str | exact kb_bool_int | exact kb_bool_bool | exact kb_bool_list | exact kb_bool_tuple | exact kb_list_str | exact kb_list_int | exact kb_list_bool | exact kb_list_list | exact kb_list_tuple | exact kb_tuple_str | exact kb_tuple_int | exact kb_tuple_bool | exact kb_tuple_list | exact kb_tuple_tuple | exact kb_NoneType_str | exact kb_NoneType_int | exact kb_NoneType_bool | exact kb_NoneType_list | exact kb_NoneType_tuple)
local macro_rules | `(tactic| walk_at "hp") => `(tactic| first | assumption | exact upd_same | (refine (upd_ne (by first | assumption | (apply Ne.symm; assumption))).trans ?_; walk_at "hp"))
local macro_rules | `(tactic| walk_at "sq") => `(tactic| first | assumption | exact SqL.of (by walk_at "hp"))
local macro_rules | `(tactic| walk_at "sqt") => `(tactic| first | assumption | exact SqT.of (by walk_at "hp"))
local macro_rules | `(tactic| walk_at "ar") => `(tactic| first | omega | (dsimp only; omega) | (unfold CMul; omega) | (unfold CDiv; omega) | (unfold CPow; refine ⟨?_, ?_, ?_⟩ <;> decide) | (simp only [List.length_cons, List.length_nil]; decide))
local macro_rules | `(tactic| walk_at "rd") => `(tactic| first
  | with_reducible refine rd_seq ?_
  | with_reducible refine rd_asg ?_
  | with_reducible refine rd_if ?_
  | with_reducible refine rd_ret ?_
  | with_reducible refine rd_drop ?_
  | with_reducible refine rd_name ?_
  | with_reducible refine rd_sub ?_
  | ((with_reducible refine' rd_var ?e ?_); (case e => exact rfl))
  | with_reducible refine rd_c ?_
  | with_reducible refine rd_op ?_
  | with_reducible refine rd_un ?_
  | with_reducible refine rd_I0 ?_
  | ((with_reducible refine' rd_I ?c ?_); (case c => walk_at "ar"))
  | with_reducible refine rd_U ?_
  | with_reducible refine rd_eqI ?_
  | with_reducible refine rd_neI ?_
  | with_reducible refine rd_eqS ?_
  | with_reducible refine rd_neS ?_
  | with_reducible refine rd_eqB ?_
  | with_reducible refine rd_neB ?_
  | with_reducible refine rd_test ?_
  | with_reducible refine rd_B ?_
  | with_reducible refine rd_and ?_
  | with_reducible refine rd_or ?_
  | with_reducible refine rd_not ?_
  | with_reducible refine rd_andV ?_
  | with_reducible refine rd_orV ?_
  | with_reducible refine rd_notV ?_
  | with_reducible refine rd_ifE ?_
  | with_reducible refine rd_isN ?_
  | with_reducible refine rd_notN ?_
  | with_reducible refine rd_cons ?_
  | with_reducible refine rd_nil ?_
  | with_reducible refine rd_lst ?_
  | with_reducible refine rd_tup ?_
  | with_reducible refine rd_CB ?_
  | with_reducible refine rd_call ?_
  | with_reducible refine rd_sl ?_
  | with_reducible refine rd_part ?_
  | with_reducible refine rd_nopart ?_
  | with_reducible refine rd_par ?_
  | with_reducible refine rd_two ?_
  | with_reducible refine rd_next ?_
  | with_reducible refine rd_retN ?_
  | with_reducible refine rd_bool ?_
  | with_reducible refine rd_int ?_
  | with_reducible refine rd_intI ?_
  | with_reducible refine rd_intB ?_
  | with_reducible refine rd_ltS ?_
  | with_reducible refine rd_leS ?_
  | with_reducible refine rd_gtS ?_
  | with_reducible refine rd_geS ?_
  | with_reducible refine rd_inC ?_
  | with_reducible refine rd_notInC ?_
  | with_reducible refine rd_abs ?_
  | with_reducible refine rd_max2 ?_
  | with_reducible refine rd_min2 ?_
  | with_reducible refine rd_M1 ?_
  | with_reducible refine rd_isStr ?_
  | ((with_reducible refine' rd_len ?b ?_); (case b => (simp only [List.length_cons, List.length_nil]; decide)))
  | ((with_reducible refine' rd_listS ?b ?_); (case b => first | (simp only [List.length_take, List.length_cons, List.length_nil]; omega) | omega))
  | ((with_reducible refine' rd_isi ?ty ?h ?_); (case ty => first | exact ty_str | exact ty_int | exact ty_bl | exact ty_non | exact ty_lst (by walk_at "hp") | exact ty_tup (by walk_at "hp")); (case h => walk_at "kb"))
  | with_reducible refine rd_lc ?_
  | with_reducible refine rd_for ?_
  | with_reducible refine rd_iList ?_
  | with_reducible refine rd_iTup ?_
  | with_reducible refine rd_iRng1 ?_
  | with_reducible refine rd_iRng2 ?_
  | with_reducible refine rd_iRng3 ?_
  | with_reducible refine rd_iStr ?_
  | with_reducible refine rd_qIs ?_
  | with_reducible refine rd_whb ?_
  | ((with_reducible refine' rd_qIl ?sq ?_); (case sq => walk_at "sq"))
  | ((with_reducible refine' rd_qItu ?sq ?_); (case sq => walk_at "sqt"))
  | ((with_reducible refine' rd_qIr1 ?b1 ?b2 ?_); (case b1 => walk_at "ar"); (case b2 => walk_at "ar"))
  | ((with_reducible refine' rd_qIr2 ?b1 ?b2 ?b3 ?b4 ?_); (case b1 => walk_at "ar"); (case b2 => walk_at "ar"); (case b3 => walk_at "ar"); (case b4 => walk_at "ar"))
  | ((with_reducible refine' rd_qIr3 ?b1 ?b2 ?b3 ?b4 ?_); (case b1 => walk_at "ar"); (case b2 => walk_at "ar"); (case b3 => walk_at "ar"); (case b4 => walk_at "ar"))
  | ((with_reducible refine' rd_mulS ?b1 ?b2 ?b3 ?_); (case b1 => walk_at "ar"); (case b2 => walk_at "ar"); (case b3 => walk_at "ar"))
  | ((with_reducible refine' rd_slS_to ?b1 ?b2 ?_); (case b1 => walk_at "ar"); (case b2 => walk_at "ar"))
  | ((with_reducible refine' rd_slS_from ?b1 ?b2 ?_); (case b1 => walk_at "ar"); (case b2 => walk_at "ar"))
  | ((with_reducible refine' rd_slS_mid ?b1 ?b2 ?b3 ?b4 ?_); (case b1 => walk_at "ar"); (case b2 => walk_at "ar"); (case b3 => walk_at "ar"); (case b4 => walk_at "ar"))
  | ((with_reducible refine' rd_slL ?sq ?_); (case sq => walk_at "sq"))
  | with_reducible refine rd_true ?_
  | with_reducible refine rd_false ?_
  | with_reducible refine rd_nt ?_
  | with_reducible refine rd_nf ?_
  | ((with_reducible refine' rd_decT ?h ?_); (case h => omega))
  | ((with_reducible refine' rd_decF ?h ?_); (case h => omega))
  | ((with_reducible refine' rd_ndecT ?h ?_); (case h => omega))
  | ((with_reducible refine' rd_ndecF ?h ?_); (case h => omega))
  | ((with_reducible refine' rd_evT ?h ?_); (case h => first | exact rfl | (simp; done)))
  | ((with_reducible refine' rd_evF ?h ?_); (case h => first | exact rfl | (simp; done)))
  | ((with_reducible refine' rd_ixL ?sq ?a1 ?_); (case sq => walk_at "sq"); (case a1 => first | exact rfl | exact at_of (by omega) (by assumption)))
  | ((with_reducible refine' rd_ixT ?sq ?a1 ?_); (case sq => walk_at "sqt"); (case a1 => first | exact rfl | exact at_of (by omega) (by assumption)))
  | ((with_reducible refine' rd_lenL ?sq ?_); (case sq => walk_at "sq"))
  | ((with_reducible refine' rd_lenT ?sq ?_); (case sq => walk_at "sqt"))
  | ((with_reducible refine' rd_setL ?h ?j ?_); (case h => walk_at "hp"); (case j => exact rfl); (with_reducible refine id ?_))
  | ((with_reducible refine' rd_strlen ?l ?_); (case l => walk_at "ar"))
  | ((with_reducible refine' rd_cat ?l ?_); (case l => walk_at "ar")))
local macro_rules | `(tactic| walk_at "go") => `(tactic| ((try dsimp only); (repeat (walk_at "rd"))))
local macro_rules | `(tactic| walk_at "rd") => `(tactic| first
  | with_reducible refine rd_lstRg ?_
  | with_reducible refine rd_tRg1 ?_
  | with_reducible refine rd_tRg2 ?_
  | with_reducible refine rd_rg1 ?_
  | with_reducible refine rd_rg2 ?_
  | ((with_reducible refine' rd_qRg ?b ?_); (case b => refine ⟨?_, ?_, ?_, ?_⟩ <;> omega))
  | with_reducible refine rd_sortSet ?_
  | with_reducible refine rd_tDGet ?_
  | with_reducible refine rd_sDPut ?_
  | with_reducible refine rd_dnew ?_
  | with_reducible refine rd_iZipS ?_
  | with_reducible refine rd_zipS ?_
  | ((with_reducible refine' rd_inI ?sq ?_); (case sq => walk_at "sq"))
  | ((with_reducible refine' rd_notInI ?sq ?_); (case sq => walk_at "sq"))
  | with_reducible refine rd_chain ?_)

local macro_rules | `(tactic| walk_at "rd") => `(tactic| first
  | with_reducible refine rd_fld ?_
  | with_reducible refine rd_par3 ?_
  | with_reducible refine rd_sFld ?_
  | with_reducible refine rd_meth ?_
  | with_reducible refine rd_make ?_
  | with_reducible refine rd_iEnT ?_
  | with_reducible refine rd_iEnL ?_
  | with_reducible refine rd_iZipSL ?_
  | with_reducible refine rd_dIn ?_
  | with_reducible refine rd_dNotIn ?_
  | with_reducible refine rd_tDGet ?_
  | with_reducible refine rd_thenT ?_
  | with_reducible refine rd_sortLam ?_
  | with_reducible refine rd_tupRg ?_
  | with_reducible refine rd_bm ?_
  | ((with_reducible refine' rd_kTupT ?sq ?_); (case sq => walk_at "sqt"))
  | ((with_reducible refine' rd_kTupL ?sq ?_); (case sq => walk_at "sq"))
  | with_reducible refine rd_sDPut ?_
  | ((with_reducible refine' rd_enT ?sq ?_); (case sq => walk_at "sqt"))
  | ((with_reducible refine' rd_enL ?sq ?_); (case sq => walk_at "sq"))
  | ((with_reducible refine' rd_zipSL ?sq ?_); (case sq => walk_at "sq")))

section
variable {P : Program} {w : World} {K : PySem.W.Frag} {mg : Str → Option Value} {base : Heap}
/-- the rules found ahead of the pair (n, j) -/
def upR (T : Tab) (m N n j : Nat) : List (List Nat × List Nat) := ((List.range n).flatMap fun n => ((List.range m).filter (Mon.rule T m N n)).map fun l => (W T m N n ++ [97 + l], W T m N (at2 T n l))) ++ ((List.range j).filter (Mon.rule T m N n)).map fun l => (W T m N n ++ [97 + l], W T m N (at2 T n l))
theorem upR_row {T : Tab} {m N n : Nat} : upR T m N n m = upR T m N (n + 1) 0 := by
  unfold upR
  rw [List.range_succ, List.flatMap_append]
  simp
theorem upR_yes {T : Tab} {m N n j : Nat} (h : Mon.rule T m N n j = true) : upR T m N n (j + 1) = upR T m N n j ++ [(W T m N n ++ [97 + j], W T m N (at2 T n j))] := by
  unfold upR
  rw [List.range_succ, List.filter_append, List.map_append, List.append_assoc]
  simp [h]
theorem upR_no {T : Tab} {m N n j : Nat} (h : Mon.rule T m N n j = false) : upR T m N n (j + 1) = upR T m N n j := by
  unfold upR
  rw [List.range_succ, List.filter_append, List.map_append]
  simp [h]
theorem upR_all {T : Tab} {m N : Nat} : upR T m N N 0 = rules T m N := by unfold upR rules; simp
theorem upR_len {T : Tab} {m N n j : Nat} : (upR T m N n j).length ≤ n * m + j := by
  unfold upR
  rw [List.length_append, List.length_map]
  have h1 := flat_len (fun n => ((List.range m).filter (Mon.rule T m N n)).map fun l => (W T m N n ++ [97 + l], W T m N (at2 T n l))) m (List.range n) fun n _ => by
    rw [List.length_map]
    exact Nat.le_trans (List.length_filter_le _ _) (by simp)
  have h2 := List.length_filter_le (Mon.rule T m N n) (List.range j)
  rw [List.length_range] at h1 h2
  omega
theorem rules_small {T : Tab} {m N : Nat} (G : GoodT T m N) : (rules T m N).length ≤ 12000 ∧ ∀ b ∈ rules T m N, b.1.length ≤ 100000 := by
  refine ⟨?_, fun b hb => ?_⟩
  · have h1 := rules_len (T := T) (m := m) (N := N)
    have h2 : N * m ≤ 2000 * 6 := Nat.mul_le_mul G.le G.m6
    omega
  · unfold rules at hb
    obtain ⟨n, hn, hb⟩ := List.mem_flatMap.mp hb
    obtain ⟨l, _, rfl⟩ := List.mem_map.mp hb
    have := G.g.W_len n (List.mem_range.mp hn)
    have := List.mem_range.mp hn
    have := G.le
    simp
    omega
theorem rules_ok {T : Tab} {m N : Nat} (G : GoodT T m N) : OkB (rules T m N) := fun b hb => by
  have m6 := G.m6
  unfold rules at hb
  obtain ⟨n, hn, hb⟩ := List.mem_flatMap.mp hb
  obtain ⟨l, hl, rfl⟩ := List.mem_map.mp hb
  have hn := List.mem_range.mp hn
  have hl := List.mem_range.mp (List.mem_filter.mp hl).1
  have h1 := G.g.Lt_snoc hn hl
  have h2 := G.g.ltW _ (G.g.lt n l hn hl)
  exact ⟨fun c hc => by have := h1 c hc; omega, fun c hc => by have := h2 c hc; omega⟩
theorem ok_Monoid_rules {f : Addr} {fd : FuncData} {z : Zed} {c : Addr} (TB : TabB base mg c z.P_Monoid_rules) (Z : Zok K mg z) (F : FunC K c "rules" "Monoid.rules" s_Monoid_rules f fd) (T : Txt K mg) (C_Monoid_all_words : C8.Met P w K mg base 1 z.C "all_words" (sp_Monoid_all_words z K) []) (C_Monoid_is_rule : C8.Met P w K mg base 2 z.C "is_rule" (sp_Monoid_is_rule z K) []) : FnOk P w K mg base CX0 3 f fd ["self"] (sp_Monoid_rules z K) := by
  refine F.ok sc_Monoid_rules (fun vs H Q E h => by repeat (first | (obtain ⟨rfl, _⟩ := h; rfl) | obtain ⟨_, h⟩ := h)) (fun A outer s H vs Q E hr h => ?_)
  have hu := Z.tab_Monoid_rules
  refine ⟨_, (pss_cons (ps_par (i := 1) (j := 2) rfl sc_Monoid_rules.nd rfl rfl (by decide) rfl rfl (pa_cons (C8.pe_mt0 C_Monoid_all_words hr (by decide) (pv 0)) (pa_cons (pe_lst pa_nil) pa_nil)) (by rfl))
  (pss_cons (ps_for PassesOwn.never rfl (pi_enT rfl T.n_enumerate (pa_cons (pe_fld (pv 0) rfl) pa_nil)) (pg_two (i := 3) (j := 4) K rfl rfl sc_Monoid_rules.nd rfl (Or.inl rfl) rfl (Or.inl rfl))
  (pss_one (ps_for PassesOwn.never rfl (pi_enT rfl T.n_enumerate (pa_cons (pv 4) pa_nil)) (pg_two (i := 5) (j := 6) K rfl rfl sc_Monoid_rules.nd rfl (Or.inl rfl) rfl (Or.inl rfl))
  (pss_one (ps_if (pt_val (C8.pe_mt C_Monoid_is_rule hr (by decide) (pv 0) (pa_cons (pv 3) (pa_cons (pv 5) pa_nil)))) (pss_one (ps_expr (pe_bm PySem.F.plainAttrs_list PySem.F.slot_list_append PySem.F.type_list_append mt_append (pv 2) (pa_cons (pe_tup (pa_cons (pe_op oq_addS (pe_ix ix_list (pv 1) (pv 3) (fun _ _ => rfl)) (pe_ix ix_str (C8.pe_gc rfl T.c_LETTERS) (pv 5) (fun _ _ => rfl))) (pa_cons (pe_ix ix_list (pv 1) (pv 6) (fun _ _ => rfl)) pa_nil))) pa_nil)))) pss_nil)))))
  (pss_one (ps_ret (pe_sortLam TB rfl (by first | exact List.mem_cons_self | exact List.mem_cons_of_mem _ List.mem_cons_self) hu hr rfl T.n_sorted T.n_len ⟨rfl, rfl, rfl, by decide +kernel, rfl, by decide +kernel, by decide +kernel⟩ rfl rfl rfl (by decide +kernel) rfl (fun _ _ _ _ _ => rfl) (pa_cons (pv 2) pa_nil)))))), ?_⟩
  try dsimp only [cxOf, Cx.nox, Cx.wish]
  obtain ⟨a, me, T, m, N, rfl, O, G, TB0, k⟩ := h
  have hle := G.le
  have m6 := G.m6
  have hpos := G.g.pos
  obtain ⟨⟨dx, r, t, l, hx, ⟨as, hp, hl, hr⟩, _, _⟩, hmemo⟩ := id O
  obtain ⟨kvs0, hm⟩ := hmemo.dk
  have hasN : as.length = N := by rw [hl, G.len]
  walk_at "go"
  refine ⟨a, dx, _, rfl, hx, rfl, ?_⟩
  walk_at "go"
  refine ⟨a, me, T, m, N, rfl, O, G, fun pw H1 X1 O1 hpw => ?_⟩
  have T1 := Tabs.exB hm TB0 X1
  walk_at "go"
  intro D nD
  walk_at "go"
  have nDH : H D = none := by
    cases e : H D with
    | none => rfl
    | some o =>
      by_cases hd : D = me
      · rw [hd] at nD
        obtain ⟨kv, e2⟩ := O1.mem.dk
        rw [e2] at nD; cases nD
      · have := X1 _ _ hd e
        rw [nD] at this; cases this
  obtain ⟨kvs1, hm1⟩ := O1.mem.dk
  have hDme : D ≠ me := (ne_of_none hm1 nD).symm
  have hpwD : pw ≠ D := ne_of_none hpw nD
  -- what the loops keep
  let J : List (List Nat × List Nat) → Hp → Prop := fun bs H' => ExM me H H' ∧ Tabs z.TT H' ∧ Ob z H' a me T m N ∧ H' pw = some (.lst (txV (wds (tree T m N)))) ∧ Prs H' D bs
  have Jsame : ∀ bs H' H2, J bs H' → Same H' H2 → J bs H2 := fun bs H' H2 ⟨j1, j2, j3, j4, j5⟩ s => ⟨j1.trans (ExM.ofS s), Tabs.same j2 s, j3.same s, s _ _ j4, j5.kq (Kq.of s)⟩
  have Jr : ∀ bs H', J bs H' → H' r = some (.tup (refs as)) ∧ (∀ (i : Nat) (b : Addr), as[i]? = some b → H' b = some (.tup (rowV (T.getD i [])))) ∧ H' a = some (.ins z.C dx [("right", .ref r), ("tree", .ref t), ("lefts", .ref l), ("memory", .ref me)]) := fun bs H' ⟨j1, _⟩ => by
    have kq := kq_exM hm j1
    exact ⟨kq.2 _ _ hp, fun i b hb => kq.2 _ _ (row_of hl hr hb), j1 _ _ (ne_of hx hm (fun z => nomatch z)) hx (fun ps z => nomatch z)⟩
  have J0 : J [] (L2.upd H1 D (.lst [])) := ⟨(ExM.ofB X1).trans (ExM.ofS (Same.new nD)), Tabs.same T1 (Same.new nD), O1.same (Same.new nD), by rw [upd_ne hpwD]; exact hpw, [], upd_same, rfl, fun i a b e => by simp at e⟩
  have hx1 := (Jr _ _ J0).2.2
  refine rd_qFld Z.cl hx1 Z.n_right rfl ?_
  walk_at "go"
  refine rd_enT (SqT.of (Jr _ _ J0).1) ?_
  refine forP (n := N) (by have := walk_enT (K := K) (a := r) (ys := refs as); rw [refs_len, hasN] at this; exact this) (fun n σ' H' => ∃ v3 v4 v5 v6, σ' = [some (.ref a), some (.ref pw), some (.ref D), v3, v4, v5, v6] ∧ J (upR T m N n 0) H') ⟨_, _, _, _, rfl, J0⟩ (fun i σ' H' _ ⟨_, _, _, _, _, j⟩ => SqT.of (Jr _ _ j).1) ?_ ?_
  · rintro n σ' H2 T1 x y hn ⟨v3, v4, v5, v6, rfl, j2⟩ n1 hxx hy
    obtain ⟨b, hb, rfl⟩ := refs_get hy
    cases hxx
    have j3 := Jsame _ _ _ j2 (Same.new n1 (o := .tup [.int (n : Nat), .ref b]))
    walk_at "go"
    refine rd_enT (SqT.of ((Jr _ _ j3).2.1 n b hb)) ?_
    refine forP (n := m) (by have := walk_enT (K := K) (a := b) (ys := rowV (T.getD n [])); rw [rowV_len, G.g.row n hn] at this; exact this) (fun j σ' H' => ∃ v5 v6, σ' = [some (.ref a), some (.ref pw), some (.ref D), some (.int (n : Nat)), some (.ref b), v5, v6] ∧ J (upR T m N n j) H') ⟨_, _, rfl, j3⟩ (fun i σ' H' _ ⟨_, _, _, j⟩ => SqT.of ((Jr _ _ j).2.1 n b hb)) ?_ ?_
    · rintro j σ' H3 T2 x y hj ⟨v5, v6, rfl, j4⟩ n2 hxx hy
      cases hxx
      rw [rowV_get (by rw [G.g.row n hn]; exact hj)] at hy
      have hy2 : vI (at2 T n j) = y := Option.some.inj hy
      subst hy2
      have hv := G.g.lt n j hn hj
      have j5 := Jsame _ _ _ j4 (Same.new n2 (o := .tup [.int (j : Nat), vI (at2 T n j)]))
      walk_at "go"
      refine ⟨a, dx, _, rfl, (Jr _ _ j5).2.2, rfl, ?_⟩
      walk_at "go"
      refine ⟨a, me, T, m, N, n, j, rfl, j5.2.2.1, G, hn, hj, fun H4 X4 O4 => ?_⟩
      obtain ⟨kvs5, hm5⟩ := j5.2.2.1.mem.dk
      have j6 : J (upR T m N n j) H4 := ⟨j5.1.trans (ExM.ofB X4), Tabs.exB hm5 j5.2.1 X4, O4, (kq_exB hm5 X4).1 _ _ j5.2.2.2.1, j5.2.2.2.2.kq (kq_exB hm5 X4)⟩
      walk_at "go"
      cases hR : Mon.rule T m N n j with
      | false =>
        walk_at "go"
        exact ⟨_, _, rfl, by rw [upR_no hR]; exact j6⟩
      | true =>
        have hWn := G.g.W_len n hn
        obtain ⟨bs, hDl, _⟩ := id j6.2.2.2.2
        walk_at "go"
        refine ⟨tyL hDl, ?_⟩
        walk_at "go"
        refine rd_ixL (SqL.of j6.2.2.2.1) (at_vI (v := .str (S (W T m N n))) (txV_get (by rw [G.g.wlen]; exact hn))) ?_
        walk_at "go"
        refine rd_ixS (by decide) (lett (Nat.lt_of_lt_of_le hj m6)) ?_
        walk_at "go"
        refine rd_cat (by show _ + 1 ≤ 100000; omega) ?_
        walk_at "go"
        refine rd_ixL (SqL.of j6.2.2.2.1) (at_vI (v := .str (S (W T m N (at2 T n j)))) (txV_get (by rw [G.g.wlen]; exact hv))) ?_
        walk_at "go"
        intro q nq
        walk_at "go"
        have j7 := Jsame _ _ _ j6 (Same.new nq (o := .tup [.str (S (W T m N n ++ [97 + j])), .str (S (W T m N (at2 T n j)))]))
        obtain ⟨cs, c1, c2, c3⟩ := prs_snoc (q := q) (b := (W T m N n ++ [97 + j], W T m N (at2 T n j))) (H' := L2.upd (L2.upd H4 q (.tup [.str (S (W T m N n ++ [97 + j])), .str (S (W T m N (at2 T n j)))])) D (.lst (refs bs ++ [.ref q]))) j7.2.2.2.2 (by rw [upd_ne (ne_of_none hDl nq).symm, upd_same]) (fun a' xs h => by
          have hne : a' ≠ D := ne_of h (show (L2.upd H4 q (.tup [.str (S (W T m N n ++ [97 + j])), .str (S (W T m N (at2 T n j)))])) D = some (.lst (refs bs)) by rw [upd_ne (ne_of_none hDl nq)]; exact hDl) (fun z => nomatch z)
          rw [upd_ne hne]; exact h)
        have ecs : refs cs = refs bs := by
          have h9 := c1
          rw [upd_ne (ne_of_none hDl nq), hDl] at h9
          exact (HO.lst.inj (Option.some.inj h9)).symm
        have hlen := upR_len (T := T) (m := m) (N := N) (n := n) (j := j)
        have hnm : n * m ≤ 2000 * 6 := Nat.mul_le_mul (by omega) m6
        refine rd_app (by rw [upd_ne (ne_of_none hDl nq)]; exact hDl) (by rw [← ecs, refs_len, c2]; omega) ?_
        walk_at "go"
        refine ⟨_, _, rfl, ?_⟩
        rw [upR_yes hR]
        have hD7 : (L2.upd H4 q (.tup [.str (S (W T m N n ++ [97 + j])), .str (S (W T m N (at2 T n j)))])) D = some (.lst (refs bs)) := by rw [upd_ne (ne_of_none hDl nq)]; exact hDl
        refine ⟨fun b' o nb e t => ?_, Tabs.updL j7.2.1 hD7, j7.2.2.1.updL G hD7, ?_, c3 (by rw [upd_same, ecs])⟩
        · rw [upd_ne (ne_of_none e nDH)]
          exact j7.1 b' o nb e t
        · rw [upd_ne hpwD]
          exact j7.2.2.2.1
    · rintro σ' H3 ⟨v5, v6, rfl, j4⟩
      exact ⟨_, _, _, _, rfl, by rw [← upR_row]; exact j4⟩
  · rintro σ' H2 ⟨v3, v4, v5, v6, rfl, j2⟩
    rw [upR_all] at j2
    obtain ⟨cs, c1, c2⟩ := prs_pairs (K := K) j2.2.2.2.2
    have sm := rules_small G
    walk_at "go"
    refine ⟨D, refs cs, rules T m N, rfl, SqL.of c1, c2, Nat.le_trans sm.1 (by decide), sm.2, G.g.rules_sorted, j2.2.1, fun p H3 e3 t3 np => ?_⟩
    have O3 := j2.2.2.1.extN e3
    have E3 : ExM me H H3 := j2.1.trans (ExM.ofN e3)
    have P3 : Prs H3 D (rules T m N) := j2.2.2.2.2.kq (kq_extN e3)
    obtain ⟨kvs3, hm3⟩ := O3.mem.dk
    refine k p _ (fun o ho => ?_) (E3.trans (ExM.ofS (Same.new np))) (Tabs.same t3 (Same.new np)) (O3.same (Same.new np)) ?_
    · by_cases hp2 : ∃ ps, o = .tbl ps
      · exact hp2
      · have := E3 p o (ne_of_none hm3 np).symm ho (fun ps e => hp2 ⟨ps, e⟩)
        rw [np] at this
        cases this
    · obtain ⟨ds, d1, d2, d3⟩ := P3
      have e5 : refs ds = refs cs := by
        have h9 := (kq_extN e3).1 _ _ c1
        rw [d1] at h9
        exact HO.lst.inj (Option.some.inj h9)
      refine ⟨ds, by rw [upd_same, e5], d2, fun i b q q1 q2 => ?_⟩
      have := d3 i b q q1 q2
      rw [upd_ne (ne_of_none this np)]
      exact this
end
end My
namespace My
open PySem PySem.Spec L2 SX LamX Mon
open PyProof.Rows hiding St
local macro_rules | `(tactic| walk_at "kb") => `(tactic| first | exact kb_str_str | exact kb_str_int | exact kb_str_bool | exact kb_str_list | exact kb_str_tuple | exact kb_int_str | exact kb_int_int | exact kb_int_bool | exact kb_int_list | exact kb_int_tuple | exact kb_bool_str | exact kb_bool_int | exact kb_bool_bool | exact kb_bool_list | exact kb_bool_tuple | exact kb_list_str | exact kb_list_int | exact kb_list_bool | exact kb_list_list | exact kb_list_tuple | exact kb_tuple_str | exact kb_tuple_int | exact kb_tuple_bool | exact kb_tuple_list | exact kb_tuple_tuple | exact kb_NoneType_str | exact kb_NoneType_int | exact kb_NoneType_bool | exact kb_NoneType_list | exact kb_NoneType_tuple)
local macro_rules | `(tactic| walk_at "hp") => `(tactic| first | assumption | exact upd_same | (refine (upd_ne (by first | assumption | (apply Ne.symm; assumption))).trans ?_; walk_at "hp"))
local macro_rules | `(tactic| walk_at "sq") => `(tactic| first | assumption | exact SqL.of (by walk_at "hp"))
local macro_rules | `(tactic| walk_at "sqt") => `(tactic| first | assumption | exact SqT.of (by walk_at "hp"))
local macro_rules | `(tactic| walk_at "ar") => `(tactic| first | omega | (dsimp only; omega) | (unfold CMul; omega) | (unfold CDiv; omega) | (unfold CPow; refine ⟨?_, ?_, ?_⟩ <;> decide) | (simp only [List.length_cons, List.length_nil]; decide))
local macro_rules | `(tactic| walk_at "rd") => `(tactic| first
  | with_reducible refine rd_seq ?_
  | with_reducible refine rd_asg ?_
  | with_reducible refine rd_if ?_
  | with_reducible refine rd_ret ?_
  | with_reducible refine rd_drop ?_
  | with_reducible refine rd_name ?_
  | with_reducible refine rd_sub ?_
  | ((with_reducible refine' rd_var ?e ?_); (case e => exact rfl))
  | with_reducible refine rd_c ?_
  | with_reducible refine rd_op ?_
  | with_reducible refine rd_un ?_
  | with_reducible refine rd_I0 ?_
  | ((with_reducible refine' rd_I ?c ?_); (case c => walk_at "ar"))
  | with_reducible refine rd_U ?_
  | with_reducible refine rd_eqI ?_
  | with_reducible refine rd_neI ?_
  | with_reducible refine rd_eqS ?_
  | with_reducible refine rd_neS ?_
  | with_reducible refine rd_eqB ?_
  | with_reducible refine rd_neB ?_
  | with_reducible refine rd_test ?_
  | with_reducible refine rd_B ?_
  | with_reducible refine rd_and ?_
  | with_reducible refine rd_or ?_
  | with_reducible refine rd_not ?_
  | with_reducible refine rd_andV ?_
  | with_reducible refine rd_orV ?_
  | with_reducible refine rd_notV ?_
  | with_reducible refine rd_ifE ?_
  | with_reducible refine rd_isN ?_
  | with_reducible refine rd_notN ?_
  | with_reducible refine rd_cons ?_
  | with_reducible refine rd_nil ?_
  | with_reducible refine rd_lst ?_
  | with_reducible refine rd_tup ?_
  | with_reducible refine rd_CB ?_
  | with_reducible refine rd_call ?_
  | with_reducible refine rd_sl ?_
  | with_reducible refine rd_part ?_
  | with_reducible refine rd_nopart ?_
  | with_reducible refine rd_par ?_
  | with_reducible refine rd_two ?_
  | with_reducible refine rd_next ?_
  | with_reducible refine rd_retN ?_
  | with_reducible refine rd_bool ?_
  | with_reducible refine rd_int ?_
  | with_reducible refine rd_intI ?_
  | with_reducible refine rd_intB ?_
  | with_reducible refine rd_ltS ?_
  | with_reducible refine rd_leS ?_
  | with_reducible refine rd_gtS ?_
  | with_reducible refine rd_geS ?_
  | with_reducible refine rd_inC ?_
  | with_reducible refine rd_notInC ?_
  | with_reducible refine rd_abs ?_
  | with_reducible refine rd_max2 ?_
  | with_reducible refine rd_min2 ?_
  | with_reducible refine rd_M1 ?_
  | with_reducible refine rd_isStr ?_
  | ((with_reducible refine' rd_len ?b ?_); (case b => (simp only [List.length_cons, List.length_nil]; decide)))
  | ((with_reducible refine' rd_listS ?b ?_); (case b => first | (simp only [List.length_take, List.length_cons, List.length_nil]; omega) | omega))
  | ((with_reducible refine' rd_isi ?ty ?h ?_); (case ty => first | exact ty_str | exact ty_int | exact ty_bl | exact ty_non | exact ty_lst (by walk_at "hp") | exact ty_tup (by walk_at "hp")); (case h => walk_at "kb"))
  | with_reducible refine rd_lc ?_
  | with_reducible refine rd_for ?_
  | with_reducible refine rd_iList ?_
  | with_reducible refine rd_iTup ?_
  | with_reducible refine rd_iRng1 ?_
  | with_reducible refine rd_iRng2 ?_
  | with_reducible refine rd_iRng3 ?_
  | with_reducible refine rd_iStr ?_
  | with_reducible refine rd_qIs ?_
  | with_reducible refine rd_whb ?_
  | ((with_reducible refine' rd_qIl ?sq ?_); (case sq => walk_at "sq"))
  | ((with_reducible refine' rd_qItu ?sq ?_); (case sq => walk_at "sqt"))
  | ((with_reducible refine' rd_qIr1 ?b1 ?b2 ?_); (case b1 => walk_at "ar"); (case b2 => walk_at "ar"))
  | ((with_reducible refine' rd_qIr2 ?b1 ?b2 ?b3 ?b4 ?_); (case b1 => walk_at "ar"); (case b2 => walk_at "ar"); (case b3 => walk_at "ar"); (case b4 => walk_at "ar"))
  | ((with_reducible refine' rd_qIr3 ?b1 ?b2 ?b3 ?b4 ?_); (case b1 => walk_at "ar"); (case b2 => walk_at "ar"); (case b3 => walk_at "ar"); (case b4 => walk_at "ar"))
  | ((with_reducible refine' rd_mulS ?b1 ?b2 ?b3 ?_); (case b1 => walk_at "ar"); (case b2 => walk_at "ar"); (case b3 => walk_at "ar"))
  | ((with_reducible refine' rd_slS_to ?b1 ?b2 ?_); (case b1 => walk_at "ar"); (case b2 => walk_at "ar"))
  | ((with_reducible refine' rd_slS_from ?b1 ?b2 ?_); (case b1 => walk_at "ar"); (case b2 => walk_at "ar"))
  | ((with_reducible refine' rd_slS_mid ?b1 ?b2 ?b3 ?b4 ?_); (case b1 => walk_at "ar"); (case b2 => walk_at "ar"); (case b3 => walk_at "ar"); (case b4 => walk_at "ar"))
  | ((with_reducible refine' rd_slL ?sq ?_); (case sq => walk_at "sq"))
  | with_reducible refine rd_true ?_
  | with_reducible refine rd_false ?_
  | with_reducible refine rd_nt ?_
  | with_reducible refine rd_nf ?_
  | ((with_reducible refine' rd_decT ?h ?_); (case h => omega))
  | ((with_reducible refine' rd_decF ?h ?_); (case h => omega))
  | ((with_reducible refine' rd_ndecT ?h ?_); (case h => omega))
  | ((with_reducible refine' rd_ndecF ?h ?_); (case h => omega))
  | ((with_reducible refine' rd_evT ?h ?_); (case h => first | exact rfl | (simp; done)))
  | ((with_reducible refine' rd_evF ?h ?_); (case h => first | exact rfl | (simp; done)))
  | ((with_reducible refine' rd_ixL ?sq ?a1 ?_); (case sq => walk_at "sq"); (case a1 => first | exact rfl | exact at_of (by omega) (by assumption)))
  | ((with_reducible refine' rd_ixT ?sq ?a1 ?_); (case sq => walk_at "sqt"); (case a1 => first | exact rfl | exact at_of (by omega) (by assumption)))
  | ((with_reducible refine' rd_lenL ?sq ?_); (case sq => walk_at "sq"))
  | ((with_reducible refine' rd_lenT ?sq ?_); (case sq => walk_at "sqt"))
  | ((with_reducible refine' rd_setL ?h ?j ?_); (case h => walk_at "hp"); (case j => exact rfl); (with_reducible refine id ?_))
  | ((with_reducible refine' rd_strlen ?l ?_); (case l => walk_at "ar"))
  | ((with_reducible refine' rd_cat ?l ?_); (case l => walk_at "ar")))
local macro_rules | `(tactic| walk_at "go") => `(tactic| ((try dsimp only); (repeat (walk_at "rd"))))
local macro_rules | `(tactic| walk_at "rd") => `(tactic| first
  | with_reducible refine rd_lstRg ?_
  | with_reducible refine rd_tRg1 ?_
  | with_reducible refine rd_tRg2 ?_
  | with_reducible refine rd_rg1 ?_
  | with_reducible refine rd_rg2 ?_
  | ((with_reducible refine' rd_qRg ?b ?_); (case b => refine ⟨?_, ?_, ?_, ?_⟩ <;> omega))
  | with_reducible refine rd_sortSet ?_
  | with_reducible refine rd_tDGet ?_
  | with_reducible refine rd_sDPut ?_
  | with_reducible refine rd_dnew ?_
  | with_reducible refine rd_iZipS ?_
  | with_reducible refine rd_zipS ?_
  | ((with_reducible refine' rd_inI ?sq ?_); (case sq => walk_at "sq"))
  | ((with_reducible refine' rd_notInI ?sq ?_); (case sq => walk_at "sq"))
  | with_reducible refine rd_chain ?_)

local macro_rules | `(tactic| walk_at "rd") => `(tactic| first
  | with_reducible refine rd_fld ?_
  | with_reducible refine rd_par3 ?_
  | with_reducible refine rd_sFld ?_
  | with_reducible refine rd_meth ?_
  | with_reducible refine rd_make ?_
  | with_reducible refine rd_iEnT ?_
  | with_reducible refine rd_iEnL ?_
  | with_reducible refine rd_iZipSL ?_
  | with_reducible refine rd_dIn ?_
  | with_reducible refine rd_dNotIn ?_
  | with_reducible refine rd_tDGet ?_
  | with_reducible refine rd_thenT ?_
  | with_reducible refine rd_sortLam ?_
  | with_reducible refine rd_tupRg ?_
  | with_reducible refine rd_bm ?_
  | ((with_reducible refine' rd_kTupT ?sq ?_); (case sq => walk_at "sqt"))
  | ((with_reducible refine' rd_kTupL ?sq ?_); (case sq => walk_at "sq"))
  | with_reducible refine rd_sDPut ?_
  | ((with_reducible refine' rd_enT ?sq ?_); (case sq => walk_at "sqt"))
  | ((with_reducible refine' rd_enL ?sq ?_); (case sq => walk_at "sq"))
  | ((with_reducible refine' rd_zipSL ?sq ?_); (case sq => walk_at "sq")))

section
variable {P : Program} {w : World} {K : PySem.W.Frag} {mg : Str → Option Value} {base : Heap}
theorem ok__law_source {f : Addr} {fd : FuncData} (F : Fun K "_law_source" "_law_source" s__law_source f fd) (T : Txt K mg) : FnOk P w K mg base CX0 1 f fd ["cell"] (sp__law_source K) := by
  refine F.ok sc__law_source (fun vs H Q E h => by repeat (first | (obtain ⟨rfl, _⟩ := h; rfl) | obtain ⟨_, h⟩ := h)) (fun cdv A outer s H vs Q E hr h => ?_)
  refine ⟨_, (pss_cons (ps_set (i := 0) sc__law_source.nd rfl (Or.inl rfl) (pe_callB cq_abs rfl T.n_abs boot_abs (pa_cons (pv 0) pa_nil)))
  (pss_one (ps_ret (pe_lst (pa_cons (pe_op op_mul (pv 0) (pe_callTy cq_int rfl T.n_int boot_int (pa_cons (pe_cmpR op_ge (pv 0) (pe_op op_pow pe_int pe_int) (nomark _)) pa_nil))) (pa_cons (pe_op op_mod (pe_callTy cq_int rfl T.n_int boot_int (pa_cons (pv 0) pa_nil)) pe_int) (pa_cons pe_int pa_nil))))))), ?_⟩
  try dsimp only [cxOf, Cx.nox, Cx.wish]
  obtain ⟨i, rfl, k⟩ := h
  walk_at "go"
  intro p np
  exact k p _ np (Same.new np) ⟨_, _, _, upd_same, Int.mul_nonneg (by split <;> omega) (by split <;> omega)⟩
theorem ok__law_draw {f : Addr} {fd : FuncData} (F : Fun K "_law_draw" "_law_draw" s__law_draw f fd) (T : Txt K mg) : FnOk P w K mg base CX0 1 f fd ["source", "many"] (sp__law_draw K) := by
  refine F.ok sc__law_draw (fun vs H Q E h => by repeat (first | (obtain ⟨rfl, _⟩ := h; rfl) | obtain ⟨_, h⟩ := h)) (fun cdv A outer s H vs Q E hr h => ?_)
  refine ⟨_, (pss_cons (ps_if (pt_cmpR op_gt (pe_ix ix_list (pv 0) pe_int (fun _ _ => rfl)) pe_int (nomark _)) (pss_cons (ps_set (i := 2) sc__law_draw.nd rfl (Or.inl rfl) (pe_op op_mod (pe_callTy cq_int rfl T.n_int boot_int (pa_cons (pe_ix ix_list (pv 0) pe_int (fun _ _ => rfl)) pa_nil)) (pv 1)))
  (pss_cons (ps_asg (pe_op op_fdiv (pe_ix ix_list (pv 0) pe_int (fun _ _ => rfl)) (pv 1)) (pg_sub (pv 0) pe_int set_list))
  (pss_one (ps_ret (pv 2))))) pss_nil)
  (pss_cons (ps_asg (pe_op op_add (pe_ix ix_list (pv 0) pe_int (fun _ _ => rfl)) pe_int) (pg_sub (pv 0) pe_int set_list))
  (pss_cons (ps_set (i := 3) sc__law_draw.nd rfl (Or.inl rfl) (pe_op op_mod (pe_callTy cq_int rfl T.n_int boot_int (pa_cons (pe_op op_mul (pe_op op_add (pe_op op_add (pe_ix ix_list (pv 0) pe_int (fun _ _ => rfl)) (pe_op op_mul pe_int (pe_ix ix_list (pv 0) pe_int (fun _ _ => rfl)))) pe_int) pe_int) pa_nil)) pe_int))
  (pss_cons (ps_set (i := 3) sc__law_draw.nd rfl (Or.inl rfl) (pe_op op_mod (pe_callTy cq_int rfl T.n_int boot_int (pa_cons (pe_op op_mul (pv 3) (pe_op op_add (pe_op op_fdiv (pv 3) pe_int) pe_int)) pa_nil)) pe_int))
  (pss_one (ps_ret (pe_op op_mod (pe_callTy cq_int rfl T.n_int boot_int (pa_cons (pe_op op_fdiv (pe_op op_mod (pe_callTy cq_int rfl T.n_int boot_int (pa_cons (pe_op op_mul (pv 3) (pe_op op_add (pe_op op_fdiv (pv 3) pe_int) pe_int)) pa_nil)) pe_int) pe_int) pa_nil)) (pv 1)))))))), ?_⟩
  try dsimp only [cxOf, Cx.nox, Cx.wish]
  obtain ⟨p, n, rfl, ⟨a, b, c, hp, ha⟩, hn, hn2, k⟩ := h
  walk_at "go"
  refine rd_dec (fun h1 => ?_) (fun h1 => ?_)
  · walk_at "go"
    refine k _ _ (Int.emod_nonneg _ (by omega)) (Int.emod_lt_of_pos _ hn) ⟨_, _, _, upd_same, Int.ediv_nonneg ha (by omega)⟩ ExB.upd
  · walk_at "go"
    exact k _ _ (Int.emod_nonneg _ (by omega)) (Int.emod_lt_of_pos _ hn) ⟨a, b, c + 1, upd_same, ha⟩ ExB.upd
theorem Src.ne {H : Hp} {p q : Addr} (s : Src H p) (n : H q = none) : q ≠ p := by
  obtain ⟨a, b, c, h, _⟩ := s
  exact (ne_of_none h n).symm
theorem Src.new {H : Hp} {p q : Addr} {o : HO} (s : Src H p) (n : H q = none) : Src (L2.upd H q o) p := by
  obtain ⟨a, b, c, h, h2⟩ := s
  exact ⟨a, b, c, by rw [upd_ne (ne_of_none h n)]; exact h, h2⟩
theorem Src.upd {H : Hp} {p q : Addr} {o : HO} (s : Src H p) (n : q ≠ p) : Src (L2.upd H q o) p := by
  obtain ⟨a, b, c, h, h2⟩ := s
  exact ⟨a, b, c, by rw [upd_ne n.symm]; exact h, h2⟩
theorem _root_.My.ExB.back2 {h D : Addr} {H H' : Hp} (e : ExB h H H') (n : H' D = none) (hD : D ≠ h) : H D = none := by
  cases q : H D with
  | none => rfl
  | some o => rw [e _ _ hD q] at n; cases n
theorem ok__law_maps {f : Addr} {fd : FuncData} (F : Fun K "_law_maps" "_law_maps" s__law_maps f fd) (T : Txt K mg) (C__law_draw : Cal P w K mg base 1 "_law_draw" (sp__law_draw K)) : FnOk P w K mg base CX0 2 f fd ["source", "most_points", "most_letters"] (sp__law_maps K) := by
  refine F.ok sc__law_maps (fun vs H Q E h => by repeat (first | (obtain ⟨rfl, _⟩ := h; rfl) | obtain ⟨_, h⟩ := h)) (fun cdv A outer s H vs Q E hr h => ?_)
  refine ⟨_, (pss_cons (ps_asg (pe_tup (pa_cons (pe_op op_add pe_int (pe_c C__law_draw hr (by decide) rfl (pa_cons (pv 0) (pa_cons (pv 1) pa_nil)))) (pa_cons (pe_op op_add pe_int (pe_c C__law_draw hr (by decide) rfl (pa_cons (pv 0) (pa_cons (pv 2) pa_nil)))) pa_nil))) (pg_two (i := 3) (j := 4) K rfl rfl sc__law_maps.nd rfl (Or.inr rfl) rfl (Or.inl rfl)))
  (pss_one (ps_ret (pe_lc (own := [("turn", 5)]) rfl sc__law_maps.nd (pi_range1 rfl T.n_range (pa_cons (pv 4) pa_nil)) (blkOk_by (N := N__law_maps) (sc := defScope s__law_maps) (by decide +kernel)) (fun _ _ _ _ _ => (pg_name (i := 5) sc__law_maps.nd rfl (Or.inl rfl))) (fun _ _ _ _ _ => pts_nil) (fun _ _ _ _ _ => (pe_tupleOfK K rfl rfl T.n_tuple (pe_lc (own := [("point", 6)]) rfl sc__law_maps.nd (pi_range1 rfl T.n_range (pa_cons (pv 3) pa_nil)) (blkOk_by (N := N__law_maps)  (by kernel_rfl)) (fun _ _ _ _ _ => (pg_name (i := 6) sc__law_maps.nd rfl (Or.inl rfl))) (fun _ _ _ _ _ => pts_nil) (fun _ _ _ _ _ => (pe_c C__law_draw hr (by decide) rfl (pa_cons (pv 0) (pa_cons (pv 3) pa_nil))))))))))), ?_⟩
  try dsimp only [cxOf, Cx.nox, Cx.wish]
  obtain ⟨p, a, b, rfl, S0, ha1, ha4, hb1, hb6, k⟩ := h
  walk_at "go"
  refine ⟨p, a, rfl, S0, by omega, by omega, fun d1 H1 h0 h1 S1 X1 => ?_⟩
  walk_at "go"
  refine ⟨p, b, rfl, S1, by omega, by omega, fun d2 H2 g0 g1 S2 X2 => ?_⟩
  walk_at "go"
  obtain ⟨sz, hsz⟩ : ∃ sz : Nat, 1 + d1 = (sz : Int) := ⟨(1 + d1).toNat, by omega⟩
  obtain ⟨m, hm⟩ : ∃ m : Nat, 1 + d2 = (m : Int) := ⟨(1 + d2).toNat, by omega⟩
  rw [hsz, hm]
  intro p1 np1
  refine rd_g2 (SqT.of upd_same) ?_
  have S2 := S2.new np1 (o := .tup [.int (sz : Nat), .int (m : Nat)])
  have X12 := (X1.trans X2).trans (ExB.new (h := p) (o := .tup [.int (sz : Nat), .int (m : Nat)]) np1)
  walk_at "go"
  refine lcR_inv (fun D i acc H' => Src H' p ∧ ExB p H H' ∧ D ≠ p ∧ ∃ (as : List Addr) (rows : Tab), acc = refs as ∧ as.length = rows.length ∧ (∀ r ∈ rows, IsMap sz r) ∧ ∀ (j : Nat) (a : Addr) (r : List Nat), as[j]? = some a → rows[j]? = some r → H' a = some (.tup (rowV r))) (by omega) (fun _ => rfl) ?_ ?_ ?_
  · intro D nD
    exact ⟨S2.new nD, X12.trans (ExB.new nD), S2.ne nD, [], [], rfl, rfl, by simp, by simp⟩
  · rintro D i acc H3 Q3 hi nD hacc ⟨S3, X3, hDp, as, rows, rfl, hl, hmaps, hrows⟩ hD kk
    walk_at "go"
    refine lcR_inv (fun D2 i2 acc2 H' => Src H' p ∧ ExB p H3 H' ∧ D2 ≠ p ∧ ∃ ns : List Nat, acc2 = rowV ns ∧ ∀ x ∈ ns, x < sz) (by omega) (fun _ => rfl) ?_ ?_ ?_
    · intro D2 nD2
      exact ⟨S3.new nD2, ExB.new nD2, S3.ne nD2, [], rfl, by simp⟩
    · rintro D2 i2 acc2 H4 Q4 hi2 nD2 hacc2 ⟨S4, X4, hD2p, ns, rfl, hns⟩ hD2 kk2
      walk_at "go"
      refine ⟨p, sz, rfl, S4, by omega, by omega, fun d H5 h0 h1 S5 X5 => ?_⟩
      obtain ⟨x, rfl⟩ : ∃ x : Nat, d = (x : Int) := ⟨d.toNat, by omega⟩
      refine kk2 _ _ (X5 _ _ hD2p hD2) ⟨S5.upd hD2p, ExB.mut (X4.trans X5) nD2, hD2p, ns ++ [x], by unfold rowV; rw [List.map_append]; rfl, fun y hy => ?_⟩
      · rcases List.mem_append.mp hy with hy | hy
        · exact hns y hy
        · rw [List.mem_singleton.mp hy]; omega
    · rintro D2 acc2 H4 nD2 hacc2 ⟨S4, X4, hD2p, ns, rfl, hns⟩ hD2
      rw [rowV_len] at hacc2
      walk_at "go"
      intro r nr
      have hD4 := X4 _ _ hDp hD
      refine kk _ _ (by rw [upd_ne (ne_of_none hD4 nr)]; exact hD4) ⟨(S4.new nr).upd hDp, ?_, hDp, as ++ [r], rows ++ [ns], by unfold refs; rw [List.map_append]; rfl, by simp [hl], fun r' hr' => ?_, ?_⟩
      · exact ExB.mut ((X3.trans X4).trans (ExB.new nr)) (X12.back2 nD hDp)
      · rcases List.mem_append.mp hr' with h | h
        · exact hmaps _ h
        · rw [List.mem_singleton.mp h]; exact ⟨by omega, hns⟩
      · have hDr : r ≠ D := (ne_of_none hD4 nr).symm
        refine (tb_snoc (b2 := true) (H := H3) (D := D) hl hrows (fun b hb h0 => ?_) (by rw [upd_ne hDr, upd_same]; rfl)).2
        obtain ⟨jj, hjj⟩ := List.mem_iff_getElem?.mp hb
        have h9 := hrows jj b _ hjj (get_getD [] (by rw [← hl]; exact (List.getElem?_eq_some_iff.mp hjj).1))
        obtain ⟨_, _, _, hsp, _⟩ := S3
        have h10 := X4 _ _ (ne_of h9 hsp (fun z => nomatch z)) h9
        rw [upd_ne (ne_of h9 hD (fun z => nomatch z)), upd_ne (ne_of_none h10 nr), h9]
        exact h10
  · rintro D acc H3 nD hacc ⟨S3, X3, hDp, as, rows, rfl, hl, hmaps, hrows⟩ hD
    walk_at "go"
    rw [refs_len] at hacc
    have nDH : H D = none := X12.back2 nD hDp
    refine k D rows sz H3 nDH hDp ⟨by omega, by omega, by omega, by omega, hmaps⟩ S3 ⟨as, hD, hl, hrows⟩ X3
/-- rows at their places -/
def RI (H : Hp) (as : List Addr) (rows : Tab) : Prop := as.length = rows.length ∧ ∀ (i : Nat) (a : Addr) (r : List Nat), as[i]? = some a → rows[i]? = some r → H a = some (.tup (rowV r))
theorem RI.keep {H H' : Hp} {as : List Addr} {rows : Tab} (h : RI H as rows) (k : ∀ a xs, H a = some (.tup xs) → H' a = some (.tup xs)) : RI H' as rows := ⟨h.1, fun i a r e1 e2 => k _ _ (h.2 i a r e1 e2)⟩
theorem RI.one {H : Hp} {a : Addr} {r : List Nat} (h : H a = some (.tup (rowV r))) : RI H [a] [r] := ⟨rfl, fun i b s e1 e2 => by
  have : i = 0 := by have := (List.getElem?_eq_some_iff.mp e1).1; simp at this; omega
  subst this
  cases e1
  cases e2
  exact h⟩
theorem RI.app {H : Hp} {as bs : List Addr} {rows r2 : Tab} (h : RI H as rows) (g : RI H bs r2) : RI H (as ++ bs) (rows ++ r2) := by
  refine ⟨by simp [h.1, g.1], fun i a r e1 e2 => ?_⟩
  have hl := h.1
  by_cases hi : i < as.length
  · rw [List.getElem?_append_left hi] at e1
    rw [List.getElem?_append_left (by omega)] at e2
    exact h.2 i a r e1 e2
  · rw [List.getElem?_append_right (by omega)] at e1 e2
    rw [← hl] at e2
    exact g.2 _ a r e1 e2
theorem RI.take {H : Hp} {as : List Addr} {rows : Tab} (n : Nat) (h : RI H as rows) : RI H (as.take n) (rows.take n) := by
  refine ⟨by simp [h.1], fun i a r e1 e2 => ?_⟩
  rw [List.getElem?_take] at e1 e2
  split at e1
  · rename_i hi
    rw [if_pos hi] at e2
    exact h.2 i a r e1 e2
  · cases e1
theorem RI.drop {H : Hp} {as : List Addr} {rows : Tab} (n : Nat) (h : RI H as rows) : RI H (as.drop n) (rows.drop n) := by
  refine ⟨by simp [h.1], fun i a r e1 e2 => ?_⟩
  rw [List.getElem?_drop] at e1 e2
  exact h.2 _ a r e1 e2
theorem cutV_fromN {xs : List V} {n : Nat} (hn : n ≤ xs.length) : cutV xs (some ((n : Nat) : Int)) none = xs.drop n := by
  have e : cutV xs (some ((n : Nat) : Int)) none = (xs.drop (min n xs.length)).take (xs.length - min n xs.length) := by
    unfold cutV
    rw [HT.sIx_nat]
    first | rfl | simp [HT.sIx_none]
  rw [e, Nat.min_eq_left hn]
  exact List.take_of_length_le (by simp)
theorem ok__law_mixed {f : Addr} {fd : FuncData} (F : Fun K "_law_mixed" "_law_mixed" s__law_mixed f fd) (T : Txt K mg) (C__law_draw : Cal P w K mg base 1 "_law_draw" (sp__law_draw K)) : FnOk P w K mg base CX0 2 f fd ["source", "rows"] (sp__law_mixed K) := by
  refine F.ok sc__law_mixed (fun vs H Q E h => by repeat (first | (obtain ⟨rfl, _⟩ := h; rfl) | obtain ⟨_, h⟩ := h)) (fun cdv A outer s H vs Q E hr h => ?_)
  refine ⟨_, (pss_cons (ps_par (i := 2) (j := 3) rfl sc__law_mixed.nd rfl rfl (by decide) rfl rfl (pa_cons (pe_c C__law_draw hr (by decide) rfl (pa_cons (pv 0) (pa_cons pe_int pa_nil))) (pa_cons (pe_c C__law_draw hr (by decide) rfl (pa_cons (pv 0) (pa_cons (pe_callB cq_len rfl T.n_len boot_len (pa_cons (pv 1) pa_nil)) pa_nil))) pa_nil)) (by rfl))
  (pss_cons (ps_if (PW.pt (pw_and (pt_cmpR op_eq (pv 2) pe_int (nomark _)) (pw_and1 (pt_cmpR op_lt (pe_callB cq_len rfl T.n_len boot_len (pa_cons (pv 1) pa_nil)) pe_int (nomark _))))) (pss_one (ps_ret (pe_op op_cat (pv 1) (pe_lst (pa_cons (pe_ix ix_list (pv 1) (pv 3) (fun _ _ => rfl)) pa_nil))))) pss_nil)
  (pss_cons (ps_if (PW.pt (pw_and (pt_cmpR op_eq (pv 2) pe_int (nomark _)) (pw_and1 (pt_cmpR op_lt (pe_callB cq_len rfl T.n_len boot_len (pa_cons (pv 1) pa_nil)) pe_int (nomark _))))) (pss_one (ps_ret (pe_op op_cat (pe_op op_cat (pe_slice sl_list (pv 1) po_none (po_some (pv 3))) (pe_lst (pa_cons (pe_tupRg rfl rfl T.n_tuple (prg_1 rfl T.n_range (pe_callB cq_len rfl T.n_len boot_len (pa_cons (pe_ix ix_list (pv 1) pe_int (fun _ _ => rfl)) pa_nil)))) pa_nil))) (pe_slice sl_list (pv 1) (po_some (pv 3)) po_none)))) pss_nil)
  (pss_one (ps_ret (pv 1)))))), ?_⟩
  try dsimp only [cxOf, Cx.nox, Cx.wish]
  obtain ⟨p, q, rows, sz, rfl, S0, ⟨as, hq, hl, hr⟩, hqp, M, k⟩ := h
  have r1 := M.r1
  have r6 := M.r6
  have has : (refs as).length = rows.length := by rw [refs_len, hl]
  walk_at "go"
  refine ⟨p, 4, rfl, S0, by omega, by omega, fun d1 H1 h0 h1 S1 X1 => ?_⟩
  have hq1 := X1 _ _ hqp hq
  walk_at "go"
  rw [has]
  walk_at "go"
  refine ⟨p, rows.length, rfl, S1, by omega, by omega, fun d2 H2 g0 g1 S2 X2 => ?_⟩
  obtain ⟨at_, rfl⟩ : ∃ x : Nat, d2 = (x : Int) := ⟨d2.toNat, by omega⟩
  have hq2 := X2 _ _ hqp hq1
  have X12 := X1.trans X2
  have hat : at_ < as.length := by omega
  have hrow2 : ∀ (i : Nat) (b : Addr) (r : List Nat), as[i]? = some b → rows[i]? = some r → H2 b = some (.tup (rowV r)) := fun i b r e1 e2 => by
    have h9 := hr i b r e1 e2
    obtain ⟨_, _, _, hsp, _⟩ := S0
    exact X12 _ _ (ne_of h9 hsp (fun z => nomatch z)) h9
  have R2 : RI H2 as rows := ⟨hl, hrow2⟩
  obtain ⟨aa, haa⟩ : ∃ a, as[at_]? = some a := ⟨_, List.getElem?_eq_getElem hat⟩
  have hra := hrow2 at_ aa (rows.getD at_ []) haa (get_getD [] (by omega))
  have hin : rows.getD at_ [] ∈ rows := getD_mem (by omega)
  have back : Q (.ref q) H2 := k q rows H2 hqp M S2 ⟨as, hq2, hl, hrow2⟩ X12
  have fin : ∀ (q' : Addr) (H' : Hp) (as' : List Addr) (rows' : Tab), q' ≠ p → 1 ≤ rows'.length → rows'.length ≤ 6 → (∀ r ∈ rows', IsMap sz r) → Src H' p → H' q' = some (.lst (refs as')) → RI H' as' rows' → ExB p H H' → Q (.ref q') H' := fun q' H' as' rows' h1 h2 h3 h4 h5 h6 h7 h8 => k q' rows' H' h1 ⟨M.s1, M.s4, h2, h3, h4⟩ h5 ⟨as', h6, h7.1, h7.2⟩ h8
  walk_at "go"
  refine rd_dec (fun c1 => ?_) (fun c1 => ?_)
  · walk_at "go"
    try rw [has]
    refine rd_dec (fun c2 => ?_) (fun c2 => ?_)
    · walk_at "go"
      refine rd_ixL (SqL.of hq2) (at_vI (getElem?_refs haa)) ?_
      walk_at "go"
      intro p1 n1
      refine rd_catL (by rw [upd_ne (ne_of_none hq2 n1)]; exact hq2) upd_same (by simp [refs]; omega) fun p2 n2 => ?_
      have s1 : Same H2 (L2.upd H2 p1 (.lst [.ref aa])) := Same.new n1
      have s2 := s1.trans (Same.new (o := .lst (refs as ++ [.ref aa])) n2)
      refine fin p2 _ (as ++ [aa]) (rows ++ [rows.getD at_ []]) ((S2.new n1).ne n2) (by simp) (by simp; omega) (fun r hr => ?_) ((S2.new n1).new n2) (by rw [upd_same]; unfold refs; rw [List.map_append]; rfl) ((R2.app (RI.one hra)).keep fun a xs h => s2 _ _ h) (X12.trans (ExB.of s2))
      · rcases List.mem_append.mp hr with h | h
        · exact M.maps _ h
        · rw [List.mem_singleton.mp h]; exact M.maps _ hin
    · walk_at "go"
      exact back
  · walk_at "go"
    refine rd_dec (fun c2 => ?_) (fun c2 => ?_)
    · walk_at "go"
      try rw [has]
      refine rd_dec (fun c3 => ?_) (fun c3 => ?_)
      · walk_at "go"
        intro p1 n1
        rw [cutV_to (by omega)]
        have s1 : Same H2 (L2.upd H2 p1 (.lst ((refs as).take at_))) := Same.new n1
        obtain ⟨a0, ha0⟩ : ∃ a, as[0]? = some a := ⟨_, List.getElem?_eq_getElem (by omega)⟩
        have hr0 := hrow2 0 a0 (rows.getD 0 []) ha0 (get_getD [] (by omega))
        have hsz : (rowV (rows.getD 0 [])).length = sz := by rw [rowV_len, (M.maps _ (getD_mem (by omega))).1]
        have hq3 := s1 _ _ hq2
        walk_at "go"
        refine rd_ixL (SqL.of hq3) (at_vI (getElem?_refs ha0)) ?_
        walk_at "go"
        have hr3 := s1 _ _ hr0
        try refine rd_lenT (SqT.of hr3) ?_
        rw [hsz]
        walk_at "go"
        refine rd_qTg (n := sz) (by have := M.s4; omega) fun p3 n3 => ?_
        walk_at "go"
        intro p4 n4
        rw [show ((at_ : Int)).toNat = at_ from by omega] at n3 n4 ⊢
        have s3 := s1.trans (Same.new (o := .tup (rowV (List.range sz))) n3)
        have s4 := s3.trans (Same.new (o := .lst [.ref p3]) n4)
        have h1p : (L2.upd H2 p1 (.lst ((refs as).take at_))) p1 = some (.lst ((refs as).take at_)) := upd_same
        have n41 := ne_of_none ((Same.new (o := .tup (rowV (List.range sz))) n3) _ _ h1p) n4
        have h1q : (L2.upd (L2.upd (L2.upd H2 p1 (.lst ((refs as).take at_))) p3 (.tup (rowV (List.range sz)))) p4 (.lst [.ref p3])) p1 = some (.lst ((refs as).take at_)) := by rw [upd_ne n41]; exact (Same.new n3) _ _ h1p
        refine rd_catL h1q upd_same (by simp [refs]; omega) fun p5 n5 => ?_
        have s5 := s4.trans (Same.new (o := .lst ((refs as).take at_ ++ [.ref p3])) n5)
        walk_at "go"
        refine rd_slL (SqL.of (s5 _ _ hq2)) fun p6 n6 => ?_
        rw [cutV_fromN (by rw [refs_len]; omega)]
        have s6 := s5.trans (Same.new (o := .lst ((refs as).drop at_)) n6)
        refine rd_catL ((Same.new n6) _ _ upd_same) upd_same (by simp [refs]; omega) fun p7 n7 => ?_
        have s7 := s6.trans (Same.new (o := .lst ((refs as).take at_ ++ [.ref p3] ++ (refs as).drop at_)) n7)
        refine fin p7 _ (as.take at_ ++ [p3] ++ as.drop at_) (rows.take at_ ++ [List.range sz] ++ rows.drop at_) ?_ (by simp; omega) (by simp; omega) (fun r hr => ?_) ?_ (by rw [upd_same]; unfold refs; simp [List.map_append, List.map_take, List.map_drop]) ?_ (X12.trans (ExB.of s7))
        · obtain ⟨_, _, _, hsp, _⟩ := S2
          exact (ne_of_none (s6 _ _ hsp) n7).symm
        · rcases List.mem_append.mp hr with h | h
          · rcases List.mem_append.mp h with h | h
            · exact M.maps _ (List.mem_of_mem_take h)
            · rw [List.mem_singleton.mp h]; exact one_map sz
          · exact M.maps _ (List.mem_of_mem_drop h)
        · exact S2.same (Kq.of s7)
        · have R7 := R2.keep fun a xs h => s7 _ _ h
          exact ((R7.take at_).app (RI.one ((Same.new n7) _ _ ((Same.new n6) _ _ ((Same.new n5) _ _ ((Same.new n4) _ _ upd_same)))))).app (R7.drop at_)
      · walk_at "go"
        exact back
    · walk_at "go"
      exact back
end
end My
namespace My
open PySem PySem.Spec L2 SX LamX Mon
open PyProof.Rows hiding St
local macro_rules | `(tactic| walk_at "kb") => `(tactic| first | exact kb_str_str | exact kb_str_int | exact kb_str_bool | exact kb_str_list | exact kb_str_tuple | exact kb_int_str | exact kb_int_int | exact kb_int_bool | exact kb_int_list | exact kb_int_tuple | exact kb_bool_str | exact kb_bool_int | exact kb_bool_bool | exact kb_bool_list | exact kb_bool_tuple | exact kb_list_str | exact kb_list_int | exact kb_list_bool | exact kb_list_list | exact kb_list_tuple | exact kb_tuple_str | exact kb_tuple_int | exact kb_tuple_bool | exact kb_tuple_list | exact kb_tuple_tuple | exact kb_NoneType_str | exact kb_NoneType_int | exact kb_NoneType_bool | exact kb_NoneType_list | exact kb_NoneType_tuple)
local macro_rules | `(tactic| walk_at "hp") => `(tactic| first | assumption | exact upd_same | (refine (upd_ne (by first | assumption | (apply Ne.symm; assumption))).trans ?_; walk_at "hp"))
local macro_rules | `(tactic| walk_at "sq") => `(tactic| first | assumption | exact SqL.of (by walk_at "hp"))
local macro_rules | `(tactic| walk_at "sqt") => `(tactic| first | assumption | exact SqT.of (by walk_at "hp"))
local macro_rules | `(tactic| walk_at "ar") => `(tactic| first | omega | (dsimp only; omega) | (unfold CMul; omega) | (unfold CDiv; omega) | (unfold CPow; refine ⟨?_, ?_, ?_⟩ <;> decide) | (simp only [List.length_cons, List.length_nil]; decide))
local macro_rules | `(tactic| walk_at "rd") => `(tactic| first
  | with_reducible refine rd_seq ?_
  | with_reducible refine rd_asg ?_
  | with_reducible refine rd_if ?_
  | with_reducible refine rd_ret ?_
  | with_reducible refine rd_drop ?_
  | with_reducible refine rd_name ?_
  | with_reducible refine rd_sub ?_
  | ((with_reducible refine' rd_var ?e ?_); (case e => exact rfl))
  | with_reducible refine rd_c ?_
  | with_reducible refine rd_op ?_
  | with_reducible refine rd_un ?_
  | with_reducible refine rd_I0 ?_
  | ((with_reducible refine' rd_I ?c ?_); (case c => walk_at "ar"))
  | with_reducible refine rd_U ?_
  | with_reducible refine rd_eqI ?_
  | with_reducible refine rd_neI ?_
  | with_reducible refine rd_eqS ?_
  | with_reducible refine rd_neS ?_
  | with_reducible refine rd_eqB ?_
  | with_reducible refine rd_neB ?_
  | with_reducible refine rd_test ?_
  | with_reducible refine rd_B ?_
  | with_reducible refine rd_and ?_
  | with_reducible refine rd_or ?_
  | with_reducible refine rd_not ?_
  | with_reducible refine rd_andV ?_
  | with_reducible refine rd_orV ?_
  | with_reducible refine rd_notV ?_
  | with_reducible refine rd_ifE ?_
  | with_reducible refine rd_isN ?_
  | with_reducible refine rd_notN ?_
  | with_reducible refine rd_cons ?_
  | with_reducible refine rd_nil ?_
  | with_reducible refine rd_lst ?_
  | with_reducible refine rd_tup ?_
  | with_reducible refine rd_CB ?_
  | with_reducible refine rd_call ?_
  | with_reducible refine rd_sl ?_
  | with_reducible refine rd_part ?_
  | with_reducible refine rd_nopart ?_
  | with_reducible refine rd_par ?_
  | with_reducible refine rd_two ?_
  | with_reducible refine rd_next ?_
  | with_reducible refine rd_retN ?_
  | with_reducible refine rd_bool ?_
  | with_reducible refine rd_int ?_
  | with_reducible refine rd_intI ?_
  | with_reducible refine rd_intB ?_
  | with_reducible refine rd_ltS ?_
  | with_reducible refine rd_leS ?_
  | with_reducible refine rd_gtS ?_
  | with_reducible refine rd_geS ?_
  | with_reducible refine rd_inC ?_
  | with_reducible refine rd_notInC ?_
  | with_reducible refine rd_abs ?_
  | with_reducible refine rd_max2 ?_
  | with_reducible refine rd_min2 ?_
  | with_reducible refine rd_M1 ?_
  | with_reducible refine rd_isStr ?_
  | ((with_reducible refine' rd_len ?b ?_); (case b => (simp only [List.length_cons, List.length_nil]; decide)))
  | ((with_reducible refine' rd_listS ?b ?_); (case b => first | (simp only [List.length_take, List.length_cons, List.length_nil]; omega) | omega))
  | ((with_reducible refine' rd_isi ?ty ?h ?_); (case ty => first | exact ty_str | exact ty_int | exact ty_bl | exact ty_non | exact ty_lst (by walk_at "hp") | exact ty_tup (by walk_at "hp")); (case h => walk_at "kb"))
  | with_reducible refine rd_lc ?_
  | with_reducible refine rd_for ?_
  | with_reducible refine rd_iList ?_
  | with_reducible refine rd_iTup ?_
  | with_reducible refine rd_iRng1 ?_
  | with_reducible refine rd_iRng2 ?_
  | with_reducible refine rd_iRng3 ?_
  | with_reducible refine rd_iStr ?_
  | with_reducible refine rd_qIs ?_
  | with_reducible refine rd_whb ?_
  | ((with_reducible refine' rd_qIl ?sq ?_); (case sq => walk_at "sq"))
  | ((with_reducible refine' rd_qItu ?sq ?_); (case sq => walk_at "sqt"))
  | ((with_reducible refine' rd_qIr1 ?b1 ?b2 ?_); (case b1 => walk_at "ar"); (case b2 => walk_at "ar"))
  | ((with_reducible refine' rd_qIr2 ?b1 ?b2 ?b3 ?b4 ?_); (case b1 => walk_at "ar"); (case b2 => walk_at "ar"); (case b3 => walk_at "ar"); (case b4 => walk_at "ar"))
  | ((with_reducible refine' rd_qIr3 ?b1 ?b2 ?b3 ?b4 ?_); (case b1 => walk_at "ar"); (case b2 => walk_at "ar"); (case b3 => walk_at "ar"); (case b4 => walk_at "ar"))
  | ((with_reducible refine' rd_mulS ?b1 ?b2 ?b3 ?_); (case b1 => walk_at "ar"); (case b2 => walk_at "ar"); (case b3 => walk_at "ar"))
  | ((with_reducible refine' rd_slS_to ?b1 ?b2 ?_); (case b1 => walk_at "ar"); (case b2 => walk_at "ar"))
  | ((with_reducible refine' rd_slS_from ?b1 ?b2 ?_); (case b1 => walk_at "ar"); (case b2 => walk_at "ar"))
  | ((with_reducible refine' rd_slS_mid ?b1 ?b2 ?b3 ?b4 ?_); (case b1 => walk_at "ar"); (case b2 => walk_at "ar"); (case b3 => walk_at "ar"); (case b4 => walk_at "ar"))
  | ((with_reducible refine' rd_slL ?sq ?_); (case sq => walk_at "sq"))
  | with_reducible refine rd_true ?_
  | with_reducible refine rd_false ?_
  | with_reducible refine rd_nt ?_
  | with_reducible refine rd_nf ?_
  | ((with_reducible refine' rd_decT ?h ?_); (case h => omega))
  | ((with_reducible refine' rd_decF ?h ?_); (case h => omega))
  | ((with_reducible refine' rd_ndecT ?h ?_); (case h => omega))
  | ((with_reducible refine' rd_ndecF ?h ?_); (case h => omega))
  | ((with_reducible refine' rd_evT ?h ?_); (case h => first | exact rfl | (simp; done)))
  | ((with_reducible refine' rd_evF ?h ?_); (case h => first | exact rfl | (simp; done)))
  | ((with_reducible refine' rd_ixL ?sq ?a1 ?_); (case sq => walk_at "sq"); (case a1 => first | exact rfl | exact at_of (by omega) (by assumption)))
  | ((with_reducible refine' rd_ixT ?sq ?a1 ?_); (case sq => walk_at "sqt"); (case a1 => first | exact rfl | exact at_of (by omega) (by assumption)))
  | ((with_reducible refine' rd_lenL ?sq ?_); (case sq => walk_at "sq"))
  | ((with_reducible refine' rd_lenT ?sq ?_); (case sq => walk_at "sqt"))
  | ((with_reducible refine' rd_setL ?h ?j ?_); (case h => walk_at "hp"); (case j => exact rfl); (with_reducible refine id ?_))
  | ((with_reducible refine' rd_strlen ?l ?_); (case l => walk_at "ar"))
  | ((with_reducible refine' rd_cat ?l ?_); (case l => walk_at "ar")))
local macro_rules | `(tactic| walk_at "go") => `(tactic| ((try dsimp only); (repeat (walk_at "rd"))))
local macro_rules | `(tactic| walk_at "rd") => `(tactic| first
  | with_reducible refine rd_lstRg ?_
  | with_reducible refine rd_tRg1 ?_
  | with_reducible refine rd_tRg2 ?_
  | with_reducible refine rd_rg1 ?_
  | with_reducible refine rd_rg2 ?_
  | ((with_reducible refine' rd_qRg ?b ?_); (case b => refine ⟨?_, ?_, ?_, ?_⟩ <;> omega))
  | with_reducible refine rd_sortSet ?_
  | with_reducible refine rd_tDGet ?_
  | with_reducible refine rd_sDPut ?_
  | with_reducible refine rd_dnew ?_
  | with_reducible refine rd_iZipS ?_
  | with_reducible refine rd_zipS ?_
  | ((with_reducible refine' rd_inI ?sq ?_); (case sq => walk_at "sq"))
  | ((with_reducible refine' rd_notInI ?sq ?_); (case sq => walk_at "sq"))
  | with_reducible refine rd_chain ?_)

local macro_rules | `(tactic| walk_at "rd") => `(tactic| first
  | with_reducible refine rd_fld ?_
  | with_reducible refine rd_par3 ?_
  | with_reducible refine rd_sFld ?_
  | with_reducible refine rd_meth ?_
  | with_reducible refine rd_make ?_
  | with_reducible refine rd_iEnT ?_
  | with_reducible refine rd_iEnL ?_
  | with_reducible refine rd_iZipSL ?_
  | with_reducible refine rd_dIn ?_
  | with_reducible refine rd_dNotIn ?_
  | with_reducible refine rd_tDGet ?_
  | with_reducible refine rd_thenT ?_
  | with_reducible refine rd_sortLam ?_
  | with_reducible refine rd_tupRg ?_
  | with_reducible refine rd_bm ?_
  | ((with_reducible refine' rd_kTupT ?sq ?_); (case sq => walk_at "sqt"))
  | ((with_reducible refine' rd_kTupL ?sq ?_); (case sq => walk_at "sq"))
  | with_reducible refine rd_sDPut ?_
  | ((with_reducible refine' rd_enT ?sq ?_); (case sq => walk_at "sqt"))
  | ((with_reducible refine' rd_enL ?sq ?_); (case sq => walk_at "sq"))
  | ((with_reducible refine' rd_zipSL ?sq ?_); (case sq => walk_at "sq")))

section
variable {P : Program} {w : World} {K : PySem.W.Frag} {mg : Str → Option Value} {base : Heap}
theorem ok__law_table {f : Addr} {fd : FuncData} (F : Fun K "_law_table" "_law_table" s__law_table f fd) (T : Txt K mg) : FnOk P w K mg base CX0 1 f fd ["rows"] (sp__law_table K) := by
  refine F.ok sc__law_table (fun vs H Q E h => by repeat (first | (obtain ⟨rfl, _⟩ := h; rfl) | obtain ⟨_, h⟩ := h)) (fun cdv A outer s H vs Q E hr h => ?_)
  refine ⟨_, (pss_cons (ps_par3 (i := 1) (j := 2) (l := 3) rfl sc__law_table.nd rfl rfl rfl (by decide) (by decide) (by decide) rfl rfl rfl (pa_cons (pe_lst (pa_cons (pe_tupRg rfl rfl T.n_tuple (prg_1 rfl T.n_range (pe_callB cq_len rfl T.n_len boot_len (pa_cons (pe_ix ix_list (pv 0) pe_int (fun _ _ => rfl)) pa_nil)))) pa_nil)) (pa_cons (pe_lst (pa_cons (pe_strS [] rfl) pa_nil)) (pa_cons (pe_lst pa_nil) pa_nil))) (by rfl))
  (pss_cons (ps_set (i := 4) sc__law_table.nd rfl (Or.inl rfl) (pe_disp1T (hu_of hr) (pe_ix ix_list (pv 1) pe_int (fun _ _ => rfl)) pe_int))
  (pss_cons (ps_for PassesOwn.never rfl (pi_range1 rfl T.n_range (pa_cons pe_int pa_nil)) (pg_name (i := 5) sc__law_table.nd rfl (Or.inl rfl))
  (pss_cons (ps_if (pt_cmpR op_ge (pv 5) (pe_callB cq_len rfl T.n_len boot_len (pa_cons (pv 1) pa_nil)) (nomark _)) (pss_one (ps_ret (pe_tup (pa_cons (pv 1) (pa_cons (pv 2) (pa_cons (pv 3) pa_nil)))))) pss_nil)
  (pss_cons (ps_set (i := 6) sc__law_table.nd rfl (Or.inl rfl) (pe_lst pa_nil))
  (pss_cons (ps_for PassesOwn.never rfl (pi_zipSL rfl T.n_zip (pa_cons (pe_strS [97, 98, 99, 100, 101, 102] rfl) (pa_cons (pv 0) pa_nil))) (pg_two (i := 7) (j := 8) K rfl rfl sc__law_table.nd rfl (Or.inl rfl) rfl (Or.inr rfl))
  (pss_cons (ps_set (i := 9) sc__law_table.nd rfl (Or.inl rfl) (pe_tupleOf rfl T.n_tuple (pe_lc (own := [("image", 10)]) rfl sc__law_table.nd (pi_tup (pe_ix ix_list (pv 1) (pv 5) (fun _ _ => rfl))) (blkOk_by (N := N__law_table) (sc := defScope s__law_table) (by decide +kernel)) (fun _ _ _ _ _ => (pg_name (i := 10) sc__law_table.nd rfl (Or.inl rfl))) (fun _ _ _ _ _ => pts_nil) (fun _ _ _ _ _ => (pe_ix (ix_tupK K rfl) (pv 8) (pv 10) (fun _ _ => rfl))))))
  (pss_cons (ps_if (pt_cmp (pc_dnotin (hu_of hr) (pv 9) (pv 4))) (pss_cons (ps_dput (hu_of hr) (pv 4) (pv 9) (pe_callB cq_len rfl T.n_len boot_len (pa_cons (pv 1) pa_nil)) rfl)
  (pss_cons (ps_expr (pe_bm PySem.F.plainAttrs_list PySem.F.slot_list_append PySem.F.type_list_append mt_append (pv 1) (pa_cons (pv 9) pa_nil)))
  (pss_one (ps_expr (pe_bm PySem.F.plainAttrs_list PySem.F.slot_list_append PySem.F.type_list_append mt_append (pv 2) (pa_cons (pe_op oq_addS (pe_ix ix_list (pv 2) (pv 5) (fun _ _ => rfl)) (pv 7)) pa_nil)))))) pss_nil)
  (pss_one (ps_expr (pe_bm PySem.F.plainAttrs_list PySem.F.slot_list_append PySem.F.type_list_append mt_append (pv 6) (pa_cons (pe_dget (hu_of hr) (pv 4) (pv 9) (fun _ _ => rfl)) pa_nil)))))))
  (pss_one (ps_expr (pe_bm PySem.F.plainAttrs_list PySem.F.slot_list_append PySem.F.type_list_append mt_append (pv 3) (pa_cons (pv 6) pa_nil))))))))
  (pss_one (ps_ret (pe_tup (pa_cons (pv 1) (pa_cons (pv 2) (pa_cons (pv 3) pa_nil))))))))), ?_⟩
  try dsimp only [cxOf, Cx.nox, Cx.wish]
  obtain ⟨q, rows, sz, rfl, ⟨rs, hq, hl, hr⟩, M, k⟩ := h
  have hs1 := M.s1
  have hs4 := M.s4
  have hr1 := M.r1
  have hr6 := M.r6
  have hrs : (refs rs).length = rows.length := by rw [refs_len, hl]
  obtain ⟨a0, ha0⟩ : ∃ a, rs[0]? = some a := ⟨_, List.getElem?_eq_getElem (by omega)⟩
  have hr0 := hr 0 a0 (rows.getD 0 []) ha0 (get_getD [] (by omega))
  have hsz : (rowV (rows.getD 0 [])).length = sz := by rw [rowV_len, (M.maps _ (getD_mem (by omega))).1]
  walk_at "go"
  refine rd_ixL (SqL.of hq) (at_vI (n := 0) (getElem?_refs ha0)) ?_
  walk_at "go"
  rw [hsz]
  walk_at "go"
  refine rd_qTg (n := sz) (by omega) fun e0 ne0 => ?_
  walk_at "go"
  intro f nf
  walk_at "go"
  intro wl nwl
  walk_at "go"
  intro tb ntb
  walk_at "go"
  refine ⟨_, _, _, rfl, ?_⟩
  intro d nd
  have sA : Same H (L2.upd H e0 (.tup (rowV (List.range sz)))) := Same.new ne0
  have sB := sA.trans (Same.new (o := .lst [.ref e0]) nf)
  have sC := sB.trans (Same.new (o := .lst [.str (S [])]) nwl)
  have sD := sC.trans (Same.new (o := .lst []) ntb)
  have f1 : (L2.upd (L2.upd (L2.upd (L2.upd (L2.upd H e0 (.tup (rowV (List.range sz)))) f (.lst [.ref e0])) wl (.lst [.str (S [])])) tb (.lst [])) d (.dT [])) f = some (.lst [.ref e0]) := (Same.new nd) _ _ ((Same.new ntb) _ _ ((Same.new nwl) _ _ upd_same))
  walk_at "go"
  refine ⟨upd_same, e0, kk (List.range sz), rfl, ?_, ?_⟩
  · rw [kk_map]
    exact (Same.new nd) _ _ ((Same.new ntb) _ _ ((Same.new nwl) _ _ ((Same.new nf) _ _ upd_same)))
  have w1 : (L2.upd (L2.upd (L2.upd (L2.upd (L2.upd H e0 (.tup (rowV (List.range sz)))) f (.lst [.ref e0])) wl (.lst [.str (S [])])) tb (.lst [])) d (.dT [])) wl = some (.lst [.str (S [])]) := (Same.new nd) _ _ ((Same.new ntb) _ _ upd_same)
  have t1 : (L2.upd (L2.upd (L2.upd (L2.upd (L2.upd H e0 (.tup (rowV (List.range sz)))) f (.lst [.ref e0])) wl (.lst [.str (S [])])) tb (.lst [])) d (.dT [])) tb = some (.lst []) := (Same.new nd) _ _ upd_same
  have e0f : (L2.upd H e0 (.tup (rowV (List.range sz)))) e0 = some (.tup (rowV (List.range sz))) := upd_same
  have fB : (L2.upd (L2.upd H e0 (.tup (rowV (List.range sz)))) f (.lst [.ref e0])) f = some (.lst [.ref e0]) := upd_same
  have fC := (Same.new (o := .lst [.str (S [])]) nwl) _ _ fB
  have wC : (L2.upd (L2.upd (L2.upd H e0 (.tup (rowV (List.range sz)))) f (.lst [.ref e0])) wl (.lst [.str (S [])])) wl = some (.lst [.str (S [])]) := upd_same
  have e1 := (Same.new (o := .dT []) nd) _ _ ((Same.new (o := .lst []) ntb) _ _ ((Same.new (o := .lst [.str (S [])]) nwl) _ _ ((Same.new (o := .lst [.ref e0]) nf) _ _ e0f)))
  have L00 : LT H _ f wl tb d (fdT rows sz 0) (wsT rows sz 0) (tbT rows sz 0) [] [] := ⟨sD.trans (Same.new (o := .dT []) nd), Same.nn sA nf, Same.nn sB nwl, Same.nn sC ntb, Same.nn sD nd,
    ne_of_none fB nwl, ne_of_none fC ntb, ne_of_none wC ntb, ⟨[e0], f1, rfl, fun i a r q1 q2 => by
      have hi : i = 0 := by have := (List.getElem?_eq_some_iff.mp q1).1; simp at this; omega
      subst hi
      cases q1
      cases q2
      exact e1⟩, w1, t1, ⟨rfl, fun i a r q1 => by simp at q1⟩, fun t ht => (by cases ht), upd_same⟩
  have L0 := L00.put (fdT rows sz 0)
  have ekk : putK [] (kk (List.range sz)) (V.int 0) = numT (fdT rows sz 0) := putK_numT (fd := []) (by simp)
  rw [ekk]
  walk_at "go"
  have bd : ∀ i, (∀ k, k < i → k < (fdT rows sz k).length) → (fdT rows sz i).length ≤ 256 := fun i go => maps_le hs4 (fdT_nodup i) (fdT_maps M.maps i go)
  refine forR (n := 3000) (fun i σ' H' => ∃ v5 v6 v7 v8 v9 v10, σ' = [some (.ref q), some (.ref f), some (.ref wl), some (.ref tb), some (.ref d), v5, v6, v7, v8, v9, v10] ∧ (∀ k, k < i → k < (fdT rows sz k).length) ∧ ∃ ts, LT H H' f wl tb d (fdT rows sz i) (wsT rows sz i) (tbT rows sz i) (fdT rows sz i) ts) ⟨_, _, _, _, _, _, rfl, fun k hk => absurd hk (Nat.not_lt_zero _), [], L0⟩ ?_ ?_
  · rintro i σ' H1 hi ⟨v5, v6, v7, v8, v9, v10, rfl, go, ts, L⟩
    have hb := bd i go
    have hge := fdT_go_le i go
    obtain ⟨fs, hf, hF⟩ := L.hf
    have hfl : (refs fs).length = (fdT rows sz i).length := by rw [refs_len, hF.1]
    walk_at "go"
    rw [hfl]
    walk_at "go"
    refine rd_dec (fun c => ?_) (fun c => ?_)
    · walk_at "go"
      intro t nt
      have hlen : (fdT rows sz i).length = i := by omega
      have s := Same.new (o := .tup [.ref f, .ref wl, .ref tb]) nt
      have Lb := L.keep s
      obtain ⟨fs2, hf2, hF2⟩ := Lb.hf
      exact k t f wl tb i _ ⟨M.maps, go, hlen⟩ Lb.same upd_same ⟨fs2, hf2, hF2⟩ Lb.hw ⟨ts, Lb.ht, Lb.hT⟩
    · have hil : i < (fdT rows sz i).length := by omega
      walk_at "go"
      intro ro nro
      have L1 := L.keep (Same.new (o := .lst []) nro)
      walk_at "go"
      refine rd_zipSL (SqL.of (L1.same _ _ hq)) ?_
      have hgm := getD_mem (l := fdT rows sz i) hil
      have hfd := fdT_maps M.maps i go
      have hg := hfd _ hgm
      have bdR : ∀ j, j ≤ rows.length → (fdR rows ((fdT rows sz i).getD i []) j (fdT rows sz i)).length ≤ 256 := fun j hj => maps_le hs4 (fdR_nodup (fdT_nodup i) j) (fdR_maps M.maps hg hfd j hj)
      have wl0 := wsT_len (rows := rows) (sz := sz) i
      have hub : ((wsT rows sz i).getD i []).length ≤ i := getD_len (wsT_bd i)
      have ro0 : H ro = none := Same.nn L.same nro
      have rof : ro ≠ f := (ne_of_none hf nro).symm
      have row : ro ≠ wl := (ne_of_none L.hw nro).symm
      have rot : ro ≠ tb := (ne_of_none L.ht nro).symm
      have rts : ro ∉ ts := fun h => by
        obtain ⟨jj, hjj⟩ := List.mem_iff_getElem?.mp h
        have h9 := L.hT.2 jj _ _ hjj (get_getD [] (by rw [← L.hT.1]; exact (List.getElem?_eq_some_iff.mp hjj).1))
        rw [nro] at h9; cases h9
      refine forP (n := rows.length) (by have := walk_zipSL (K := K) (l := [97, 98, 99, 100, 101, 102]) (b := q) (ys := refs rs) (by rw [hrs]; exact hr6); rw [hrs] at this; exact this) (fun j σ' H' => ∃ v7 v8 v9 v10, σ' = [some (.ref q), some (.ref f), some (.ref wl), some (.ref tb), some (.ref d), some (.int (i : Nat)), some (.ref ro), v7, v8, v9, v10] ∧ LT H H' f wl tb d (fdR rows ((fdT rows sz i).getD i []) j (fdT rows sz i)) (wsR rows ((fdT rows sz i).getD i []) ((wsT rows sz i).getD i []) j (fdT rows sz i) (wsT rows sz i)) (tbT rows sz i) (fdR rows ((fdT rows sz i).getD i []) j (fdT rows sz i)) ts ∧ H' ro = some (.lst (rowV (rowR rows ((fdT rows sz i).getD i []) j (fdT rows sz i))))) ⟨v7, v8, v9, v10, by rw [Int.zero_add]; rfl, L1, upd_same⟩ (fun j σ' H' _ ⟨_, _, _, _, _, L, _⟩ => SqL.of (L.same _ _ hq)) ?_ ?_
      · rintro j σ' H2 T1 x y hj ⟨v7, v8, v9, v10, rfl, Lb, hro⟩ nT hx hy
        obtain ⟨b, hb2, rfl⟩ := refs_get hy
        have hxx : x = .str (S [97 + j]) := by
          have hj6 : j < 6 := by omega
          match j, hj6, hx with
          | 0, _, h => exact (Option.some.inj h).symm
          | 1, _, h => exact (Option.some.inj h).symm
          | 2, _, h => exact (Option.some.inj h).symm
          | 3, _, h => exact (Option.some.inj h).symm
          | 4, _, h => exact (Option.some.inj h).symm
          | 5, _, h => exact (Option.some.inj h).symm
        subst hxx
        have hjl := hj
        have hrow := hr j b (rows.getD j []) hb2 (get_getD [] hj)
        have L3 := Lb.keep (Same.new (o := .tup [.str (S [97 + j]), .ref b]) nT)
        have hro3 := (Same.new (o := .tup [.str (S [97 + j]), .ref b]) nT) _ _ hro
        obtain ⟨fs3, hf3, hF3⟩ := L3.hf
        obtain ⟨cc, hcc⟩ := fdR_pre (rows := rows) ((fdT rows sz i).getD i []) (fdT rows sz i) 0 j
        rw [Nat.zero_add] at hcc
        have hgi : (fdR rows ((fdT rows sz i).getD i []) j (fdT rows sz i)).getD i [] = (fdT rows sz i).getD i [] := by rw [hcc]; exact getD_left hil
        have hfl3 : i < (fdR rows ((fdT rows sz i).getD i []) j (fdT rows sz i)).length := by rw [hcc, List.length_append]; show i < (fdT rows sz i).length + _; omega
        obtain ⟨ga, hga, hgr⟩ := hF3.at hfl3
        rw [hgi] at hgr
        walk_at "go"
        refine rd_ixL (SqL.of hf3) (at_vI (getElem?_refs hga)) ?_
        walk_at "go"
        refine lcT (K := K) ((fdT rows sz i).getD i []) vI (SqT.of hgr) (fun _ => true) (fun y => vI ((rows.getD j []).getD y 0)) (by rw [hg.1]; omega) (fun _ => rfl) (fun y hy => pt_yes) ?_ ?_
        · intro y hy _ H4 s4 Q4 q4
          walk_at "go"
          refine rd_ixT (SqT.of (s4 _ _ (L3.same _ _ hrow))) (at_vI (rowV_get (by rw [(M.maps _ (getD_mem hj)).1]; exact hg.2 y hy))) ?_
          exact q4 _ (fun _ _ e => e)
        · intro D H3 nD s3 hD
          have eMul : (List.map (fun y => vI ((rows.getD j []).getD y 0)) (List.filter (fun _ => true) ((fdT rows sz i).getD i []))) = rowV (mul ((fdT rows sz i).getD i []) (rows.getD j [])) := by
            rw [List.filter_eq_self.mpr (fun _ _ => rfl)]
            unfold rowV mul
            rw [List.map_map]; rfl
          rw [eMul] at hD
          have L4 := L3.keep s3
          have hro4 := s3 _ _ hro3
          walk_at "go"
          intro qp nqp
          have L5 := L4.keep (Same.new (o := .tup (rowV (mul ((fdT rows sz i).getD i []) (rows.getD j [])))) nqp)
          have hro5 := (Same.new (o := .tup (rowV (mul ((fdT rows sz i).getD i []) (rows.getD j [])))) nqp) _ _ hro4
          have hkey : (L2.upd H3 qp (.tup (rowV (mul ((fdT rows sz i).getD i []) (rows.getD j []))))) qp = some (.tup ((kk (mul ((fdT rows sz i).getD i []) (rows.getD j []))).map kV)) := by rw [kk_map]; exact upd_same
          have hqr : (L2.upd H3 qp (.tup (rowV (mul ((fdT rows sz i).getD i []) (rows.getD j []))))) qp = some (.tup (rowV (mul ((fdT rows sz i).getD i []) (rows.getD j [])))) := upd_same
          generalize L2.upd H3 qp (.tup (rowV (mul ((fdT rows sz i).getD i []) (rows.getD j [])))) = H5 at *
          have hbj := bdR j (by omega)
          have hbj1 := bdR (j + 1) hj
          have e1 := fdR_succ rows ((fdT rows sz i).getD i []) j (fdT rows sz i)
          have e3 := rowR_succ rows ((fdT rows sz i).getD i []) j (fdT rows sz i)
          have ew : wsR rows ((fdT rows sz i).getD i []) ((wsT rows sz i).getD i []) (j + 1) (fdT rows sz i) (wsT rows sz i) = if mul ((fdT rows sz i).getD i []) (rows.getD j []) ∈ fdR rows ((fdT rows sz i).getD i []) j (fdT rows sz i) then wsR rows ((fdT rows sz i).getD i []) ((wsT rows sz i).getD i []) j (fdT rows sz i) (wsT rows sz i) else wsR rows ((fdT rows sz i).getD i []) ((wsT rows sz i).getD i []) j (fdT rows sz i) (wsT rows sz i) ++ [(wsT rows sz i).getD i [] ++ [97 + j]] := rfl
          have ewl := wsR_len (rows := rows) ((fdT rows sz i).getD i []) ((wsT rows sz i).getD i []) (fdT rows sz i) (wsT rows sz i) wl0 j
          have ewg : (wsR rows ((fdT rows sz i).getD i []) ((wsT rows sz i).getD i []) j (fdT rows sz i) (wsT rows sz i)).getD i [] = (wsT rows sz i).getD i [] := by
            obtain ⟨cw, hcw⟩ := wsR_pre0 (rows := rows) ((fdT rows sz i).getD i []) ((wsT rows sz i).getD i []) (fdT rows sz i) (wsT rows sz i) j
            rw [hcw]; exact getD_left (by omega)
          have erl : (rowR rows ((fdT rows sz i).getD i []) j (fdT rows sz i)).length = j := by unfold rowR; simp
          generalize mul ((fdT rows sz i).getD i []) (rows.getD j []) = pr at *
          have evl := valV_numT pr (fdR rows ((fdT rows sz i).getD i []) j (fdT rows sz i))
          generalize fdR rows ((fdT rows sz i).getD i []) j (fdT rows sz i) = fdj at *
          generalize fdR rows ((fdT rows sz i).getD i []) (j + 1) (fdT rows sz i) = fdj1 at *
          generalize wsR rows ((fdT rows sz i).getD i []) ((wsT rows sz i).getD i []) j (fdT rows sz i) (wsT rows sz i) = wsj at *
          generalize wsR rows ((fdT rows sz i).getD i []) ((wsT rows sz i).getD i []) (j + 1) (fdT rows sz i) (wsT rows sz i) = wsj1 at *
          walk_at "go"
          refine rd_qInT (kk pr) L5.hd hkey ?_
          by_cases hin : pr ∈ fdj
          · rw [if_pos hin] at evl e1 ew
            rw [evl]
            subst e1 ew
            walk_at "go"
            refine ⟨tyL hro5, ?_⟩
            walk_at "go"
            refine rd_qGetT (kk pr) L5.hd hkey evl ?_
            walk_at "go"
            refine rd_app hro5 (by rw [rowV_len, erl]; omega) ?_
            rw [e3, rowV_snoc]
            exact ⟨_, _, _, _, rfl, L5.other hro5 ro0 rof row rot rts, upd_same⟩
          · rw [if_neg hin] at evl e1 ew
            rw [evl]
            subst e1 ew
            walk_at "go"
            obtain ⟨fs5, hf5, hF5⟩ := L5.hf
            have hfl5 : (refs fs5).length = fdj.length := by rw [refs_len, hF5.1]
            refine rd_lenL (SqL.of hf5) ?_
            rw [hfl5]
            walk_at "go"
            rw [List.length_append] at hbj1
            refine rd_qPutT (kk pr) L5.hd hkey (by rw [numT_len]; omega) ?_
            rw [putK_numT hin]
            have L6 := L5.put (fdj ++ [pr])
            have hro6 : (L2.upd H5 d (.dT (numT (fdj ++ [pr])))) ro = some (.lst (rowV (rowR rows ((fdT rows sz i).getD i []) j (fdT rows sz i)))) := by rw [upd_ne (ne_of hro5 L5.hd (fun z => nomatch z))]; exact hro5
            have hqr6 : (L2.upd H5 d (.dT (numT (fdj ++ [pr])))) qp = some (.tup (rowV pr)) := by rw [upd_ne (ne_of hqr L5.hd (fun z => nomatch z))]; exact hqr
            generalize L2.upd H5 d (.dT (numT (fdj ++ [pr]))) = H6 at *
            obtain ⟨xs, hx1, hx2, L7⟩ := L6.pushf hqr6
            walk_at "go"
            refine ⟨tyL hx1, ?_⟩
            walk_at "go"
            refine rd_app hx1 (by omega) ?_
            have hro7 : (L2.upd H6 f (.lst (xs ++ [.ref qp]))) ro = some (.lst (rowV (rowR rows ((fdT rows sz i).getD i []) j (fdT rows sz i)))) := by rw [upd_ne rof]; exact hro6
            have hqr7 : (L2.upd H6 f (.lst (xs ++ [.ref qp]))) qp = some (.tup (rowV pr)) := by rw [upd_ne (ne_of hqr6 hx1 (fun z => nomatch z))]; exact hqr6
            generalize L2.upd H6 f (.lst (xs ++ [.ref qp])) = H7 at *
            walk_at "go"
            refine ⟨tyL L7.hw, ?_⟩
            walk_at "go"
            refine rd_ixL (SqL.of L7.hw) (at_vI (v := .str (S (wsj.getD i []))) (txV_get (by omega))) ?_
            rw [ewg]
            walk_at "go"
            refine rd_cat (by show _ + 1 ≤ 100000; omega) ?_
            walk_at "go"
            refine rd_app L7.hw (by rw [txV_len]; omega) ?_
            have L8 := L7.pushw ((wsT rows sz i).getD i [] ++ [97 + j])
            have hro8 : (L2.upd H7 wl (.lst (txV wsj ++ [.str (S ((wsT rows sz i).getD i [] ++ [97 + j]))]))) ro = some (.lst (rowV (rowR rows ((fdT rows sz i).getD i []) j (fdT rows sz i)))) := by rw [upd_ne row]; exact hro7
            have hqr8 : (L2.upd H7 wl (.lst (txV wsj ++ [.str (S ((wsT rows sz i).getD i [] ++ [97 + j]))]))) qp = some (.tup ((kk pr).map kV)) := by rw [kk_map, upd_ne (ne_of hqr7 L7.hw (fun z => nomatch z))]; exact hqr7
            generalize L2.upd H7 wl (.lst (txV wsj ++ [.str (S ((wsT rows sz i).getD i [] ++ [97 + j]))])) = H8 at *
            walk_at "go"
            refine ⟨tyL hro8, ?_⟩
            walk_at "go"
            have evl2 := valV_numT pr (fdj ++ [pr])
            rw [if_pos (by simp)] at evl2
            refine rd_qGetT (kk pr) L8.hd hqr8 evl2 ?_
            walk_at "go"
            refine rd_app hro8 (by rw [rowV_len, erl]; omega) ?_
            rw [e3, rowV_snoc]
            exact ⟨_, _, _, _, rfl, L8.other hro8 ro0 rof row rot rts, upd_same⟩
      · rintro σ' H2 ⟨v7, v8, v9, v10, rfl, Lb, hro⟩
        walk_at "go"
        refine ⟨tyL Lb.ht, ?_⟩
        walk_at "go"
        refine rd_app Lb.ht (by rw [refs_len, Lb.hT.1]; unfold tbT; simp; omega) ?_
        walk_at "go"
        refine ⟨_, _, _, _, _, _, rfl, fun k hk => ?_, ts ++ [ro], ?_⟩
        · by_cases e : k = i
          · subst e; exact hil
          · exact go k (by omega)
        · have L9 := Lb.pusht hro rof row rot
          rw [← tbT_succ] at L9
          exact L9
  · rintro σ' H1 ⟨v5, v6, v7, v8, v9, v10, rfl, go, _⟩
    have h1 := bd _ go
    have h2 := fdT_go_le _ go
    omega
end
end My
namespace My
open PySem PySem.Spec L2 SX LamX Mon
open PyProof.Rows hiding St
local macro_rules | `(tactic| walk_at "kb") => `(tactic| first | exact kb_str_str | exact kb_str_int | exact kb_str_bool | exact kb_str_list | exact kb_str_tuple | exact kb_int_str | exact kb_int_int | exact kb_int_bool | exact kb_int_list | exact kb_int_tuple | exact kb_bool_str | exact kb_bool_int | exact kb_bool_bool | exact kb_bool_list | exact kb_bool_tuple | exact kb_list_str | exact kb_list_int | exact kb_list_bool | exact kb_list_list | exact kb_list_tuple | exact kb_tuple_str | exact kb_tuple_int | exact kb_tuple_bool | exact kb_tuple_list | exact kb_tuple_tuple | exact kb_NoneType_str | exact kb_NoneType_int | exact kb_NoneType_bool | exact kb_NoneType_list | exact kb_NoneType_tuple)
local macro_rules | `(tactic| walk_at "hp") => `(tactic| first | assumption | exact upd_same | (refine (upd_ne (by first | assumption | (apply Ne.symm; assumption))).trans ?_; walk_at "hp"))
local macro_rules | `(tactic| walk_at "sq") => `(tactic| first | assumption | exact SqL.of (by walk_at "hp"))
local macro_rules | `(tactic| walk_at "sqt") => `(tactic| first | assumption | exact SqT.of (by walk_at "hp"))
local macro_rules | `(tactic| walk_at "ar") => `(tactic| first | omega | (dsimp only; omega) | (unfold CMul; omega) | (unfold CDiv; omega) | (unfold CPow; refine ⟨?_, ?_, ?_⟩ <;> decide) | (simp only [List.length_cons, List.length_nil]; decide))
local macro_rules | `(tactic| walk_at "rd") => `(tactic| first
  | with_reducible refine rd_seq ?_
  | with_reducible refine rd_asg ?_
  | with_reducible refine rd_if ?_
  | with_reducible refine rd_ret ?_
  | with_reducible refine rd_drop ?_
  | with_reducible refine rd_name ?_
  | with_reducible refine rd_sub ?_
  | ((with_reducible refine' rd_var ?e ?_); (case e => exact rfl))
  | with_reducible refine rd_c ?_
  | with_reducible refine rd_op ?_
  | with_reducible refine rd_un ?_
  | with_reducible refine rd_I0 ?_
  | ((with_reducible refine' rd_I ?c ?_); (case c => walk_at "ar"))
  | with_reducible refine rd_U ?_
  | with_reducible refine rd_eqI ?_
  | with_reducible refine rd_neI ?_
  | with_reducible refine rd_eqS ?_
  | with_reducible refine rd_neS ?_
  | with_reducible refine rd_eqB ?_
  | with_reducible refine rd_neB ?_
  | with_reducible refine rd_test ?_
  | with_reducible refine rd_B ?_
  | with_reducible refine rd_and ?_
  | with_reducible refine rd_or ?_
  | with_reducible refine rd_not ?_
  | with_reducible refine rd_andV ?_
  | with_reducible refine rd_orV ?_
  | with_reducible refine rd_notV ?_
  | with_reducible refine rd_ifE ?_
  | with_reducible refine rd_isN ?_
  | with_reducible refine rd_notN ?_
  | with_reducible refine rd_cons ?_
  | with_reducible refine rd_nil ?_
  | with_reducible refine rd_lst ?_
  | with_reducible refine rd_tup ?_
  | with_reducible refine rd_CB ?_
  | with_reducible refine rd_call ?_
  | with_reducible refine rd_sl ?_
  | with_reducible refine rd_part ?_
  | with_reducible refine rd_nopart ?_
  | with_reducible refine rd_par ?_
  | with_reducible refine rd_two ?_
  | with_reducible refine rd_next ?_
  | with_reducible refine rd_retN ?_
  | with_reducible refine rd_bool ?_
  | with_reducible refine rd_int ?_
  | with_reducible refine rd_intI ?_
  | with_reducible refine rd_intB ?_
  | with_reducible refine rd_ltS ?_
  | with_reducible refine rd_leS ?_
  | with_reducible refine rd_gtS ?_
  | with_reducible refine rd_geS ?_
  | with_reducible refine rd_inC ?_
  | with_reducible refine rd_notInC ?_
  | with_reducible refine rd_abs ?_
  | with_reducible refine rd_max2 ?_
  | with_reducible refine rd_min2 ?_
  | with_reducible refine rd_M1 ?_
  | with_reducible refine rd_isStr ?_
  | ((with_reducible refine' rd_len ?b ?_); (case b => (simp only [List.length_cons, List.length_nil]; decide)))
  | ((with_reducible refine' rd_listS ?b ?_); (case b => first | (simp only [List.length_take, List.length_cons, List.length_nil]; omega) | omega))
  | ((with_reducible refine' rd_isi ?ty ?h ?_); (case ty => first | exact ty_str | exact ty_int | exact ty_bl | exact ty_non | exact ty_lst (by walk_at "hp") | exact ty_tup (by walk_at "hp")); (case h => walk_at "kb"))
  | with_reducible refine rd_lc ?_
  | with_reducible refine rd_for ?_
  | with_reducible refine rd_iList ?_
  | with_reducible refine rd_iTup ?_
  | with_reducible refine rd_iRng1 ?_
  | with_reducible refine rd_iRng2 ?_
  | with_reducible refine rd_iRng3 ?_
  | with_reducible refine rd_iStr ?_
  | with_reducible refine rd_qIs ?_
  | with_reducible refine rd_whb ?_
  | ((with_reducible refine' rd_qIl ?sq ?_); (case sq => walk_at "sq"))
  | ((with_reducible refine' rd_qItu ?sq ?_); (case sq => walk_at "sqt"))
  | ((with_reducible refine' rd_qIr1 ?b1 ?b2 ?_); (case b1 => walk_at "ar"); (case b2 => walk_at "ar"))
  | ((with_reducible refine' rd_qIr2 ?b1 ?b2 ?b3 ?b4 ?_); (case b1 => walk_at "ar"); (case b2 => walk_at "ar"); (case b3 => walk_at "ar"); (case b4 => walk_at "ar"))
  | ((with_reducible refine' rd_qIr3 ?b1 ?b2 ?b3 ?b4 ?_); (case b1 => walk_at "ar"); (case b2 => walk_at "ar"); (case b3 => walk_at "ar"); (case b4 => walk_at "ar"))
  | ((with_reducible refine' rd_mulS ?b1 ?b2 ?b3 ?_); (case b1 => walk_at "ar"); (case b2 => walk_at "ar"); (case b3 => walk_at "ar"))
  | ((with_reducible refine' rd_slS_to ?b1 ?b2 ?_); (case b1 => walk_at "ar"); (case b2 => walk_at "ar"))
  | ((with_reducible refine' rd_slS_from ?b1 ?b2 ?_); (case b1 => walk_at "ar"); (case b2 => walk_at "ar"))
  | ((with_reducible refine' rd_slS_mid ?b1 ?b2 ?b3 ?b4 ?_); (case b1 => walk_at "ar"); (case b2 => walk_at "ar"); (case b3 => walk_at "ar"); (case b4 => walk_at "ar"))
  | ((with_reducible refine' rd_slL ?sq ?_); (case sq => walk_at "sq"))
  | with_reducible refine rd_true ?_
  | with_reducible refine rd_false ?_
  | with_reducible refine rd_nt ?_
  | with_reducible refine rd_nf ?_
  | ((with_reducible refine' rd_decT ?h ?_); (case h => omega))
  | ((with_reducible refine' rd_decF ?h ?_); (case h => omega))
  | ((with_reducible refine' rd_ndecT ?h ?_); (case h => omega))
  | ((with_reducible refine' rd_ndecF ?h ?_); (case h => omega))
  | ((with_reducible refine' rd_evT ?h ?_); (case h => first | exact rfl | (simp; done)))
  | ((with_reducible refine' rd_evF ?h ?_); (case h => first | exact rfl | (simp; done)))
  | ((with_reducible refine' rd_ixL ?sq ?a1 ?_); (case sq => walk_at "sq"); (case a1 => first | exact rfl | exact at_of (by omega) (by assumption)))
  | ((with_reducible refine' rd_ixT ?sq ?a1 ?_); (case sq => walk_at "sqt"); (case a1 => first | exact rfl | exact at_of (by omega) (by assumption)))
  | ((with_reducible refine' rd_lenL ?sq ?_); (case sq => walk_at "sq"))
  | ((with_reducible refine' rd_lenT ?sq ?_); (case sq => walk_at "sqt"))
  | ((with_reducible refine' rd_setL ?h ?j ?_); (case h => walk_at "hp"); (case j => exact rfl); (with_reducible refine id ?_))
  | ((with_reducible refine' rd_strlen ?l ?_); (case l => walk_at "ar"))
  | ((with_reducible refine' rd_cat ?l ?_); (case l => walk_at "ar")))
local macro_rules | `(tactic| walk_at "go") => `(tactic| ((try dsimp only); (repeat (walk_at "rd"))))
local macro_rules | `(tactic| walk_at "rd") => `(tactic| first
  | with_reducible refine rd_lstRg ?_
  | with_reducible refine rd_tRg1 ?_
  | with_reducible refine rd_tRg2 ?_
  | with_reducible refine rd_rg1 ?_
  | with_reducible refine rd_rg2 ?_
  | ((with_reducible refine' rd_qRg ?b ?_); (case b => refine ⟨?_, ?_, ?_, ?_⟩ <;> omega))
  | with_reducible refine rd_sortSet ?_
  | with_reducible refine rd_tDGet ?_
  | with_reducible refine rd_sDPut ?_
  | with_reducible refine rd_dnew ?_
  | with_reducible refine rd_iZipS ?_
  | with_reducible refine rd_zipS ?_
  | ((with_reducible refine' rd_inI ?sq ?_); (case sq => walk_at "sq"))
  | ((with_reducible refine' rd_notInI ?sq ?_); (case sq => walk_at "sq"))
  | with_reducible refine rd_chain ?_)

local macro_rules | `(tactic| walk_at "rd") => `(tactic| first
  | with_reducible refine rd_fld ?_
  | with_reducible refine rd_par3 ?_
  | with_reducible refine rd_sFld ?_
  | with_reducible refine rd_meth ?_
  | with_reducible refine rd_make ?_
  | with_reducible refine rd_iEnT ?_
  | with_reducible refine rd_iEnL ?_
  | with_reducible refine rd_iZipSL ?_
  | with_reducible refine rd_dIn ?_
  | with_reducible refine rd_dNotIn ?_
  | with_reducible refine rd_tDGet ?_
  | with_reducible refine rd_thenT ?_
  | with_reducible refine rd_sortLam ?_
  | with_reducible refine rd_tupRg ?_
  | with_reducible refine rd_bm ?_
  | ((with_reducible refine' rd_kTupT ?sq ?_); (case sq => walk_at "sqt"))
  | ((with_reducible refine' rd_kTupL ?sq ?_); (case sq => walk_at "sq"))
  | with_reducible refine rd_sDPut ?_
  | ((with_reducible refine' rd_enT ?sq ?_); (case sq => walk_at "sqt"))
  | ((with_reducible refine' rd_enL ?sq ?_); (case sq => walk_at "sq"))
  | ((with_reducible refine' rd_zipSL ?sq ?_); (case sq => walk_at "sq")))

section
variable {P : Program} {w : World} {K : PySem.W.Frag} {mg : Str → Option Value} {base : Heap}
theorem valV_known (x : List Nat) : ∀ (more : List (List Nat)) (kvs : List (Key × V)), (valV (mergeK kvs (more.map fun w => ((.inr (S w) : Key), V.bl true))) (.inr (S x))).isSome = (decide (x ∈ more) || (valV kvs (.inr (S x))).isSome)
  | [], kvs => by simp [mergeK]
  | w :: more, kvs => by
    show (valV (mergeK (putK kvs (.inr (S w)) (V.bl true)) (more.map fun w => ((.inr (S w) : Key), V.bl true))) (.inr (S x))).isSome = _
    rw [valV_known x more, valV_put]
    by_cases e : x = w
    · subst e; simp
    · have e2 : ¬ ((.inr (S x) : Key) = .inr (S w)) := fun h => e (S_inj (Sum.inr.inj h))
      rw [if_neg e2]
      simp [e]
def knownK (ws : List (List Nat)) : List (Key × V) := mergeK [] (ws.map fun w => ((.inr (S w) : Key), V.bl true))
theorem knownK_has (ws : List (List Nat)) (x : List Nat) : (valV (knownK ws) (.inr (S x))).isSome = decide (x ∈ ws) := by
  unfold knownK
  rw [valV_known]
  simp [valV]
theorem rd_inKn {x : List Nat} {ws : List (List Nat)} {H : Hp} {Q : VK} {dk : Addr} (h : H dk = some (.dK (knownK ws))) (q : Q (.bl (decide (x ∈ ws))) H) : qDIn false (.str (S x)) (.ref dk) H Q := rd_qInK (.inr (S x)) h (by rw [knownK_has]; exact q)
theorem rd_notInKn {x : List Nat} {ws : List (List Nat)} {H : Hp} {Q : VK} {dk : Addr} (h : H dk = some (.dK (knownK ws))) (q : Q (.bl (!decide (x ∈ ws))) H) : qDIn true (.str (S x)) (.ref dk) H Q := rd_qInK (.inr (S x)) h (by rw [knownK_has]; exact q)
theorem paired_known {K : PySem.W.Frag} {H : Hp} : ∀ (ps : List Addr) (ws : List (List Nat)), ps.length = ws.length → (∀ (j : Nat) (a : Addr), ps[j]? = some a → H a = some (.tup [.str (S (ws.getD j [])), .bl true])) →
    Paired (fun p kv => SqT K H p [kV kv.1, kv.2]) ps (ws.map fun w => ((.inr (S w) : Key), V.bl true))
  | [], [], _, _ => .nil
  | [], _ :: _, h, _ => by cases h
  | _ :: _, [], h, _ => by cases h
  | p :: ps, w :: ws, h, k => .cons (SqT.of (k 0 p rfl)) (paired_known ps ws (by simpa using h) fun j a e => k (j + 1) a e)
theorem ok__law_due {f : Addr} {fd : FuncData} {z : Zed} {c : Addr} (TB : TabB base mg c z.P__law_due) (Z : Zok K mg z) (F : FunC K c "_law_due" "_law_due" s__law_due f fd) (T : Txt K mg) : FnOk P w K mg base CX0 1 f fd ["words", "table"] (sp__law_due z K) := by
  refine F.ok sc__law_due (fun vs H Q E h => by repeat (first | (obtain ⟨rfl, _⟩ := h; rfl) | obtain ⟨_, h⟩ := h)) (fun A outer s H vs Q E hr h => ?_)
  have hu := Z.tab__law_due
  refine ⟨_, (pss_cons (ps_par (i := 2) (j := 3) rfl sc__law_due.nd rfl rfl (by decide) rfl rfl (pa_cons (pe_callTy (call_dictP rfl) rfl T.n_dict boot_dict (pa_cons (pe_lc (own := [("word", 4)]) rfl sc__law_due.nd (pi_list (pv 0)) (blkOk_by (N := N__law_due) (sc := defScope s__law_due) (by decide +kernel)) (fun _ _ _ _ _ => (pg_name (i := 4) sc__law_due.nd rfl (Or.inl rfl))) (fun _ _ _ _ _ => pts_nil) (fun _ _ _ _ _ => (pe_tup (pa_cons (pv 4) (pa_cons pe_bl pa_nil))))) pa_nil)) (pa_cons (pe_lst pa_nil) pa_nil)) (by rfl))
  (pss_cons (ps_for PassesOwn.never rfl (pi_enum rfl T.n_enumerate (pa_cons (pv 0) pa_nil)) (pg_two (i := 5) (j := 4) K rfl rfl sc__law_due.nd rfl (Or.inl rfl) rfl (Or.inl rfl))
  (pss_one (ps_for PassesOwn.never rfl (pi_zipSL rfl T.n_zip (pa_cons (pe_strS [97, 98, 99, 100, 101, 102] rfl) (pa_cons (pe_ix ix_list (pv 1) (pv 5) (fun _ _ => rfl)) pa_nil))) (pg_two (i := 6) (j := 7) K rfl rfl sc__law_due.nd rfl (Or.inl rfl) rfl (Or.inl rfl))
  (pss_cons (ps_set (i := 8) sc__law_due.nd rfl (Or.inl rfl) (pe_op oq_addS (pv 4) (pv 6)))
  (pss_one (ps_if (PW.pt (pw_and (pt_cmp (pc_dnotin (hu_of hr) (pv 8) (pv 2))) (pw_and1 (pt_cmp (pc_din (hu_of hr) (pe_slice C8.sl_txt (pv 8) (po_some pe_int) po_none) (pv 2)))))) (pss_one (ps_expr (pe_bm PySem.F.plainAttrs_list PySem.F.slot_list_append PySem.F.type_list_append mt_append (pv 3) (pa_cons (pe_tup (pa_cons (pv 8) (pa_cons (pe_ix ix_list (pv 0) (pv 7) (fun _ _ => rfl)) pa_nil))) pa_nil)))) pss_nil))))))
  (pss_one (ps_ret (pe_sortLam TB rfl (by first | exact List.mem_cons_self | exact List.mem_cons_of_mem _ List.mem_cons_self) hu hr rfl T.n_sorted T.n_len ⟨rfl, rfl, rfl, by decide +kernel, rfl, by decide +kernel, by decide +kernel⟩ rfl rfl rfl (by decide +kernel) rfl (fun _ _ _ _ _ => rfl) (pa_cons (pv 3) pa_nil)))))), ?_⟩
  try dsimp only [cxOf, Cx.nox, Cx.wish]
  obtain ⟨wa, tb, T, m, N, rfl, G, hw, ⟨as, ht, hl, hr⟩, TB0, k⟩ := h
  have hle := G.le
  have m6 := G.m6
  have hpos := G.g.pos
  have hwlen := G.g.wlen
  have hasN : as.length = N := by rw [hl, G.len]
  walk_at "go"
  have wk := walk_list (K := K) (a := wa) (xs := txV (wds (tree T m N)))
  refine lc_inv (ls := txV (wds (tree T m N))) wk (fun D i acc H' => Same H H' ∧ ∃ ps : List Addr, acc = refs ps ∧ ∀ (j : Nat) (a : Addr), ps[j]? = some a → H' a = some (.tup [.str (S ((wds (tree T m N)).getD j [])), .bl true])) (by rw [txV_len, hwlen]; omega) (fun _ => rfl) (fun D i acc H' ⟨s, _⟩ => SqL.of (s _ _ hw)) (fun D nD => ⟨Same.new nD, [], rfl, fun j a e => by simp at e⟩) ?_ ?_
  · rintro D i v acc H1 Q1 hv nD hacc ⟨s1, ps, rfl, hps⟩ hD kk1
    have hi : i < (wds (tree T m N)).length := by
      have := (List.getElem?_eq_some_iff.mp hv).1
      rwa [txV_len] at this
    rw [txV_get hi] at hv
    cases hv
    rw [refs_len] at hacc
    walk_at "go"
    intro q nq
    have hD1 := (Same.new (o := .tup [.str (S ((wds (tree T m N)).getD i [])), .bl true]) nq) _ _ hD
    refine kk1 _ _ hD1 ⟨Same.updN (s1.trans (Same.new nq)) nD, ps ++ [q], refs_snoc.symm, fun j a e => ?_⟩
    have hqD : q ≠ D := (ne_of_none hD nq).symm
    by_cases hj : j < ps.length
    · rw [List.getElem?_append_left hj] at e
      have h9 := (Same.new (o := .tup [.str (S ((wds (tree T m N)).getD i [])), .bl true]) nq) _ _ (hps j a e)
      rw [upd_ne (ne_of h9 hD1 (fun z => nomatch z))]; exact h9
    · have hj2 : j = ps.length := by
        have := (List.getElem?_eq_some_iff.mp e).1
        simp at this; omega
      subst hj2
      rw [List.getElem?_append_right (Nat.le_refl _), Nat.sub_self] at e
      cases e
      rw [upd_ne hqD, hacc]
      exact upd_same
  · rintro D acc H1 nD hacc ⟨s1, ps, rfl, hps⟩ hD
    walk_at "go"
    rw [refs_len, txV_len] at hacc
    refine ⟨D, ps, _, rfl, SqL.of hD, paired_known ps _ hacc hps, ?_⟩
    intro dk ndk
    have sd : Same H (L2.upd H1 dk (.dK (knownK (wds (tree T m N))))) := s1.trans (Same.new ndk)
    have hdk : (L2.upd H1 dk (.dK (knownK (wds (tree T m N))))) dk = some (.dK (knownK (wds (tree T m N)))) := upd_same
    show tCons _ _ _ (L2.upd H1 dk (.dK (knownK (wds (tree T m N))))) _
    generalize L2.upd H1 dk (.dK (knownK (wds (tree T m N)))) = H2 at *
    walk_at "go"
    intro fo nfo
    walk_at "go"
    have nfH : H fo = none := by
      cases e : H fo with
      | none => rfl
      | some o => rw [sd _ _ e] at nfo; cases nfo
    let J : List (List Nat × List Nat) → Hp → Prop := fun bs H' => Same H H' ∧ H' dk = some (.dK (knownK (wds (tree T m N)))) ∧ Prs H' fo bs
    have Jsame : ∀ bs H' H2, J bs H' → Same H' H2 → J bs H2 := fun bs H' H2 ⟨j1, j2, j3⟩ s => ⟨j1.trans s, s _ _ j2, j3.kq (Kq.of s)⟩
    have J0 : J [] (L2.upd H2 fo (.lst [])) := ⟨sd.trans (Same.new nfo), (Same.new nfo) _ _ hdk, [], upd_same, rfl, fun i a b e => by simp at e⟩
    have hfdk : fo ≠ dk := (ne_of_none hdk nfo).symm
    walk_at "go"
    refine rd_enL (SqL.of (J0.1 _ _ hw)) ?_
    refine forP (n := N) (by have := walk_enum (K := K) (a := wa) (xs := txV (wds (tree T m N))); rw [txV_len, hwlen] at this; exact this) (fun n σ' H' => ∃ v4 v5 v6 v7 v8, σ' = [some (.ref wa), some (.ref tb), some (.ref dk), some (.ref fo), v4, v5, v6, v7, v8] ∧ J (upR T m N n 0) H') ⟨_, _, _, _, _, rfl, J0⟩ (fun i σ' H' _ ⟨_, _, _, _, _, _, j⟩ => SqL.of (j.1 _ _ hw)) ?_ ?_
    · rintro n σ' H3 T1 x y hn ⟨v4, v5, v6, v7, v8, rfl, j3⟩ n1 hxx hy
      cases hxx
      rw [txV_get (by rw [hwlen]; exact hn)] at hy
      cases hy
      have j4 := Jsame _ _ _ j3 (Same.new n1 (o := .tup [.int (n : Nat), .str (S ((wds (tree T m N)).getD n []))]))
      obtain ⟨b, hb⟩ : ∃ a, as[n]? = some a := ⟨_, List.getElem?_eq_getElem (by omega)⟩
      have hrb : H b = some (.lst (rowV (T.getD n []))) := row_of hl hr hb
      walk_at "go"
      refine rd_ixL (SqL.of (j4.1 _ _ ht)) (at_vI (getElem?_refs hb)) ?_
      walk_at "go"
      refine rd_zipSL (SqL.of (j4.1 _ _ hrb)) ?_
      refine forP (n := m) (by have := walk_zipSL (K := K) (l := [97, 98, 99, 100, 101, 102]) (b := b) (ys := rowV (T.getD n [])) (by rw [rowV_len, G.g.row n hn]; exact m6); rw [rowV_len, G.g.row n hn] at this; exact this) (fun j σ' H' => ∃ v6 v7 v8, σ' = [some (.ref wa), some (.ref tb), some (.ref dk), some (.ref fo), some (.str (S (W T m N n))), some (.int (n : Nat)), v6, v7, v8] ∧ J (upR T m N n j) H') ⟨_, _, _, rfl, j4⟩ (fun i σ' H' _ ⟨_, _, _, _, j⟩ => SqL.of (j.1 _ _ hrb)) ?_ ?_
      · rintro j σ' H4 T2 x y hj ⟨v6, v7, v8, rfl, j5⟩ n2 hx hy
        have hxx : x = .str (S [97 + j]) := by
          have hj6 : j < 6 := by omega
          match j, hj6, hx with
          | 0, _, h => exact (Option.some.inj h).symm
          | 1, _, h => exact (Option.some.inj h).symm
          | 2, _, h => exact (Option.some.inj h).symm
          | 3, _, h => exact (Option.some.inj h).symm
          | 4, _, h => exact (Option.some.inj h).symm
          | 5, _, h => exact (Option.some.inj h).symm
        subst hxx
        rw [rowV_get (by rw [G.g.row n hn]; exact hj)] at hy
        have hy2 : vI (at2 T n j) = y := Option.some.inj hy
        subst hy2
        have hv := G.g.lt n j hn hj
        have hWn := G.g.W_len n hn
        have j6 := Jsame _ _ _ j5 (Same.new n2 (o := .tup [.str (S [97 + j]), vI (at2 T n j)]))
        generalize L2.upd H4 T2 (.tup [.str (S [97 + j]), vI (at2 T n j)]) = H5 at *
        have hiff := G.g.rule_iff G.p hn hj
        rw [← G.g.mem_wds, ← G.g.mem_wds] at hiff
        have etl : (W T m N n ++ [97 + j]).drop 1 = (W T m N n ++ [97 + j]).tail := List.drop_one
        walk_at "go"
        refine rd_cat (by show _ + 1 ≤ 100000; omega) ?_
        walk_at "go"
        refine rd_notInKn j6.2.1 ?_
        walk_at "go"
        by_cases h1 : W T m N n ++ [97 + j] ∈ wds (tree T m N)
        · have hR : Mon.rule T m N n j = false := by
            cases hR : Mon.rule T m N n j with
            | false => rfl
            | true => exact absurd h1 (hiff.mp hR).1
          rw [decide_eq_true h1]
          walk_at "go"
          exact ⟨_, _, _, rfl, by rw [upR_no hR]; exact j6⟩
        · rw [decide_eq_false h1]
          walk_at "go"
          refine rd_slS_from (by simp; omega) (by omega) ?_
          rw [show ((1 : Int)).toNat = 1 from rfl, etl]
          walk_at "go"
          refine rd_inKn j6.2.1 ?_
          walk_at "go"
          by_cases h2 : (W T m N n ++ [97 + j]).tail ∈ wds (tree T m N)
          · have hR : Mon.rule T m N n j = true := hiff.mpr ⟨h1, h2⟩
            rw [decide_eq_true h2]
            obtain ⟨bs, hDl, _⟩ := id j6.2.2
            walk_at "go"
            refine ⟨tyL hDl, ?_⟩
            walk_at "go"
            refine rd_ixL (SqL.of (j6.1 _ _ hw)) (at_vI (v := .str (S (W T m N (at2 T n j)))) (txV_get (by rw [hwlen]; exact hv))) ?_
            walk_at "go"
            intro q nq
            walk_at "go"
            have j7 := Jsame _ _ _ j6 (Same.new nq (o := .tup [.str (S (W T m N n ++ [97 + j])), .str (S (W T m N (at2 T n j)))]))
            obtain ⟨cs, c1, c2, c3⟩ := prs_snoc (q := q) (b := (W T m N n ++ [97 + j], W T m N (at2 T n j))) (H' := L2.upd (L2.upd H5 q (.tup [.str (S (W T m N n ++ [97 + j])), .str (S (W T m N (at2 T n j)))])) fo (.lst (refs bs ++ [.ref q]))) j7.2.2 (by rw [upd_ne (ne_of_none hDl nq).symm, upd_same]) (fun a' xs h => by
              have hne : a' ≠ fo := ne_of h (show (L2.upd H5 q (.tup [.str (S (W T m N n ++ [97 + j])), .str (S (W T m N (at2 T n j)))])) fo = some (.lst (refs bs)) by rw [upd_ne (ne_of_none hDl nq)]; exact hDl) (fun z => nomatch z)
              rw [upd_ne hne]; exact h)
            have ecs : refs cs = refs bs := by
              have h9 := c1
              rw [upd_ne (ne_of_none hDl nq), hDl] at h9
              exact (HO.lst.inj (Option.some.inj h9)).symm
            have hlen := upR_len (T := T) (m := m) (N := N) (n := n) (j := j)
            have hnm : n * m ≤ 2000 * 6 := Nat.mul_le_mul (by omega) m6
            refine rd_app (by rw [upd_ne (ne_of_none hDl nq)]; exact hDl) (by rw [← ecs, refs_len, c2]; omega) ?_
            walk_at "go"
            refine ⟨_, _, _, rfl, ?_⟩
            rw [upR_yes hR]
            exact ⟨Same.updN j7.1 nfH, by rw [upd_ne hfdk.symm]; exact j7.2.1, c3 (by rw [upd_same, ecs])⟩
          · have hR : Mon.rule T m N n j = false := by
              cases hR : Mon.rule T m N n j with
              | false => rfl
              | true => exact absurd (hiff.mp hR).2 h2
            rw [decide_eq_false h2]
            walk_at "go"
            exact ⟨_, _, _, rfl, by rw [upR_no hR]; exact j6⟩
      · rintro σ' H4 ⟨v6, v7, v8, rfl, j5⟩
        exact ⟨_, _, _, _, _, rfl, by rw [← upR_row]; exact j5⟩
    · rintro σ' H3 ⟨v4, v5, v6, v7, v8, rfl, j3⟩
      rw [upR_all] at j3
      obtain ⟨cs, c1, c2⟩ := prs_pairs (K := K) j3.2.2
      have sm := rules_small G
      walk_at "go"
      refine ⟨fo, refs cs, rules T m N, rfl, SqL.of c1, c2, Nat.le_trans sm.1 (by decide), sm.2, G.g.rules_sorted, Tabs.same TB0 j3.1, fun p H4 e4 t4 np => ?_⟩
      have P4 : Prs H4 fo (rules T m N) := j3.2.2.kq (kq_extN e4)
      have E4 : ExtN H H4 := (ExtN.of j3.1).trans e4
      refine k p _ (fun o ho => ?_) (E4.trans (ExtN.of (Same.new np))) (Tabs.same t4 (Same.new np)) ?_
      · by_cases hp2 : ∃ ps, o = .tbl ps
        · exact hp2
        · have := E4 p o ho (fun ps e => hp2 ⟨ps, e⟩)
          rw [np] at this
          cases this
      · obtain ⟨ds, d1, d2, d3⟩ := P4
        have e5 : refs ds = refs cs := by
          have h9 := (kq_extN e4).1 _ _ c1
          rw [d1] at h9
          exact HO.lst.inj (Option.some.inj h9)
        refine ⟨ds, by rw [upd_same, e5], d2, fun i b q q1 q2 => ?_⟩
        have := d3 i b q q1 q2
        rw [upd_ne (ne_of_none this np)]
        exact this
/-- the parts that begin ahead of b -/
def pU (w : List Nat) (b : Nat) : List (List Nat) := (List.range b).flatMap fun b => ((List.range (w.length + 1 - b)).filter fun i => decide (i < w.length)).map fun i => (w.drop b).take i
theorem pU_succ (w : List Nat) (b : Nat) : pU w (b + 1) = pU w b ++ ((List.range (w.length + 1 - b)).filter fun i => decide (i < w.length)).map fun i => (w.drop b).take i := by
  unfold pU; rw [List.range_succ, List.flatMap_append]; simp
theorem pU_len (w : List Nat) (b : Nat) : (pU w b).length ≤ b * (w.length + 1) := by
  have h := flat_len (fun b => ((List.range (w.length + 1 - b)).filter fun i => decide (i < w.length)).map fun i => (w.drop b).take i) (w.length + 1) (List.range b) fun n _ => by
    rw [List.length_map]
    exact Nat.le_trans (List.length_filter_le _ _) (by simp)
  rw [List.length_range] at h
  exact h
theorem ok__law_parts {f : Addr} {fd : FuncData} (F : Fun K "_law_parts" "_law_parts" s__law_parts f fd) (T : Txt K mg) : FnOk P w K mg base CX0 1 f fd ["word"] (sp__law_parts K) := by
  refine F.ok sc__law_parts (fun vs H Q E h => by repeat (first | (obtain ⟨rfl, _⟩ := h; rfl) | obtain ⟨_, h⟩ := h)) (fun cdv A outer s H vs Q E hr h => ?_)
  refine ⟨_, (pss_cons (ps_set (i := 1) sc__law_parts.nd rfl (Or.inl rfl) (pe_lst pa_nil))
  (pss_cons (ps_for PassesOwn.never rfl (pi_range1 rfl T.n_range (pa_cons (pe_callB cq_lenS rfl T.n_len boot_len (pa_cons (pv 0) pa_nil)) pa_nil)) (pg_name (i := 2) sc__law_parts.nd rfl (Or.inr rfl))
  (pss_one (ps_expr (pe_bm PySem.F.plainAttrs_list PySem.F.slot_list_extend PySem.F.type_list_extend mt_extend (pv 1) (pa_cons (pe_lc (own := [("end", 3)]) rfl sc__law_parts.nd (pi_range2 rfl T.n_range (pa_cons (pv 2) (pa_cons (pe_op op_add (pe_callB cq_lenS rfl T.n_len boot_len (pa_cons (pv 0) pa_nil)) pe_int) pa_nil))) (blkOk_by (N := N__law_parts) (sc := defScope s__law_parts) (by decide +kernel)) (fun _ _ _ _ _ => (pg_name (i := 3) sc__law_parts.nd rfl (Or.inl rfl))) (fun _ _ _ _ _ => (pts_one (pt_cmpR op_lt (pe_op op_sub (pv 3) (pv 2)) (pe_callB cq_lenS rfl T.n_len boot_len (pa_cons (pv 0) pa_nil)) (nomark _)))) (fun _ _ _ _ _ => (pe_slice C8.sl_txt (pv 0) (po_some (pv 2)) (po_some (pv 3))))) pa_nil)))))
  (pss_one (ps_ret (pv 1))))), ?_⟩
  try dsimp only [cxOf, Cx.nox, Cx.wish]
  obtain ⟨w, rfl, hw, k⟩ := h
  walk_at "go"
  intro p np
  walk_at "go"
  refine forR (n := w.length) (fun b σ' H' => ∃ v2 v3, σ' = [some (.str (S w)), some (.ref p), v2, v3] ∧ Same H H' ∧ H' p = some (.lst (txV (pU w b)))) ⟨_, _, rfl, Same.new np, upd_same⟩ ?_ ?_
  · rintro b σ' H1 hb ⟨v2, v3, rfl, s1, hp⟩
    walk_at "go"
    refine ⟨tyL hp, ?_⟩
    walk_at "go"
    rw [show ((w.length : Int) + 1 - (0 + (b : Int))).toNat = w.length + 1 - b by omega]
    refine lcR (fun i => decide (i < w.length)) (fun i => .str (S ((w.drop b).take i))) (by omega) (fun _ => rfl) ?_ ?_ ?_
    · intro i hi H2 s2 Q2 q2
      walk_at "go"
      rw [show decide ((0 + (b : Int)) + (i : Int) - (0 + (b : Int)) < (w.length : Int)) = decide (i < w.length) by rw [decide_eq_decide]; omega]
      exact q2 _ (Same.refl _)
    · intro i hi hy H2 s2 Q2 q2
      walk_at "go"
      try refine rd_slS_mid (by omega) (by omega) (by omega) (by omega) ?_
      rw [show ((0 + (b : Int)) : Int).toNat = b by omega, show ((0 + (b : Int)) + (i : Int) - (0 + (b : Int))).toNat = i by omega]
      exact q2 _ (Same.refl _)
    · intro D H2 nD s2 hD
      walk_at "go"
      have hp2 := s2 _ _ hp
      have hlen := pU_len w b
      have hb2 : b * (w.length + 1) ≤ 100 * 101 := Nat.mul_le_mul (by omega) (by omega)
      have hfl : (((List.range (w.length + 1 - b)).filter fun i => decide (i < w.length)).map fun i => V.str (S ((w.drop b).take i))).length ≤ 101 := by
        rw [List.length_map]
        exact Nat.le_trans (List.length_filter_le _ _) (by simp; omega)
      refine ⟨p, D, _, _, rfl, rfl, hp2, hD, sz (by rw [txV_len]; omega), ?_⟩
      refine ⟨_, _, rfl, Same.updN (s1.trans s2) np, ?_⟩
      rw [upd_same, pU_succ]
      unfold txV
      rw [List.map_append, List.map_map]
      rfl
  · rintro σ' H1 ⟨v2, v3, rfl, s1, hp⟩
    walk_at "go"
    exact k p H1 np s1 hp
end
end My
namespace My
open PySem PySem.Spec L2 SX LamX Mon
open PyProof.Rows hiding St
local macro_rules | `(tactic| walk_at "kb") => `(tactic| first | exact kb_str_str | exact kb_str_int | exact kb_str_bool | exact kb_str_list | exact kb_str_tuple | exact kb_int_str | exact kb_int_int | exact kb_int_bool | exact kb_int_list | exact kb_int_tuple | exact kb_bool_str | exact kb_bool_int | exact kb_bool_bool | exact kb_bool_list | exact kb_bool_tuple | exact kb_list_str | exact kb_list_int | exact kb_list_bool | exact kb_list_list | exact kb_list_tuple | exact kb_tuple_str | exact kb_tuple_int | exact kb_tuple_bool | exact kb_tuple_list | exact kb_tuple_tuple | exact kb_NoneType_str | exact kb_NoneType_int | exact kb_NoneType_bool | exact kb_NoneType_list | exact kb_NoneType_tuple)
local macro_rules | `(tactic| walk_at "hp") => `(tactic| first | assumption | exact upd_same | (refine (upd_ne (by first | assumption | (apply Ne.symm; assumption))).trans ?_; walk_at "hp"))
local macro_rules | `(tactic| walk_at "sq") => `(tactic| first | assumption | exact SqL.of (by walk_at "hp"))
local macro_rules | `(tactic| walk_at "sqt") => `(tactic| first | assumption | exact SqT.of (by walk_at "hp"))
local macro_rules | `(tactic| walk_at "ar") => `(tactic| first | omega | (dsimp only; omega) | (unfold CMul; omega) | (unfold CDiv; omega) | (unfold CPow; refine ⟨?_, ?_, ?_⟩ <;> decide) | (simp only [List.length_cons, List.length_nil]; decide))
local macro_rules | `(tactic| walk_at "rd") => `(tactic| first
  | with_reducible refine rd_seq ?_
  | with_reducible refine rd_asg ?_
  | with_reducible refine rd_if ?_
  | with_reducible refine rd_ret ?_
  | with_reducible refine rd_drop ?_
  | with_reducible refine rd_name ?_
  | with_reducible refine rd_sub ?_
  | ((with_reducible refine' rd_var ?e ?_); (case e => exact rfl))
  | with_reducible refine rd_c ?_
  | with_reducible refine rd_op ?_
  | with_reducible refine rd_un ?_
  | with_reducible refine rd_I0 ?_
  | ((with_reducible refine' rd_I ?c ?_); (case c => walk_at "ar"))
  | with_reducible refine rd_U ?_
  | with_reducible refine rd_eqI ?_
  | with_reducible refine rd_neI ?_
  | with_reducible refine rd_eqS ?_
  | with_reducible refine rd_neS ?_
  | with_reducible refine rd_eqB ?_
  | with_reducible refine rd_neB ?_
  | with_reducible refine rd_test ?_
  | with_reducible refine rd_B ?_
  | with_reducible refine rd_and ?_
  | with_reducible refine rd_or ?_
  | with_reducible refine rd_not ?_
  | with_reducible refine rd_andV ?_
  | with_reducible refine rd_orV ?_
  | with_reducible refine rd_notV ?_
  | with_reducible refine rd_ifE ?_
  | with_reducible refine rd_isN ?_
  | with_reducible refine rd_notN ?_
  | with_reducible refine rd_cons ?_
  | with_reducible refine rd_nil ?_
  | with_reducible refine rd_lst ?_
  | with_reducible refine rd_tup ?_
  | with_reducible refine rd_CB ?_
  | with_reducible refine rd_call ?_
  | with_reducible refine rd_sl ?_
  | with_reducible refine rd_part ?_
  | with_reducible refine rd_nopart ?_
  | with_reducible refine rd_par ?_
  | with_reducible refine rd_two ?_
  | with_reducible refine rd_next ?_
  | with_reducible refine rd_retN ?_
  | with_reducible refine rd_bool ?_
  | with_reducible refine rd_int ?_
  | with_reducible refine rd_intI ?_
  | with_reducible refine rd_intB ?_
  | with_reducible refine rd_ltS ?_
  | with_reducible refine rd_leS ?_
  | with_reducible refine rd_gtS ?_
  | with_reducible refine rd_geS ?_
  | with_reducible refine rd_inC ?_
  | with_reducible refine rd_notInC ?_
  | with_reducible refine rd_abs ?_
  | with_reducible refine rd_max2 ?_
  | with_reducible refine rd_min2 ?_
  | with_reducible refine rd_M1 ?_
  | with_reducible refine rd_isStr ?_
  | ((with_reducible refine' rd_len ?b ?_); (case b => (simp only [List.length_cons, List.length_nil]; decide)))
  | ((with_reducible refine' rd_listS ?b ?_); (case b => first | (simp only [List.length_take, List.length_cons, List.length_nil]; omega) | omega))
  | ((with_reducible refine' rd_isi ?ty ?h ?_); (case ty => first | exact ty_str | exact ty_int | exact ty_bl | exact ty_non | exact ty_lst (by walk_at "hp") | exact ty_tup (by walk_at "hp")); (case h => walk_at "kb"))
  | with_reducible refine rd_lc ?_
  | with_reducible refine rd_for ?_
  | with_reducible refine rd_iList ?_
  | with_reducible refine rd_iTup ?_
  | with_reducible refine rd_iRng1 ?_
  | with_reducible refine rd_iRng2 ?_
  | with_reducible refine rd_iRng3 ?_
  | with_reducible refine rd_iStr ?_
  | with_reducible refine rd_qIs ?_
  | with_reducible refine rd_whb ?_
  | ((with_reducible refine' rd_qIl ?sq ?_); (case sq => walk_at "sq"))
  | ((with_reducible refine' rd_qItu ?sq ?_); (case sq => walk_at "sqt"))
  | ((with_reducible refine' rd_qIr1 ?b1 ?b2 ?_); (case b1 => walk_at "ar"); (case b2 => walk_at "ar"))
  | ((with_reducible refine' rd_qIr2 ?b1 ?b2 ?b3 ?b4 ?_); (case b1 => walk_at "ar"); (case b2 => walk_at "ar"); (case b3 => walk_at "ar"); (case b4 => walk_at "ar"))
  | ((with_reducible refine' rd_qIr3 ?b1 ?b2 ?b3 ?b4 ?_); (case b1 => walk_at "ar"); (case b2 => walk_at "ar"); (case b3 => walk_at "ar"); (case b4 => walk_at "ar"))
  | ((with_reducible refine' rd_mulS ?b1 ?b2 ?b3 ?_); (case b1 => walk_at "ar"); (case b2 => walk_at "ar"); (case b3 => walk_at "ar"))
  | ((with_reducible refine' rd_slS_to ?b1 ?b2 ?_); (case b1 => walk_at "ar"); (case b2 => walk_at "ar"))
  | ((with_reducible refine' rd_slS_from ?b1 ?b2 ?_); (case b1 => walk_at "ar"); (case b2 => walk_at "ar"))
  | ((with_reducible refine' rd_slS_mid ?b1 ?b2 ?b3 ?b4 ?_); (case b1 => walk_at "ar"); (case b2 => walk_at "ar"); (case b3 => walk_at "ar"); (case b4 => walk_at "ar"))
  | ((with_reducible refine' rd_slL ?sq ?_); (case sq => walk_at "sq"))
  | with_reducible refine rd_true ?_
  | with_reducible refine rd_false ?_
  | with_reducible refine rd_nt ?_
  | with_reducible refine rd_nf ?_
  | ((with_reducible refine' rd_decT ?h ?_); (case h => omega))
  | ((with_reducible refine' rd_decF ?h ?_); (case h => omega))
  | ((with_reducible refine' rd_ndecT ?h ?_); (case h => omega))
  | ((with_reducible refine' rd_ndecF ?h ?_); (case h => omega))
  | ((with_reducible refine' rd_evT ?h ?_); (case h => first | exact rfl | (simp; done)))
  | ((with_reducible refine' rd_evF ?h ?_); (case h => first | exact rfl | (simp; done)))
  | ((with_reducible refine' rd_ixL ?sq ?a1 ?_); (case sq => walk_at "sq"); (case a1 => first | exact rfl | exact at_of (by omega) (by assumption)))
  | ((with_reducible refine' rd_ixT ?sq ?a1 ?_); (case sq => walk_at "sqt"); (case a1 => first | exact rfl | exact at_of (by omega) (by assumption)))
  | ((with_reducible refine' rd_lenL ?sq ?_); (case sq => walk_at "sq"))
  | ((with_reducible refine' rd_lenT ?sq ?_); (case sq => walk_at "sqt"))
  | ((with_reducible refine' rd_setL ?h ?j ?_); (case h => walk_at "hp"); (case j => exact rfl); (with_reducible refine id ?_))
  | ((with_reducible refine' rd_strlen ?l ?_); (case l => walk_at "ar"))
  | ((with_reducible refine' rd_cat ?l ?_); (case l => walk_at "ar")))
local macro_rules | `(tactic| walk_at "go") => `(tactic| ((try dsimp only); (repeat (walk_at "rd"))))
local macro_rules | `(tactic| walk_at "rd") => `(tactic| first
  | with_reducible refine rd_lstRg ?_
  | with_reducible refine rd_tRg1 ?_
  | with_reducible refine rd_tRg2 ?_
  | with_reducible refine rd_rg1 ?_
  | with_reducible refine rd_rg2 ?_
  | ((with_reducible refine' rd_qRg ?b ?_); (case b => refine ⟨?_, ?_, ?_, ?_⟩ <;> omega))
  | with_reducible refine rd_sortSet ?_
  | with_reducible refine rd_tDGet ?_
  | with_reducible refine rd_sDPut ?_
  | with_reducible refine rd_dnew ?_
  | with_reducible refine rd_iZipS ?_
  | with_reducible refine rd_zipS ?_
  | ((with_reducible refine' rd_inI ?sq ?_); (case sq => walk_at "sq"))
  | ((with_reducible refine' rd_notInI ?sq ?_); (case sq => walk_at "sq"))
  | with_reducible refine rd_chain ?_)

local macro_rules | `(tactic| walk_at "rd") => `(tactic| first
  | with_reducible refine rd_fld ?_
  | with_reducible refine rd_par3 ?_
  | with_reducible refine rd_sFld ?_
  | with_reducible refine rd_meth ?_
  | with_reducible refine rd_make ?_
  | with_reducible refine rd_iEnT ?_
  | with_reducible refine rd_iEnL ?_
  | with_reducible refine rd_iZipSL ?_
  | with_reducible refine rd_dIn ?_
  | with_reducible refine rd_dNotIn ?_
  | with_reducible refine rd_tDGet ?_
  | with_reducible refine rd_thenT ?_
  | with_reducible refine rd_sortLam ?_
  | with_reducible refine rd_tupRg ?_
  | with_reducible refine rd_bm ?_
  | ((with_reducible refine' rd_kTupT ?sq ?_); (case sq => walk_at "sqt"))
  | ((with_reducible refine' rd_kTupL ?sq ?_); (case sq => walk_at "sq"))
  | with_reducible refine rd_sDPut ?_
  | ((with_reducible refine' rd_enT ?sq ?_); (case sq => walk_at "sqt"))
  | ((with_reducible refine' rd_enL ?sq ?_); (case sq => walk_at "sq"))
  | ((with_reducible refine' rd_zipSL ?sq ?_); (case sq => walk_at "sq")))

section
variable {P : Program} {w : World} {K : PySem.W.Frag} {mg : Str → Option Value} {base : Heap}
theorem ok__law_by_words {f : Addr} {fd : FuncData} (F : Fun K "_law_by_words" "_law_by_words" s__law_by_words f fd) (T : Txt K mg) (C__law_parts : Cal P w K mg base 1 "_law_parts" (sp__law_parts K)) : FnOk P w K mg base CX0 2 f fd ["rows", "found", "words", "most"] (sp__law_by_words K) := by
  refine F.ok sc__law_by_words (fun vs H Q E h => by repeat (first | (obtain ⟨rfl, _⟩ := h; rfl) | obtain ⟨_, h⟩ := h)) (fun cdv A outer s H vs Q E hr h => ?_)
  refine ⟨_, (pss_cons (ps_par3 (i := 4) (j := 5) (l := 6) rfl sc__law_by_words.nd rfl rfl rfl (by decide) (by decide) (by decide) rfl rfl rfl (pa_cons (pe_lst (pa_cons (pe_tup (pa_cons (pe_strS [] rfl) (pa_cons (pe_ix ix_list (pv 1) pe_int (fun _ _ => rfl)) pa_nil))) pa_nil)) (pa_cons (pe_lst pa_nil) (pa_cons (pe_dictZR rfl (Room.u65 hr) rfl T.n_dict rfl T.n_zip (pv 1) (prg_1 rfl T.n_range (pe_callB cq_len rfl T.n_len boot_len (pa_cons (pv 1) pa_nil)))) pa_nil))) (by rfl))
  (pss_cons (ps_for PassesOwn.never rfl (pi_range1 rfl T.n_range (pa_cons (pv 3) pa_nil)) (pg_name (i := 7) sc__law_by_words.nd rfl (Or.inl rfl))
  (pss_cons (ps_set (i := 8) sc__law_by_words.nd rfl (Or.inl rfl) (pe_lst pa_nil))
  (pss_cons (ps_for PassesOwn.never rfl (pi_list (pv 4)) (pg_two (i := 9) (j := 10) K rfl rfl sc__law_by_words.nd rfl (Or.inl rfl) rfl (Or.inl rfl))
  (pss_one (ps_for PassesOwn.never rfl (pi_zipSL rfl T.n_zip (pa_cons (pe_strS [97, 98, 99, 100, 101, 102] rfl) (pa_cons (pv 0) pa_nil))) (pg_two (i := 11) (j := 12) K rfl rfl sc__law_by_words.nd rfl (Or.inl rfl) rfl (Or.inr rfl))
  (pss_one (ps_expr (pe_bm PySem.F.plainAttrs_list PySem.F.slot_list_append PySem.F.type_list_append mt_append (pv 8) (pa_cons (pe_tup (pa_cons (pe_op oq_addS (pv 9) (pv 11)) (pa_cons (pe_tupleOf rfl T.n_tuple (pe_lc (own := [("image", 15)]) rfl sc__law_by_words.nd (pi_tup (pv 10)) (blkOk_by (N := N__law_by_words) (sc := defScope s__law_by_words) (by decide +kernel)) (fun _ _ _ _ _ => (pg_name (i := 15) sc__law_by_words.nd rfl (Or.inl rfl))) (fun _ _ _ _ _ => pts_nil) (fun _ _ _ _ _ => (pe_ix (ix_tupK K rfl) (pv 12) (pv 15) (fun _ _ => rfl))))) pa_nil))) pa_nil)))))))
  (pss_cons (ps_for PassesOwn.never rfl (pi_list (pv 8)) (pg_two (i := 9) (j := 10) K rfl rfl sc__law_by_words.nd rfl (Or.inl rfl) rfl (Or.inl rfl))
  (pss_cons (ps_set (i := 13) sc__law_by_words.nd rfl (Or.inl rfl) (pe_ix ix_list (pv 2) (pe_dget (hu_of hr) (pv 6) (pv 10) (fun _ _ => rfl)) (fun _ _ => rfl)))
  (pss_one (ps_if (PW.pt (pw_and (pt_cmpR op_ne (pv 13) (pv 9) (nomark _)) (pw_and1 (pt_cmpR (op_eqD hr.units) (pe_lc (own := [("part", 14)]) rfl sc__law_by_words.nd (pi_list (pe_c C__law_parts hr (by decide) rfl (pa_cons (pv 9) pa_nil))) (blkOk_by (N := N__law_by_words) (sc := defScope s__law_by_words) (by decide +kernel)) (fun _ _ _ _ _ => (pg_name (i := 14) sc__law_by_words.nd rfl (Or.inl rfl))) (fun _ _ _ _ _ => (pts_one (pt_cmpR (op_notInQ K rfl) (pv 14) (pv 2) rfl))) (fun _ _ _ _ _ => (pv 14))) (pe_lst pa_nil) (nomark _))))) (pss_one (ps_expr (pe_bm PySem.F.plainAttrs_list PySem.F.slot_list_append PySem.F.type_list_append mt_append (pv 5) (pa_cons (pe_tup (pa_cons (pv 9) (pa_cons (pv 13) pa_nil))) pa_nil)))) pss_nil))))
  (pss_one (ps_set (i := 4) sc__law_by_words.nd rfl (Or.inl rfl) (pv 8)))))))
  (pss_one (ps_ret (pv 5))))), ?_⟩
  try dsimp only [cxOf, Cx.nox, Cx.wish]
  obtain ⟨q, f, w, rows, sz, N, most, rfl, M, D, hN, hpow, hmost, ⟨rs, hq, hrl, hr⟩, ⟨fs, hf, hfl, hfr⟩, hw, k⟩ := h
  have hr1 := M.r1
  have hr6 := M.r6
  have hs4 := M.s4
  have g := D.good
  have hF := D.stop
  have hFp := fdT_pos (rows := rows) (sz := sz) N
  have hrs : (refs rs).length = rows.length := by rw [refs_len, hrl]
  have hwds : wsT rows sz N = wds (tree (tbT rows sz N) rows.length N) := D.words N (Nat.le_refl _)
  have hwlen : (wsT rows sz N).length = N := by rw [hwds]; exact g.wlen
  have hWn : ∀ n, (wsT rows sz N).getD n [] = W (tbT rows sz N) rows.length N n := fun n => by rw [hwds]; rfl
  obtain ⟨a0, ha0⟩ : ∃ a, fs[0]? = some a := ⟨_, List.getElem?_eq_getElem (by omega)⟩
  have hf0 : H a0 = some (.tup (rowV (Done.act rows sz []))) := by
    have h9 := hfr 0 a0 ((fdT rows sz N).getD 0 []) ha0 (get_getD [] hFp)
    have h8 := D.F_run [] (fun c hc => by cases hc)
    rw [run_nil] at h8
    rw [h8] at h9
    exact h9
  have hlt : ∀ t u, u ∈ wl rows.length t → Lt rows.length u ∧ u.length = t := fun t u hu => (mem_wl t u).mp hu
  have hpw : ∀ t, t ≤ most → rows.length ^ t ≤ 300 := fun t ht => Nat.le_trans (Nat.pow_le_pow_right (by omega) ht) hpow
  walk_at "go"
  refine rd_ixL (SqL.of hf) (at_vI (n := 0) (getElem?_refs ha0)) ?_
  walk_at "go"
  intro t0 nt0
  walk_at "go"
  intro la nla
  walk_at "go"
  intro pa npa
  walk_at "go"
  have s1 : Same H (L2.upd H t0 (.tup [.str (S []), .ref a0])) := Same.new nt0
  have s2 := s1.trans (Same.new (o := .lst [.ref t0]) nla)
  have s3 := s2.trans (Same.new (o := .lst []) npa)
  have nlaH : H la = none := Same.nn s1 nla
  have npaH : H pa = none := Same.nn s2 npa
  have hla2 : (L2.upd (L2.upd H t0 (.tup [.str (S []), .ref a0])) la (.lst [.ref t0])) la = some (.lst [.ref t0]) := upd_same
  have hlp : la ≠ pa := ne_of_none hla2 npa
  have LY0 : LY rows sz (L2.upd (L2.upd (L2.upd H t0 (.tup [.str (S []), .ref a0])) la (.lst [.ref t0])) pa (.lst [])) la (wl rows.length 0) := by
    refine ⟨[t0], (Same.new npa) _ _ hla2, rfl, fun i a u e1 e2 => ?_⟩
    have hi : i = 0 := by have := (List.getElem?_eq_some_iff.mp e1).1; simp at this; omega
    subst hi
    cases e1
    cases e2
    exact ⟨a0, (Same.new npa) _ _ ((Same.new nla) _ _ upd_same), s3 _ _ hf0⟩
  have P0 : Prs (L2.upd (L2.upd (L2.upd H t0 (.tup [.str (S []), .ref a0])) la (.lst [.ref t0])) pa (.lst [])) pa (byW (tbT rows sz N) rows.length N 0) := ⟨[], upd_same, rfl, fun i a b e => by simp at e⟩
  generalize (L2.upd (L2.upd (L2.upd H t0 (.tup [.str (S []), .ref a0])) la (.lst [.ref t0])) pa (.lst [])) = H3 at *
  obtain ⟨z1, z2, z3, z4, z5⟩ := keys_zip (H := H3) hfl (fun i a r e1 e2 => s3 _ _ (hfr i a r e1 e2)) (fdT_nodup N)
  refine ⟨.ref f, rfl, f, rfl, ?_⟩
  walk_at "go"
  refine rd_lenL (SqL.of (s3 _ _ hf)) ?_
  walk_at "go"
  refine ⟨rfl, ((fdT rows sz N).map kk).zip fs, by rw [z1]; exact SqL.of (s3 _ _ hf), by rw [z3, refs_len, hfl], by rw [z3]; omega, z4, by rw [z2]; exact z5, fun nu nnu => ?_⟩
  rw [z2]
  have s4 : Same H (L2.upd H3 nu (.dT (numT (fdT rows sz N)))) := s3.trans (Same.new nnu)
  have LY1 := LY0.kq (Kq.of (Same.new (o := .dT (numT (fdT rows sz N))) nnu))
  have P1 := P0.kq (Kq.of (Same.new (o := .dT (numT (fdT rows sz N))) nnu))
  have hnu : (L2.upd H3 nu (.dT (numT (fdT rows sz N)))) nu = some (.dT (numT (fdT rows sz N))) := upd_same
  show tNil _ (L2.upd H3 nu (.dT (numT (fdT rows sz N)))) _
  generalize (L2.upd H3 nu (.dT (numT (fdT rows sz N)))) = H4 at *
  walk_at "go"
  refine ⟨_, _, _, rfl, ?_⟩
  walk_at "go"
  -- what the turns keep
  let J : Addr → List (List Nat) → List (List Nat × List Nat) → Hp → Prop := fun la ly bs H' => Same H H' ∧ LY rows sz H' la ly ∧ Prs H' pa bs ∧ H' nu = some (.dT (numT (fdT rows sz N)))
  have Jsame : ∀ la ly bs H' H2, J la ly bs H' → Same H' H2 → J la ly bs H2 := fun la ly bs H' H2 ⟨j1, j2, j3, j4⟩ s => ⟨j1.trans s, j2.kq (Kq.of s), j3.kq (Kq.of s), s _ _ j4⟩
  refine forR (n := most) (fun t σ' H' => ∃ la v7 v8 v9 v10 v11 v12 v13 v14 v15, σ' = [some (.ref q), some (.ref f), some (.ref w), some (.int (most : Nat)), some (.ref la), some (.ref pa), some (.ref nu), v7, v8, v9, v10, v11, v12, v13, v14, v15] ∧ la ≠ pa ∧ J la (wl rows.length t) (byW (tbT rows sz N) rows.length N t) H') ⟨la, _, _, _, _, _, _, _, _, _, rfl, hlp, s4, LY1, P1, hnu⟩ ?_ ?_
  · rintro t σ' H1 ht ⟨la, v7, v8, v9, v10, v11, v12, v13, v14, v15, rfl, hlp, j1⟩
    have hb := hpw t (by omega)
    have hb1 := hpw (t + 1) (by omega)
    have wlt := wl_len rows.length t
    have wlt1 := wl_len rows.length (t + 1)
    walk_at "go"
    intro lo nlo
    have nloH := Same.nn j1.1 nlo
    have hlopa : lo ≠ pa := let ⟨_, e, _⟩ := j1.2.2.1; (ne_of_none e nlo).symm
    have hlola : la ≠ lo := let ⟨_, e, _⟩ := j1.2.1; ne_of_none e nlo
    have j2 := Jsame _ _ _ _ _ j1 (Same.new (o := .lst []) nlo)
    have l2 : LY rows sz (L2.upd H1 lo (.lst [])) lo (lU rows.length (wl rows.length t) 0 0) := ⟨[], upd_same, rfl, fun i a u e => by simp at e⟩
    walk_at "go"
    obtain ⟨ls, hls, hlys⟩ := j1.2.1
    have kp : ∀ H', Same H1 H' → ∀ (i : Nat) (a : Addr) (u : List Nat), ls[i]? = some a → (wl rows.length t)[i]? = some u → ∃ b, H' a = some (.tup [.str (S u), .ref b]) ∧ H' b = some (.tup (rowV (Done.act rows sz u))) := fun H' s i a u e1 e2 => let ⟨b, q1, q2⟩ := hlys.2 i a u e1 e2; ⟨b, s _ _ q1, s _ _ q2⟩
    refine rd_qIl (SqL.of ((Same.new nlo) _ _ hls)) ?_
    refine forLP (ls := refs ls) (fun i σ' H' => ∃ v7 v9 v10 v11 v12 v13 v14 v15, σ' = [some (.ref q), some (.ref f), some (.ref w), some (.int (most : Nat)), some (.ref la), some (.ref pa), some (.ref nu), v7, some (.ref lo), v9, v10, v11, v12, v13, v14, v15] ∧ Same H1 H' ∧ LY rows sz H' lo (lU rows.length (wl rows.length t) i 0)) ⟨_, _, _, _, _, _, _, _, rfl, Same.new nlo, l2⟩ (fun i σ' H' _ ⟨_, _, _, _, _, _, _, _, _, s, _⟩ => SqL.of (s _ _ hls)) ?_ ?_
    · rintro i v σ' H2 hv ⟨v7, v9, v10, v11, v12, v13, v14, v15, rfl, s2, l3⟩
      obtain ⟨a, ha, rfl⟩ := refs_get hv
      have hi : i < (wl rows.length t).length := by rw [← hlys.1]; exact (List.getElem?_eq_some_iff.mp ha).1
      obtain ⟨b, hb1', hb2'⟩ := kp H2 s2 i a _ ha (get_getD [] hi)
      have hu := hlt t _ (getD_mem hi)
      have hact := D.act_map _ hu.1
      refine ⟨a, _, _, rfl, SqT.of hb1', ?_⟩
      walk_at "go"
      refine rd_zipSL (SqL.of (s2 _ _ (j1.1 _ _ hq))) ?_
      refine forP (n := rows.length) (by have := walk_zipSL (K := K) (l := [97, 98, 99, 100, 101, 102]) (b := q) (ys := refs rs) (by rw [hrs]; exact hr6); rw [hrs] at this; exact this) (fun j σ' H' => ∃ v7 v11 v12 v13 v14 v15, σ' = [some (.ref q), some (.ref f), some (.ref w), some (.int (most : Nat)), some (.ref la), some (.ref pa), some (.ref nu), v7, some (.ref lo), some (.str (S ((wl rows.length t).getD i []))), some (.ref b), v11, v12, v13, v14, v15] ∧ Same H1 H' ∧ LY rows sz H' lo (lU rows.length (wl rows.length t) i j)) ⟨_, _, _, _, _, _, rfl, s2, l3⟩ (fun j σ' H' _ ⟨_, _, _, _, _, _, _, s, _⟩ => SqL.of (s _ _ (j1.1 _ _ hq))) ?_ ?_
      · rintro j σ' H3 T1 x y hj ⟨v7, v11, v12, v13, v14, v15, rfl, s3, l4⟩ nT hx hy
        obtain ⟨c, hc, rfl⟩ := refs_get hy
        have hxx : x = .str (S [97 + j]) := by
          have hj6 : j < 6 := by omega
          match j, hj6, hx with
          | 0, _, h => exact (Option.some.inj h).symm
          | 1, _, h => exact (Option.some.inj h).symm
          | 2, _, h => exact (Option.some.inj h).symm
          | 3, _, h => exact (Option.some.inj h).symm
          | 4, _, h => exact (Option.some.inj h).symm
          | 5, _, h => exact (Option.some.inj h).symm
        subst hxx
        have s4 : Same H1 (L2.upd H3 T1 (.tup [.str (S [97 + j]), .ref c])) := s3.trans (Same.new nT)
        have l5 := l4.kq (Kq.of (Same.new (o := .tup [.str (S [97 + j]), .ref c]) nT))
        generalize L2.upd H3 T1 (.tup [.str (S [97 + j]), .ref c]) = H4 at *
        have hrow := s4 _ _ (j1.1 _ _ (hr j c (rows.getD j []) hc (get_getD [] hj)))
        obtain ⟨b2, hb3, hb4⟩ := kp H4 s4 i a _ ha (get_getD [] hi)
        have hbb : b2 = b := by
          have h9 := (kp H2 s2 i a _ ha (get_getD [] hi))
          obtain ⟨ba, hba, _⟩ := hlys.2 i a _ ha (get_getD [] hi)
          rw [s4 _ _ hba] at hb3
          rw [s2 _ _ hba] at hb1'
          cases hb3
          cases hb1'
          rfl
        subst hbb
        walk_at "go"
        refine ⟨let ⟨_, e, _⟩ := l5; tyL e, ?_⟩
        walk_at "go"
        refine rd_cat (by rw [hu.2]; show t + 1 ≤ 100000; omega) ?_
        walk_at "go"
        refine lcT (K := K) (Done.act rows sz ((wl rows.length t).getD i [])) vI (SqT.of hb4) (fun _ => true) (fun y => vI ((rows.getD j []).getD y 0)) (by rw [hact.1]; omega) (fun _ => rfl) (fun y hy => pt_yes) ?_ ?_
        · intro y hy _ H5 s5 Q5 q5
          walk_at "go"
          refine rd_ixT (SqT.of (s5 _ _ hrow)) (at_vI (rowV_get (by rw [(M.maps _ (getD_mem hj)).1]; exact hact.2 y hy))) ?_
          exact q5 _ (Same.refl _)
        · intro D5 H5 nD5 s5 hD5
          have eMul : (List.map (fun y => vI ((rows.getD j []).getD y 0)) (List.filter (fun _ => true) (Done.act rows sz ((wl rows.length t).getD i [])))) = rowV (Done.act rows sz ((wl rows.length t).getD i [] ++ [97 + j])) := by
            rw [List.filter_eq_self.mpr (fun _ _ => rfl), D.act_snoc, show 97 + j - 97 = j by omega]
            unfold rowV mul
            rw [List.map_map]; rfl
          rw [eMul] at hD5
          have s6 := s4.trans s5
          have l6 := l5.kq (Kq.of s5)
          walk_at "go"
          intro qp nqp
          have s7 := s6.trans (Same.new (o := .tup (rowV (Done.act rows sz ((wl rows.length t).getD i [] ++ [97 + j])))) nqp)
          have l7 := l6.kq (Kq.of (Same.new (o := .tup (rowV (Done.act rows sz ((wl rows.length t).getD i [] ++ [97 + j])))) nqp))
          have hqp : (L2.upd H5 qp (.tup (rowV (Done.act rows sz ((wl rows.length t).getD i [] ++ [97 + j]))))) qp = some (.tup (rowV (Done.act rows sz ((wl rows.length t).getD i [] ++ [97 + j])))) := upd_same
          generalize L2.upd H5 qp (.tup (rowV (Done.act rows sz ((wl rows.length t).getD i [] ++ [97 + j])))) = H7 at *
          walk_at "go"
          intro qa nqa
          have s8 := s7.trans (Same.new (o := .tup [.str (S ((wl rows.length t).getD i [] ++ [97 + j])), .ref qp]) nqa)
          have l8 := l7.kq (Kq.of (Same.new (o := .tup [.str (S ((wl rows.length t).getD i [] ++ [97 + j])), .ref qp]) nqa))
          have hqa : (L2.upd H7 qa (.tup [.str (S ((wl rows.length t).getD i [] ++ [97 + j])), .ref qp])) qa = some (.tup [.str (S ((wl rows.length t).getD i [] ++ [97 + j])), .ref qp]) := upd_same
          have hqp8 := (Same.new (o := .tup [.str (S ((wl rows.length t).getD i [] ++ [97 + j])), .ref qp]) nqa) _ _ hqp
          generalize L2.upd H7 qa (.tup [.str (S ((wl rows.length t).getD i [] ++ [97 + j])), .ref qp]) = H8 at *
          obtain ⟨xs, x1, x2, x3⟩ := l8.snoc hqa hqp8
          have hll := lU_len rows.length (wl rows.length t) i j
          have hmm : (wl rows.length t).length * rows.length ≤ 300 * 6 := Nat.mul_le_mul (by omega) hr6
          walk_at "go"
          refine rd_app x1 (by omega) ?_
          refine ⟨_, _, _, _, _, _, rfl, Same.updN s8 nlo, ?_⟩
          rw [lU_succ]
          exact x3
      · rintro σ' H3 ⟨v7, v11, v12, v13, v14, v15, rfl, s3, l4⟩
        exact ⟨_, _, _, _, _, _, _, _, rfl, s3, by rw [← lU_row hi]; exact l4⟩
    · rintro σ' H2 ⟨v7, v9, v10, v11, v12, v13, v14, v15, rfl, s2, l3⟩
      rw [refs_len, hlys.1, lU_all] at l3
      have j3 := Jsame _ _ _ _ _ j1 s2
      obtain ⟨ls2, hls2, hlys2⟩ := id l3
      walk_at "go"
      have hpa2 := j3.2.2.1
      obtain ⟨ps2, hps2, _⟩ := id hpa2
      refine forLP (ls := refs ls2) (fun i σ' H' => ∃ v7 v9 v10 v11 v12 v13 v14 v15, σ' = [some (.ref q), some (.ref f), some (.ref w), some (.int (most : Nat)), some (.ref la), some (.ref pa), some (.ref nu), v7, some (.ref lo), v9, v10, v11, v12, v13, v14, v15] ∧ ExB pa H2 H' ∧ Prs H' pa (byU (tbT rows sz N) rows.length N t i)) ⟨_, _, _, _, _, _, _, _, rfl, ExB.refl _ _, by rw [byU_zero]; exact hpa2⟩ (fun i σ' H' _ ⟨_, _, _, _, _, _, _, _, _, X, _⟩ => SqL.of (X _ _ hlopa hls2)) ?_ ?_
      · rintro i v σ' H3 hv ⟨v7, v9, v10, v11, v12, v13, v14, v15, rfl, X3, p3⟩
        obtain ⟨a, ha, rfl⟩ := refs_get hv
        have hi : i < (wl rows.length (t + 1)).length := by rw [← hlys2.1]; exact (List.getElem?_eq_some_iff.mp ha).1
        obtain ⟨b, hb1', hb2'⟩ := hlys2.2 i a _ ha (get_getD [] hi)
        have hu := hlt (t + 1) _ (getD_mem hi)
        have hrun := g.run_lt _ hu.1
        have hidx := D.run_idx hu.1
        have hin : Done.act rows sz ((wl rows.length (t + 1)).getD i []) ∈ fdT rows sz N := by rw [← D.F_run _ hu.1]; exact getD_mem (by rw [hF]; exact hrun)
        have evl := valV_numT (Done.act rows sz ((wl rows.length (t + 1)).getD i [])) (fdT rows sz N)
        rw [if_pos hin, hidx] at evl
        have kx : ∀ c xs, H2 c = some (.tup xs) → H3 c = some (.tup xs) := fun c xs e => X3 _ _ (ne_of e hps2 (fun z => nomatch z)) e
        have ha3 := kx _ _ hb1'
        have hb3 : H3 b = some (.tup ((kk (Done.act rows sz ((wl rows.length (t + 1)).getD i []))).map kV)) := by rw [kk_map]; exact kx _ _ hb2'
        have hnu3 := X3 _ _ (ne_of j3.2.2.2 hps2 (fun z => nomatch z)) j3.2.2.2
        have hwpa : w ≠ pa := ne_of_none hw npaH
        have hw3 := X3 _ _ hwpa (j3.1 _ _ hw)
        refine ⟨a, _, _, rfl, SqT.of ha3, ?_⟩
        have hPP : PP (tbT rows sz N) rows.length N ((wl rows.length (t + 1)).getD i []) ↔ W (tbT rows sz N) rows.length N (run (tbT rows sz N) 0 ((wl rows.length (t + 1)).getD i [])) ≠ (wl rows.length (t + 1)).getD i [] ∧ ∀ x ∈ parts ((wl rows.length (t + 1)).getD i []), x ∈ wsT rows sz N := by rw [hwds]; exact Iff.rfl
        have hyes := byU_yes (T := tbT rows sz N) (m := rows.length) (N := N) (t := t) (i := i) hi
        have hno := byU_no (T := tbT rows sz N) (m := rows.length) (N := N) (t := t) (i := i) hi
        have hbl := byU_len (T := tbT rows sz N) (m := rows.length) (N := N) (t := t) (i := i) 300 fun k hk => hpw (k + 1) (by omega)
        generalize (wl rows.length (t + 1)).getD i [] = u at *
        walk_at "go"
        refine rd_qGetT (kk (Done.act rows sz u)) hnu3 hb3 evl ?_
        walk_at "go"
        refine rd_ixL (SqL.of hw3) (at_vI (v := .str (S ((wsT rows sz N).getD (run (tbT rows sz N) 0 u) []))) (txV_get (by rw [hwlen]; exact hrun))) ?_
        rw [hWn]
        walk_at "go"
        by_cases h1 : W (tbT rows sz N) rows.length N (run (tbT rows sz N) 0 u) = u
        · have hn : ¬ PP (tbT rows sz N) rows.length N u := fun p => p.1 h1
          rw [decide_eq_true h1]
          walk_at "go"
          exact ⟨_, _, _, _, _, _, _, _, rfl, X3, by rw [hno hn]; exact p3⟩
        · rw [decide_eq_false h1]
          walk_at "go"
          refine ⟨u, rfl, by omega, fun p5 H5 np5 s5 hp5 => ?_⟩
          walk_at "go"
          refine lcL (parts u) (fun w => V.str (S w)) (SqL.of hp5) (fun x => !decide (x ∈ wsT rows sz N)) (fun w => V.str (S w)) (by have := pU_len u u.length; have e : parts u = pU u u.length := rfl; rw [e]; have : u.length * (u.length + 1) ≤ 8 * 9 := Nat.mul_le_mul (by omega) (by omega); omega) (fun _ => rfl) ?_ ?_ ?_
          · intro x hx H6 s6 Q6 q6
            walk_at "go"
            refine rd_notInS (SqL.of (s6 _ _ (s5 _ _ hw3))) ?_
            walk_at "go"
            exact q6 _ (Same.refl _)
          · intro x hx hy H6 s6 Q6 q6
            walk_at "go"
            exact q6 _ (Same.refl _)
          · intro D6 H6 nD6 s6 hD6
            walk_at "go"
            intro p7 np7
            have s7 : Same H6 (L2.upd H6 p7 (.lst [])) := Same.new np7
            have hD7 := s7 _ _ hD6
            have hp7 : (L2.upd H6 p7 (.lst [])) p7 = some (.lst (([] : List (List Nat)).map fun w => V.str (S w))) := upd_same
            have s8 := (s5.trans s6).trans s7
            generalize L2.upd H6 p7 (.lst []) = H7 at *
            walk_at "go"
            refine rd_eqLS (SqL.of hD7) (SqL.of hp7) (fun x hx => ?_) (fun x hx => by cases hx) ?_
            · intro c hc
              obtain ⟨bb, ii, _, _, _, rfl⟩ := mem_parts.mp (List.mem_filter.mp hx).1
              have := hu.1 c (List.mem_of_mem_drop (List.mem_of_mem_take hc))
              omega
            walk_at "go"
            have X8 : ExB pa H2 H7 := X3.trans (ExB.of s8)
            have p8 := p3.kq (Kq.of s8)
            by_cases h2 : ((parts u).filter fun x => !decide (x ∈ wsT rows sz N)) = []
            · have hy : PP (tbT rows sz N) rows.length N u := hPP.mpr ⟨h1, fun x hx => by
                have := List.filter_eq_nil_iff.mp h2 x hx
                simpa using this⟩
              rw [decide_eq_true h2]
              obtain ⟨ps8, hps8, hps8l, _⟩ := id p8
              walk_at "go"
              refine ⟨tyL hps8, ?_⟩
              walk_at "go"
              intro qa nqa
              have X9 := X8.trans (ExB.of (Same.new (o := .tup [.str (S u), .str (S (W (tbT rows sz N) rows.length N (run (tbT rows sz N) 0 u)))]) nqa))
              have p9 := p8.kq (Kq.of (Same.new (o := .tup [.str (S u), .str (S (W (tbT rows sz N) rows.length N (run (tbT rows sz N) 0 u)))]) nqa))
              have hqa : (L2.upd H7 qa (.tup [.str (S u), .str (S (W (tbT rows sz N) rows.length N (run (tbT rows sz N) 0 u)))])) qa = some (.tup [.str (S (u, W (tbT rows sz N) rows.length N (run (tbT rows sz N) 0 u)).1), .str (S (u, W (tbT rows sz N) rows.length N (run (tbT rows sz N) 0 u)).2)]) := upd_same
              generalize L2.upd H7 qa (.tup [.str (S u), .str (S (W (tbT rows sz N) rows.length N (run (tbT rows sz N) 0 u)))]) = H9 at *
              obtain ⟨xs, x1, x2, x3⟩ := p9.snoc hqa
              walk_at "go"
              refine rd_app x1 (by omega) ?_
              refine ⟨_, _, _, _, _, _, _, _, rfl, X9.trans ExB.upd, ?_⟩
              rw [hyes hy]
              exact x3
            · have hn : ¬ PP (tbT rows sz N) rows.length N u := fun p => h2 (List.filter_eq_nil_iff.mpr fun x hx => by
                have := (hPP.mp p).2 x hx
                simpa using this)
              rw [decide_eq_false h2]
              walk_at "go"
              exact ⟨_, _, _, _, _, _, _, _, rfl, X8, by rw [hno hn]; exact p8⟩
      · rintro σ' H3 ⟨v7, v9, v10, v11, v12, v13, v14, v15, rfl, X3, p3⟩
        rw [refs_len, hlys2.1, byU_all] at p3
        walk_at "go"
        refine ⟨lo, _, _, _, _, _, _, _, _, _, rfl, hlopa, fun b o e => X3 b o (ne_of_none e npaH) (j3.1 b o e), ⟨ls2, X3 _ _ hlopa hls2, hlys2.keep fun c xs e => X3 _ _ (ne_of e hps2 (fun z => nomatch z)) e⟩, p3, X3 _ _ (ne_of j3.2.2.2 hps2 (fun z => nomatch z)) j3.2.2.2⟩
  · rintro σ' H1 ⟨la, v7, v8, v9, v10, v11, v12, v13, v14, v15, rfl, hlp, j1⟩
    walk_at "go"
    exact k pa H1 npaH j1.1 j1.2.2.1
end
end My
namespace My
open PySem PySem.Spec L2 SX LamX Mon
open PyProof.Rows hiding St
local macro_rules | `(tactic| walk_at "kb") => `(tactic| first | exact kb_str_str | exact kb_str_int | exact kb_str_bool | exact kb_str_list | exact kb_str_tuple | exact kb_int_str | exact kb_int_int | exact kb_int_bool | exact kb_int_list | exact kb_int_tuple | exact kb_bool_str | exact kb_bool_int | exact kb_bool_bool | exact kb_bool_list | exact kb_bool_tuple | exact kb_list_str | exact kb_list_int | exact kb_list_bool | exact kb_list_list | exact kb_list_tuple | exact kb_tuple_str | exact kb_tuple_int | exact kb_tuple_bool | exact kb_tuple_list | exact kb_tuple_tuple | exact kb_NoneType_str | exact kb_NoneType_int | exact kb_NoneType_bool | exact kb_NoneType_list | exact kb_NoneType_tuple)
local macro_rules | `(tactic| walk_at "hp") => `(tactic| first | assumption | exact upd_same | (refine (upd_ne (by first | assumption | (apply Ne.symm; assumption))).trans ?_; walk_at "hp"))
local macro_rules | `(tactic| walk_at "sq") => `(tactic| first | assumption | exact SqL.of (by walk_at "hp"))
local macro_rules | `(tactic| walk_at "sqt") => `(tactic| first | assumption | exact SqT.of (by walk_at "hp"))
local macro_rules | `(tactic| walk_at "ar") => `(tactic| first | omega | (dsimp only; omega) | (unfold CMul; omega) | (unfold CDiv; omega) | (unfold CPow; refine ⟨?_, ?_, ?_⟩ <;> decide) | (simp only [List.length_cons, List.length_nil]; decide))
local macro_rules | `(tactic| walk_at "rd") => `(tactic| first
  | with_reducible refine rd_seq ?_
  | with_reducible refine rd_asg ?_
  | with_reducible refine rd_if ?_
  | with_reducible refine rd_ret ?_
  | with_reducible refine rd_drop ?_
  | with_reducible refine rd_name ?_
  | with_reducible refine rd_sub ?_
  | ((with_reducible refine' rd_var ?e ?_); (case e => exact rfl))
  | with_reducible refine rd_c ?_
  | with_reducible refine rd_op ?_
  | with_reducible refine rd_un ?_
  | with_reducible refine rd_I0 ?_
  | ((with_reducible refine' rd_I ?c ?_); (case c => walk_at "ar"))
  | with_reducible refine rd_U ?_
  | with_reducible refine rd_eqI ?_
  | with_reducible refine rd_neI ?_
  | with_reducible refine rd_eqS ?_
  | with_reducible refine rd_neS ?_
  | with_reducible refine rd_eqB ?_
  | with_reducible refine rd_neB ?_
  | with_reducible refine rd_test ?_
  | with_reducible refine rd_B ?_
  | with_reducible refine rd_and ?_
  | with_reducible refine rd_or ?_
  | with_reducible refine rd_not ?_
  | with_reducible refine rd_andV ?_
  | with_reducible refine rd_orV ?_
  | with_reducible refine rd_notV ?_
  | with_reducible refine rd_ifE ?_
  | with_reducible refine rd_isN ?_
  | with_reducible refine rd_notN ?_
  | with_reducible refine rd_cons ?_
  | with_reducible refine rd_nil ?_
  | with_reducible refine rd_lst ?_
  | with_reducible refine rd_tup ?_
  | with_reducible refine rd_CB ?_
  | with_reducible refine rd_call ?_
  | with_reducible refine rd_sl ?_
  | with_reducible refine rd_part ?_
  | with_reducible refine rd_nopart ?_
  | with_reducible refine rd_par ?_
  | with_reducible refine rd_two ?_
  | with_reducible refine rd_next ?_
  | with_reducible refine rd_retN ?_
  | with_reducible refine rd_bool ?_
  | with_reducible refine rd_int ?_
  | with_reducible refine rd_intI ?_
  | with_reducible refine rd_intB ?_
  | with_reducible refine rd_ltS ?_
  | with_reducible refine rd_leS ?_
  | with_reducible refine rd_gtS ?_
  | with_reducible refine rd_geS ?_
  | with_reducible refine rd_inC ?_
  | with_reducible refine rd_notInC ?_
  | with_reducible refine rd_abs ?_
  | with_reducible refine rd_max2 ?_
  | with_reducible refine rd_min2 ?_
  | with_reducible refine rd_M1 ?_
  | with_reducible refine rd_isStr ?_
  | ((with_reducible refine' rd_len ?b ?_); (case b => (simp only [List.length_cons, List.length_nil]; decide)))
  | ((with_reducible refine' rd_listS ?b ?_); (case b => first | (simp only [List.length_take, List.length_cons, List.length_nil]; omega) | omega))
  | ((with_reducible refine' rd_isi ?ty ?h ?_); (case ty => first | exact ty_str | exact ty_int | exact ty_bl | exact ty_non | exact ty_lst (by walk_at "hp") | exact ty_tup (by walk_at "hp")); (case h => walk_at "kb"))
  | with_reducible refine rd_lc ?_
  | with_reducible refine rd_for ?_
  | with_reducible refine rd_iList ?_
  | with_reducible refine rd_iTup ?_
  | with_reducible refine rd_iRng1 ?_
  | with_reducible refine rd_iRng2 ?_
  | with_reducible refine rd_iRng3 ?_
  | with_reducible refine rd_iStr ?_
  | with_reducible refine rd_qIs ?_
  | with_reducible refine rd_whb ?_
  | ((with_reducible refine' rd_qIl ?sq ?_); (case sq => walk_at "sq"))
  | ((with_reducible refine' rd_qItu ?sq ?_); (case sq => walk_at "sqt"))
  | ((with_reducible refine' rd_qIr1 ?b1 ?b2 ?_); (case b1 => walk_at "ar"); (case b2 => walk_at "ar"))
  | ((with_reducible refine' rd_qIr2 ?b1 ?b2 ?b3 ?b4 ?_); (case b1 => walk_at "ar"); (case b2 => walk_at "ar"); (case b3 => walk_at "ar"); (case b4 => walk_at "ar"))
  | ((with_reducible refine' rd_qIr3 ?b1 ?b2 ?b3 ?b4 ?_); (case b1 => walk_at "ar"); (case b2 => walk_at "ar"); (case b3 => walk_at "ar"); (case b4 => walk_at "ar"))
  | ((with_reducible refine' rd_mulS ?b1 ?b2 ?b3 ?_); (case b1 => walk_at "ar"); (case b2 => walk_at "ar"); (case b3 => walk_at "ar"))
  | ((with_reducible refine' rd_slS_to ?b1 ?b2 ?_); (case b1 => walk_at "ar"); (case b2 => walk_at "ar"))
  | ((with_reducible refine' rd_slS_from ?b1 ?b2 ?_); (case b1 => walk_at "ar"); (case b2 => walk_at "ar"))
  | ((with_reducible refine' rd_slS_mid ?b1 ?b2 ?b3 ?b4 ?_); (case b1 => walk_at "ar"); (case b2 => walk_at "ar"); (case b3 => walk_at "ar"); (case b4 => walk_at "ar"))
  | ((with_reducible refine' rd_slL ?sq ?_); (case sq => walk_at "sq"))
  | with_reducible refine rd_true ?_
  | with_reducible refine rd_false ?_
  | with_reducible refine rd_nt ?_
  | with_reducible refine rd_nf ?_
  | ((with_reducible refine' rd_decT ?h ?_); (case h => omega))
  | ((with_reducible refine' rd_decF ?h ?_); (case h => omega))
  | ((with_reducible refine' rd_ndecT ?h ?_); (case h => omega))
  | ((with_reducible refine' rd_ndecF ?h ?_); (case h => omega))
  | ((with_reducible refine' rd_evT ?h ?_); (case h => first | exact rfl | (simp; done)))
  | ((with_reducible refine' rd_evF ?h ?_); (case h => first | exact rfl | (simp; done)))
  | ((with_reducible refine' rd_ixL ?sq ?a1 ?_); (case sq => walk_at "sq"); (case a1 => first | exact rfl | exact at_of (by omega) (by assumption)))
  | ((with_reducible refine' rd_ixT ?sq ?a1 ?_); (case sq => walk_at "sqt"); (case a1 => first | exact rfl | exact at_of (by omega) (by assumption)))
  | ((with_reducible refine' rd_lenL ?sq ?_); (case sq => walk_at "sq"))
  | ((with_reducible refine' rd_lenT ?sq ?_); (case sq => walk_at "sqt"))
  | ((with_reducible refine' rd_setL ?h ?j ?_); (case h => walk_at "hp"); (case j => exact rfl); (with_reducible refine id ?_))
  | ((with_reducible refine' rd_strlen ?l ?_); (case l => walk_at "ar"))
  | ((with_reducible refine' rd_cat ?l ?_); (case l => walk_at "ar")))
local macro_rules | `(tactic| walk_at "go") => `(tactic| ((try dsimp only); (repeat (walk_at "rd"))))
local macro_rules | `(tactic| walk_at "rd") => `(tactic| first
  | with_reducible refine rd_lstRg ?_
  | with_reducible refine rd_tRg1 ?_
  | with_reducible refine rd_tRg2 ?_
  | with_reducible refine rd_rg1 ?_
  | with_reducible refine rd_rg2 ?_
  | ((with_reducible refine' rd_qRg ?b ?_); (case b => refine ⟨?_, ?_, ?_, ?_⟩ <;> omega))
  | with_reducible refine rd_sortSet ?_
  | with_reducible refine rd_tDGet ?_
  | with_reducible refine rd_sDPut ?_
  | with_reducible refine rd_dnew ?_
  | with_reducible refine rd_iZipS ?_
  | with_reducible refine rd_zipS ?_
  | ((with_reducible refine' rd_inI ?sq ?_); (case sq => walk_at "sq"))
  | ((with_reducible refine' rd_notInI ?sq ?_); (case sq => walk_at "sq"))
  | with_reducible refine rd_chain ?_)

local macro_rules | `(tactic| walk_at "rd") => `(tactic| first
  | with_reducible refine rd_fld ?_
  | with_reducible refine rd_par3 ?_
  | with_reducible refine rd_sFld ?_
  | with_reducible refine rd_meth ?_
  | with_reducible refine rd_make ?_
  | with_reducible refine rd_iEnT ?_
  | with_reducible refine rd_iEnL ?_
  | with_reducible refine rd_iZipSL ?_
  | with_reducible refine rd_dIn ?_
  | with_reducible refine rd_dNotIn ?_
  | with_reducible refine rd_tDGet ?_
  | with_reducible refine rd_thenT ?_
  | with_reducible refine rd_sortLam ?_
  | with_reducible refine rd_tupRg ?_
  | with_reducible refine rd_bm ?_
  | ((with_reducible refine' rd_kTupT ?sq ?_); (case sq => walk_at "sqt"))
  | ((with_reducible refine' rd_kTupL ?sq ?_); (case sq => walk_at "sq"))
  | with_reducible refine rd_sDPut ?_
  | ((with_reducible refine' rd_enT ?sq ?_); (case sq => walk_at "sqt"))
  | ((with_reducible refine' rd_enL ?sq ?_); (case sq => walk_at "sq"))
  | ((with_reducible refine' rd_zipSL ?sq ?_); (case sq => walk_at "sq")))

section
variable {P : Program} {w : World} {K : PySem.W.Frag} {mg : Str → Option Value} {base : Heap}
theorem rd_g3 {K : PySem.W.Frag} {σ : St} {H : Hp} {T : Addr} {u v w : V} {i j l : Nat} {R : St → Hp → Prop} (h : SqT K H T [u, v, w]) (q : R (((σ.set i (some u)).set j (some v)).set l (some w)) H) : gTup K 3 (gCons (gName i) (gCons (gName j) (gCons (gName l) gNil))) (.ref T) σ H R :=
  ⟨T, _, rfl, h, rfl, _, _, rfl, _, _, rfl, _, _, rfl, rfl, q⟩
theorem Done.goodT {rows : Tab} {sz N : Nat} (M : Mps rows sz) (D : Done rows sz N) : GoodT (tbT rows sz N) rows.length N :=
  ⟨D.tlen, by have h := maps_le M.s4 (fdT_nodup N) D.Fmap; rw [D.stop] at h; omega, M.r1, M.r6, D.good, D.prod⟩
theorem okB_filter {bs : List (List Nat × List Nat)} {p : List Nat × List Nat → Bool} (h : OkB bs) : OkB (bs.filter p) := fun b hb => h b (List.mem_filter.mp hb).1
theorem most_of : ∀ n, 1 ≤ n → n ≤ 6 → ∃ mo : Nat, [V.int 0, V.int 8, V.int 6, V.int 4, V.int 3, V.int 3, V.int 3][n]? = some (vI mo) ∧ n ^ mo ≤ 300 ∧ mo ≤ 8
  | 1, _, _ => ⟨8, rfl, by decide, by decide⟩
  | 2, _, _ => ⟨6, rfl, by decide, by decide⟩
  | 3, _, _ => ⟨4, rfl, by decide, by decide⟩
  | 4, _, _ => ⟨3, rfl, by decide, by decide⟩
  | 5, _, _ => ⟨3, rfl, by decide, by decide⟩
  | 6, _, _ => ⟨3, rfl, by decide, by decide⟩
  | 0, h, _ => absurd h (by decide)
  | n + 7, _, h => absurd h (by omega)
theorem prs_filter {H H' : Hp} {D : Addr} {as : List Addr} {bs : List (List Nat × List Nat)} (hl : as.length = bs.length) (h : ∀ (i : Nat) (a : Addr) (b : List Nat × List Nat), as[i]? = some a → bs[i]? = some b → H a = some (.tup [.str (S b.1), .str (S b.2)])) (yes : List Nat × List Nat → Bool) (hD : H' D = some (.lst (((as.zip bs).filter fun p => yes p.2).map fun p => V.ref p.1))) (k : ∀ a xs, H a = some (.tup xs) → H' a = some (.tup xs)) : Prs H' D (bs.filter yes) := by
  have e : bs.filter yes = ((as.zip bs).filter fun p => yes p.2).map (·.2) := by
    have e2 : (as.zip bs).map (·.2) = bs := List.map_snd_zip (by omega)
    conv => lhs; rw [← e2]
    rw [List.filter_map]
    rfl
  refine ⟨((as.zip bs).filter fun p => yes p.2).map (·.1), by rw [hD]; unfold refs; rw [List.map_map]; rfl, by rw [e, List.length_map, List.length_map], fun i a b e1 e2 => ?_⟩
  rw [e] at e2
  rw [List.getElem?_map] at e1 e2
  cases h3 : ((as.zip bs).filter fun p => yes p.2)[i]? with
  | none => rw [h3] at e1; cases e1
  | some p =>
    rw [h3] at e1 e2
    cases e1
    cases e2
    obtain ⟨j, hj⟩ := List.mem_iff_getElem?.mp (List.mem_filter.mp (List.mem_of_getElem? h3)).1
    rw [List.getElem?_zip_eq_some] at hj
    exact k _ _ (h j _ _ hj.1 hj.2)
theorem ok__law_right {f : Addr} {fd : FuncData} {z : Zed} (Z : Zok K mg z) (F : Fun K "_law_right" "_law_right" s__law_right f fd) (T : Txt K mg) (C__law_table : Cal P w K mg base 1 "_law_table" (sp__law_table K)) (C_Monoid_init : C8.Mak P w K mg base 3 "Monoid" z.C (sp_Monoid_init z K) []) (C__law_due : Cal P w K mg base 1 "_law_due" (sp__law_due z K)) (C_Monoid_rules : C8.Met P w K mg base 3 z.C "rules" (sp_Monoid_rules z K) []) (C__law_by_words : Cal P w K mg base 2 "_law_by_words" (sp__law_by_words K)) : FnOk P w K mg base CX0 5 f fd ["source", "rows"] (sp__law_right z K) := by
  refine F.ok sc__law_right (fun vs H Q E h => by repeat (first | (obtain ⟨rfl, _⟩ := h; rfl) | obtain ⟨_, h⟩ := h)) (fun cdv A outer s H vs Q E hr h => ?_)
  refine ⟨_, (pss_cons (ps_asg (pe_c C__law_table hr (by decide) rfl (pa_cons (pv 1) pa_nil)) (pg_tup rfl (pgs_cons (pg_name (i := 2) sc__law_right.nd rfl (Or.inl rfl)) (pgs_cons (pg_name (i := 3) sc__law_right.nd rfl (Or.inl rfl)) (pgs_cons (pg_name (i := 4) sc__law_right.nd rfl (Or.inl rfl)) pgs_nil)))))
  (pss_cons (ps_par (i := 5) (j := 6) rfl sc__law_right.nd rfl rfl (by decide) rfl rfl (pa_cons (C8.pe_mk C_Monoid_init hr (by decide) rfl (pa_cons (pv 4) pa_nil)) (pa_cons (pe_c C__law_due hr (by decide) rfl (pa_cons (pv 3) (pa_cons (pv 4) pa_nil))) pa_nil)) (by rfl))
  (pss_cons (ps_set (i := 7) sc__law_right.nd rfl (Or.inl rfl) (C8.pe_mt0 C_Monoid_rules hr (by decide) (pv 5)))
  (pss_cons (ps_if (PW.pt (pw_or (pt_cmpR (op_neD hr.units) (pv 7) (pv 6) (nomark _)) (pw_or (pt_not (pt_val (pe_callB call_isi rfl T.n_isinstance boot_isinstance (pa_cons (pv 7) (pa_cons (pe_bltn (v := .ty "list") rfl T.n_list boot_list rfl) pa_nil))))) (pw_or1 (pt_cmpR (op_neD hr.units) (pe_lc (own := [("pair", 9)]) rfl sc__law_right.nd (pi_list (pv 7)) (blkOk_by (N := N__law_right) (sc := defScope s__law_right) (by decide +kernel)) (fun _ _ _ _ _ => (pg_name (i := 9) sc__law_right.nd rfl (Or.inl rfl))) (fun _ _ _ _ _ => (pts_one (pt_not (pt_val (pe_callB (call_isiK K rfl) rfl T.n_isinstance boot_isinstance (pa_cons (pv 9) (pa_cons (pe_bltn (v := .ty "tuple") rfl T.n_tuple boot_tuple rfl) pa_nil))))))) (fun _ _ _ _ _ => (pv 9))) (pe_lst pa_nil) (nomark _)))))) (pss_one (ps_ret pe_bl)) pss_nil)
  (pss_cons (ps_expr (pe_bm PySem.F.plainAttrs_list PySem.F.slot_list_append PySem.F.type_list_append mt_append (pv 7) (pa_cons pe_non pa_nil)))
  (pss_cons (ps_if (PW.pt (pw_or (pt_cmpR (op_neD hr.units) (C8.pe_mt0 C_Monoid_rules hr (by decide) (pv 5)) (pv 6) (nomark _)) (pw_or1 (pt_cmpR op_gt (pe_callB cq_len rfl T.n_len boot_len (pa_cons (pv 6) pa_nil)) (pe_op op_mul (pe_callB cq_len rfl T.n_len boot_len (pa_cons (pv 2) pa_nil)) (pe_callB cq_len rfl T.n_len boot_len (pa_cons (pv 1) pa_nil))) (nomark _))))) (pss_one (ps_ret pe_bl)) pss_nil)
  (pss_cons (ps_set (i := 8) sc__law_right.nd rfl (Or.inr rfl) (pe_ix ix_list (pe_lst (pa_cons pe_int (pa_cons pe_int (pa_cons pe_int (pa_cons pe_int (pa_cons pe_int (pa_cons pe_int (pa_cons pe_int pa_nil)))))))) (pe_callB cq_len rfl T.n_len boot_len (pa_cons (pv 1) pa_nil)) (fun _ _ => rfl)))
  (pss_cons (ps_if (pt_cmpR op_gt (pe_callB cq_len rfl T.n_len boot_len (pa_cons (pv 2) pa_nil)) pe_int (nomark _)) (pss_one (ps_ret pe_bl)) pss_nil)
  (pss_one (ps_ret (pe_cmpR (op_eqD hr.units) (pe_lc (own := [("pair", 9)]) rfl sc__law_right.nd (pi_list (pv 6)) (blkOk_by (N := N__law_right) (sc := defScope s__law_right) (by decide +kernel)) (fun _ _ _ _ _ => (pg_name (i := 9) sc__law_right.nd rfl (Or.inl rfl))) (fun _ _ _ _ _ => (pts_one (pt_cmpR op_le (pe_callB cq_lenS rfl T.n_len boot_len (pa_cons (pe_ix (ix_tupK K rfl) (pv 9) pe_int (fun _ _ => rfl)) pa_nil)) (pv 8) (nomark _)))) (fun _ _ _ _ _ => (pv 9))) (pe_c C__law_by_words hr (by decide) rfl (pa_cons (pv 1) (pa_cons (pv 2) (pa_cons (pv 3) (pa_cons (pv 8) pa_nil))))) (nomark _)))))))))))), ?_⟩
  try dsimp only [cxOf, Cx.nox, Cx.wish]
  obtain ⟨p, q, rows, sz, rfl, S0, hq, M, TB0, k⟩ := h
  walk_at "go"
  refine ⟨q, rows, sz, rfl, hq, M, fun t f w tb N H1 D s1 ht hf hw htb => ?_⟩
  refine rd_g3 (SqT.of ht) ?_
  have G := Done.goodT M D
  have hwds : wsT rows sz N = wds (tree (tbT rows sz N) rows.length N) := D.words N (Nat.le_refl _)
  walk_at "go"
  intro x dx nx ndx hdx
  have sx : Same H1 (L2.upd (L2.upd H1 dx (.own x)) x (.ins z.C dx [])) := (Same.new ndx).trans (Same.new (by rw [upd_ne (Ne.symm hdx)]; exact nx))
  have hxi : (L2.upd (L2.upd H1 dx (.own x)) x (.ins z.C dx [])) x = some (.ins z.C dx []) := upd_same
  generalize L2.upd (L2.upd H1 dx (.own x)) x (.ins z.C dx []) = Hx at *
  refine ⟨x, dx, tb, tbT rows sz N, rows.length, N, rfl, hxi, htb.kq (Kq.of sx), G, fun H2 me nme X2 O2 => ⟨rfl, ?_⟩⟩
  have s2 : Same H1 H2 := fun b o e => X2 b o (ne_of_none e nx) (sx b o e)
  have nme1 : H1 me = none := Same.nn sx nme
  have E2 : ExtN H1 H2 := ExtN.of s2
  have T2 : Tabs z.TT H2 := Tabs.same (Tabs.same TB0 s1) s2
  clear X2
  walk_at "go"
  refine ⟨w, tb, tbT rows sz N, rows.length, N, rfl, G, by rw [← hwds]; exact s2 _ _ hw, htb.kq (Kq.of s2), T2, fun du H3 nw3 e3 T3 p3 => ?_⟩
  have O3 := O2.extN e3
  have E3 := E2.trans e3
  walk_at "go"
  try refine ⟨_, _, rfl, ?_⟩
  walk_at "go"
  obtain ⟨dx3, r3, t3, l3, hx3, _, _, _⟩ := O3.ins
  refine ⟨x, dx3, _, rfl, hx3, rfl, ?_⟩
  walk_at "go"
  refine ⟨x, me, tbT rows sz N, rows.length, N, rfl, O3, G, T3, fun to H4 nw4 X4 T4 O4 p4 => ?_⟩
  obtain ⟨kvs3, hm3⟩ := O3.mem.dk
  have E4 : ExtN H1 H4 := fun b o e n => X4 b o (ne_of_none e nme1) (E3 b o e n) n
  have pd4 := p3.kq (kq_exM hm3 X4)
  obtain ⟨as, hto, hal, hap⟩ := id p4
  walk_at "go"
  refine rd_nePr p4 pd4 (rules_ok G) (rules_ok G) ?_
  rw [decide_eq_true rfl]
  walk_at "go"
  have sm := rules_small G
  have hrl := rules_len (T := tbT rows sz N) (m := rows.length) (N := N)
  refine lcL as V.ref (SqL.of hto) (fun _ => false) V.ref (by rw [hal]; omega) (fun _ => rfl) ?_ (fun y _ h => by cases h) ?_
  · intro y hy H5 s5 Q5 q5
    obtain ⟨i, hi⟩ := List.mem_iff_getElem?.mp hy
    have hi2 : i < (rules (tbT rows sz N) rows.length N).length := by rw [← hal]; exact (List.getElem?_eq_some_iff.mp hi).1
    have hy5 := s5 _ _ (hap i y _ hi (List.getElem?_eq_getElem hi2))
    walk_at "go"
    exact q5 _ (Same.refl _)
  · intro D5 H5 nD5 s5 hD5
    rw [show (List.filter (fun _ => false) as) = [] from List.filter_eq_nil_iff.mpr (fun _ _ h => by cases h)] at hD5
    walk_at "go"
    intro p6 np6
    have s6 := s5.trans (Same.new (o := .lst []) np6)
    have hD6 := (Same.new (o := .lst []) np6) _ _ hD5
    have hp6 : (L2.upd H5 p6 (.lst [])) p6 = some (.lst []) := upd_same
    generalize L2.upd H5 p6 (.lst []) = H6 at *
    walk_at "go"
    refine rd_neLI (ns := []) (ms := []) (SqL.of hD6) (SqL.of hp6) ?_
    walk_at "go"
    have hto6 := s6 _ _ hto
    have O6 := O4.same s6
    have T6 := Tabs.same T4 s6
    have pd6 := pd4.kq (Kq.of s6)
    have E6 := E4.trans (ExtN.of s6)
    obtain ⟨ads, hdu6, hdul, hdup⟩ := id pd6
    have hdt : du ≠ to := by
      obtain ⟨_, e, _⟩ := p3
      exact nw4.ne e (fun _ z => nomatch z)
    refine ⟨tyL hto6, ?_⟩
    walk_at "go"
    refine rd_app hto6 (by rw [refs_len, hal]; omega) ?_
    have O7 := O6.updL (xs := refs as ++ [.non]) G hto6
    have T7 := Tabs.updL (xs := refs as ++ [.non]) T6 hto6
    have pd7 := pd6.other (ys := refs as ++ [.non]) hto6 hdt
    have E7 : ExtN H1 (L2.upd H6 to (.lst (refs as ++ [.non]))) := fun b o e n => by
      rw [upd_ne (nw4.ne (E3 b o e n) n)]
      exact E6 b o e n
    generalize L2.upd H6 to (.lst (refs as ++ [.non])) = H7 at *
    walk_at "go"
    obtain ⟨dx7, r7, t7, l7, hx7, _, _, _⟩ := O7.ins
    refine ⟨x, dx7, _, rfl, hx7, rfl, ?_⟩
    walk_at "go"
    refine ⟨x, me, tbT rows sz N, rows.length, N, rfl, O7, G, T7, fun to8 H8 nw8 X8 T8 O8 p8 => ?_⟩
    obtain ⟨kvs7, hm7⟩ := O7.mem.dk
    have E8 : ExtN H1 H8 := fun b o e n => X8 b o (ne_of_none e nme1) (E7 b o e n) n
    have pd8 := pd7.kq (kq_exM hm7 X8)
    walk_at "go"
    refine rd_nePr p8 pd8 (rules_ok G) (rules_ok G) ?_
    rw [decide_eq_true rfl]
    obtain ⟨ad8, hdu8, hdul8, hdup8⟩ := id pd8
    obtain ⟨fs8, hf8, hfl8, _⟩ := id (hf.kq (kq_extN E8))
    have hq8 : Tb false true H8 q rows := (hq.kq (Kq.of s1)).kq (kq_extN E8)
    obtain ⟨qs8, hqq8, hql8, _⟩ := id hq8
    have e1 : (refs ad8).length = (rules (tbT rows sz N) rows.length N).length := by rw [refs_len, hdul8]
    have e2 : (refs fs8).length = N := by rw [refs_len, hfl8, D.stop]
    have e3 : (refs qs8).length = rows.length := by rw [refs_len, hql8]
    walk_at "go"
    rw [e1, e2, e3]
    have hN : N ≤ 256 := by have h := maps_le M.s4 (fdT_nodup N) D.Fmap; rw [D.stop] at h; exact h
    have hm6 := M.r6
    have hm1 := M.r1
    have hNm : N * rows.length ≤ 256 * 6 := Nat.mul_le_mul hN hm6
    refine rd_I (by unfold CMul; omega) ?_
    walk_at "go"
    have hdec : ¬ ((N : Int) * (rows.length : Int) < ((rules (tbT rows sz N) rows.length N).length : Int)) := by
      rw [← Int.natCast_mul]
      omega
    try refine rd_decF hdec ?_
    try walk_at "go"
    intro p9 np9
    have s9 : Same H8 (L2.upd H8 p9 (.lst [.int 0, .int 8, .int 6, .int 4, .int 3, .int 3, .int 3])) := Same.new np9
    have hp9 : (L2.upd H8 p9 (.lst [.int 0, .int 8, .int 6, .int 4, .int 3, .int 3, .int 3])) p9 = some (.lst [.int 0, .int 8, .int 6, .int 4, .int 3, .int 3, .int 3]) := upd_same
    generalize L2.upd H8 p9 (.lst [.int 0, .int 8, .int 6, .int 4, .int 3, .int 3, .int 3]) = H9 at *
    have hqq9 := s9 _ _ hqq8
    have hf9 := s9 _ _ hf8
    have hdu9 := s9 _ _ hdu8
    have T9 := Tabs.same T8 s9
    have E9 := E8.trans (ExtN.of s9)
    have pd9 := pd8.kq (Kq.of s9)
    obtain ⟨mo, hmo1, hmo2, hmo3⟩ := most_of rows.length hm1 hm6
    walk_at "go"
    try rw [e3]
    refine rd_ixL (SqL.of hp9) (at_vI hmo1) ?_
    walk_at "go"
    try rw [e2]
    have Efin : ExtN H H9 := (ExtN.of s1).trans E9
    refine rd_dec (fun hc => ?_) (fun hc => ?_)
    · walk_at "go"
      exact k H9 Efin T9
    · walk_at "go"
      have hN40 : N ≤ 40 := by omega
      have hdup9 : ∀ (i : Nat) (a : Addr) (b : List Nat × List Nat), ad8[i]? = some a → (rules (tbT rows sz N) rows.length N)[i]? = some b → H9 a = some (.tup [.str (S b.1), .str (S b.2)]) := fun i a b q1 q2 => s9 _ _ (hdup8 i a b q1 q2)
      have ez : ((ad8.zip (rules (tbT rows sz N) rows.length N)).map fun p => V.ref p.1) = refs ad8 := by
        have e5 : (ad8.zip (rules (tbT rows sz N) rows.length N)).map (·.1) = ad8 := List.map_fst_zip (by omega)
        unfold refs
        rw [← e5, List.map_map, e5]
        rfl
      refine lcL (ad8.zip (rules (tbT rows sz N) rows.length N)) (fun p => V.ref p.1) (by rw [ez]; exact SqL.of hdu9) (fun p => decide (p.2.1.length ≤ mo)) (fun p => V.ref p.1) (by rw [List.length_zip]; omega) (fun _ => rfl) ?_ ?_ ?_
      · intro y hy H10 s10 Q10 q10
        obtain ⟨i, hi⟩ := List.mem_iff_getElem?.mp hy
        rw [List.getElem?_zip_eq_some] at hi
        have hy10 := s10 _ _ (hdup9 i _ _ hi.1 hi.2)
        have hbl := sm.2 _ (List.mem_of_getElem? hi.2)
        walk_at "go"
        rw [show decide ((y.2.1.length : Int) ≤ (mo : Int)) = decide (y.2.1.length ≤ mo) by rw [decide_eq_decide]; omega]
        exact q10 _ (Same.refl _)
      · intro y hy _ H10 s10 Q10 q10
        walk_at "go"
        exact q10 _ (Same.refl _)
      · intro D10 H10 nD10 s10 hD10
        have pf := prs_filter hdul8 hdup9 (fun b => decide (b.1.length ≤ mo)) hD10 (fun a xs e => s10 _ _ e)
        have E10 := E9.trans (ExtN.of s10)
        walk_at "go"
        have hq10 : Tb false true H10 q rows := hq8.kq ((Kq.of s9).trans (Kq.of s10))
        refine ⟨q, f, w, rows, sz, N, mo, rfl, M, D, hN40, hmo2, hmo3, hq10, hf.kq (kq_extN E10), (kq_extN E10).1 _ _ hw, fun p11 H11 np11 s11 pb => ?_⟩
        have pf11 := pf.kq (Kq.of s11)
        have eqF := G.g.byW_eq G.p mo
        refine rd_eqPr pf11 pb (okB_filter (rules_ok G)) (by rw [← eqF]; exact okB_filter (rules_ok G)) ?_
        rw [decide_eq_true eqF]
        exact k H11 ((Efin.trans (ExtN.of s10)).trans (ExtN.of s11)) (Tabs.same (Tabs.same T9 s10) s11)
end
end My
namespace My
open PySem PySem.Spec L2 SX LamX Mon
open PyProof.Rows hiding St
local macro_rules | `(tactic| walk_at "kb") => `(tactic| first | exact kb_str_str | exact kb_str_int | exact kb_str_bool | exact kb_str_list | exact kb_str_tuple | exact kb_int_str | exact kb_int_int | exact kb_int_bool | exact kb_int_list | exact kb_int_tuple | exact kb_bool_str | exact kb_bool_int | exact kb_bool_bool | exact kb_bool_list | exact kb_bool_tuple | exact kb_list_str | exact kb_list_int | exact kb_list_bool | exact kb_list_list | exact kb_list_tuple | exact kb_tuple_str | exact kb_tuple_int | exact kb_tuple_bool | exact kb_tuple_list | exact kb_tuple_tuple | exact kb_NoneType_str | exact kb_NoneType_int | exact kb_NoneType_bool | exact kb_NoneType_list | exact kb_NoneType_tuple)
local macro_rules | `(tactic| walk_at "hp") => `(tactic| first | assumption | exact upd_same | (refine (upd_ne (by first | assumption | (apply Ne.symm; assumption))).trans ?_; walk_at "hp"))
local macro_rules | `(tactic| walk_at "sq") => `(tactic| first | assumption | exact SqL.of (by walk_at "hp"))
local macro_rules | `(tactic| walk_at "sqt") => `(tactic| first | assumption | exact SqT.of (by walk_at "hp"))
local macro_rules | `(tactic| walk_at "ar") => `(tactic| first | omega | (dsimp only; omega) | (unfold CMul; omega) | (unfold CDiv; omega) | (unfold CPow; refine ⟨?_, ?_, ?_⟩ <;> decide) | (simp only [List.length_cons, List.length_nil]; decide))
local macro_rules | `(tactic| walk_at "rd") => `(tactic| first
  | with_reducible refine rd_seq ?_
  | with_reducible refine rd_asg ?_
  | with_reducible refine rd_if ?_
  | with_reducible refine rd_ret ?_
  | with_reducible refine rd_drop ?_
  | with_reducible refine rd_name ?_
  | with_reducible refine rd_sub ?_
  | ((with_reducible refine' rd_var ?e ?_); (case e => exact rfl))
  | with_reducible refine rd_c ?_
  | with_reducible refine rd_op ?_
  | with_reducible refine rd_un ?_
  | with_reducible refine rd_I0 ?_
  | ((with_reducible refine' rd_I ?c ?_); (case c => walk_at "ar"))
  | with_reducible refine rd_U ?_
  | with_reducible refine rd_eqI ?_
  | with_reducible refine rd_neI ?_
  | with_reducible refine rd_eqS ?_
  | with_reducible refine rd_neS ?_
  | with_reducible refine rd_eqB ?_
  | with_reducible refine rd_neB ?_
  | with_reducible refine rd_test ?_
  | with_reducible refine rd_B ?_
  | with_reducible refine rd_and ?_
  | with_reducible refine rd_or ?_
  | with_reducible refine rd_not ?_
  | with_reducible refine rd_andV ?_
  | with_reducible refine rd_orV ?_
  | with_reducible refine rd_notV ?_
  | with_reducible refine rd_ifE ?_
  | with_reducible refine rd_isN ?_
  | with_reducible refine rd_notN ?_
  | with_reducible refine rd_cons ?_
  | with_reducible refine rd_nil ?_
  | with_reducible refine rd_lst ?_
  | with_reducible refine rd_tup ?_
  | with_reducible refine rd_CB ?_
  | with_reducible refine rd_call ?_
  | with_reducible refine rd_sl ?_
  | with_reducible refine rd_part ?_
  | with_reducible refine rd_nopart ?_
  | with_reducible refine rd_par ?_
  | with_reducible refine rd_two ?_
  | with_reducible refine rd_next ?_
  | with_reducible refine rd_retN ?_
  | with_reducible refine rd_bool ?_
  | with_reducible refine rd_int ?_
  | with_reducible refine rd_intI ?_
  | with_reducible refine rd_intB ?_
  | with_reducible refine rd_ltS ?_
  | with_reducible refine rd_leS ?_
  | with_reducible refine rd_gtS ?_
  | with_reducible refine rd_geS ?_
  | with_reducible refine rd_inC ?_
  | with_reducible refine rd_notInC ?_
  | with_reducible refine rd_abs ?_
  | with_reducible refine rd_max2 ?_
  | with_reducible refine rd_min2 ?_
  | with_reducible refine rd_M1 ?_
  | with_reducible refine rd_isStr ?_
  | ((with_reducible refine' rd_len ?b ?_); (case b => (simp only [List.length_cons, List.length_nil]; decide)))
  | ((with_reducible refine' rd_listS ?b ?_); (case b => first | (simp only [List.length_take, List.length_cons, List.length_nil]; omega) | omega))
  | ((with_reducible refine' rd_isi ?ty ?h ?_); (case ty => first | exact ty_str | exact ty_int | exact ty_bl | exact ty_non | exact ty_lst (by walk_at "hp") | exact ty_tup (by walk_at "hp")); (case h => walk_at "kb"))
  | with_reducible refine rd_lc ?_
  | with_reducible refine rd_for ?_
  | with_reducible refine rd_iList ?_
  | with_reducible refine rd_iTup ?_
  | with_reducible refine rd_iRng1 ?_
  | with_reducible refine rd_iRng2 ?_
  | with_reducible refine rd_iRng3 ?_
  | with_reducible refine rd_iStr ?_
  | with_reducible refine rd_qIs ?_
  | with_reducible refine rd_whb ?_
  | ((with_reducible refine' rd_qIl ?sq ?_); (case sq => walk_at "sq"))
  | ((with_reducible refine' rd_qItu ?sq ?_); (case sq => walk_at "sqt"))
  | ((with_reducible refine' rd_qIr1 ?b1 ?b2 ?_); (case b1 => walk_at "ar"); (case b2 => walk_at "ar"))
  | ((with_reducible refine' rd_qIr2 ?b1 ?b2 ?b3 ?b4 ?_); (case b1 => walk_at "ar"); (case b2 => walk_at "ar"); (case b3 => walk_at "ar"); (case b4 => walk_at "ar"))
  | ((with_reducible refine' rd_qIr3 ?b1 ?b2 ?b3 ?b4 ?_); (case b1 => walk_at "ar"); (case b2 => walk_at "ar"); (case b3 => walk_at "ar"); (case b4 => walk_at "ar"))
  | ((with_reducible refine' rd_mulS ?b1 ?b2 ?b3 ?_); (case b1 => walk_at "ar"); (case b2 => walk_at "ar"); (case b3 => walk_at "ar"))
  | ((with_reducible refine' rd_slS_to ?b1 ?b2 ?_); (case b1 => walk_at "ar"); (case b2 => walk_at "ar"))
  | ((with_reducible refine' rd_slS_from ?b1 ?b2 ?_); (case b1 => walk_at "ar"); (case b2 => walk_at "ar"))
  | ((with_reducible refine' rd_slS_mid ?b1 ?b2 ?b3 ?b4 ?_); (case b1 => walk_at "ar"); (case b2 => walk_at "ar"); (case b3 => walk_at "ar"); (case b4 => walk_at "ar"))
  | ((with_reducible refine' rd_slL ?sq ?_); (case sq => walk_at "sq"))
  | with_reducible refine rd_true ?_
  | with_reducible refine rd_false ?_
  | with_reducible refine rd_nt ?_
  | with_reducible refine rd_nf ?_
  | ((with_reducible refine' rd_decT ?h ?_); (case h => omega))
  | ((with_reducible refine' rd_decF ?h ?_); (case h => omega))
  | ((with_reducible refine' rd_ndecT ?h ?_); (case h => omega))
  | ((with_reducible refine' rd_ndecF ?h ?_); (case h => omega))
  | ((with_reducible refine' rd_evT ?h ?_); (case h => first | exact rfl | (simp; done)))
  | ((with_reducible refine' rd_evF ?h ?_); (case h => first | exact rfl | (simp; done)))
  | ((with_reducible refine' rd_ixL ?sq ?a1 ?_); (case sq => walk_at "sq"); (case a1 => first | exact rfl | exact at_of (by omega) (by assumption)))
  | ((with_reducible refine' rd_ixT ?sq ?a1 ?_); (case sq => walk_at "sqt"); (case a1 => first | exact rfl | exact at_of (by omega) (by assumption)))
  | ((with_reducible refine' rd_lenL ?sq ?_); (case sq => walk_at "sq"))
  | ((with_reducible refine' rd_lenT ?sq ?_); (case sq => walk_at "sqt"))
  | ((with_reducible refine' rd_setL ?h ?j ?_); (case h => walk_at "hp"); (case j => exact rfl); (with_reducible refine id ?_))
  | ((with_reducible refine' rd_strlen ?l ?_); (case l => walk_at "ar"))
  | ((with_reducible refine' rd_cat ?l ?_); (case l => walk_at "ar")))
local macro_rules | `(tactic| walk_at "go") => `(tactic| ((try dsimp only); (repeat (walk_at "rd"))))
local macro_rules | `(tactic| walk_at "rd") => `(tactic| first
  | with_reducible refine rd_lstRg ?_
  | with_reducible refine rd_tRg1 ?_
  | with_reducible refine rd_tRg2 ?_
  | with_reducible refine rd_rg1 ?_
  | with_reducible refine rd_rg2 ?_
  | ((with_reducible refine' rd_qRg ?b ?_); (case b => refine ⟨?_, ?_, ?_, ?_⟩ <;> omega))
  | with_reducible refine rd_sortSet ?_
  | with_reducible refine rd_tDGet ?_
  | with_reducible refine rd_sDPut ?_
  | with_reducible refine rd_dnew ?_
  | with_reducible refine rd_iZipS ?_
  | with_reducible refine rd_zipS ?_
  | ((with_reducible refine' rd_inI ?sq ?_); (case sq => walk_at "sq"))
  | ((with_reducible refine' rd_notInI ?sq ?_); (case sq => walk_at "sq"))
  | with_reducible refine rd_chain ?_)

local macro_rules | `(tactic| walk_at "rd") => `(tactic| first
  | with_reducible refine rd_fld ?_
  | with_reducible refine rd_par3 ?_
  | with_reducible refine rd_sFld ?_
  | with_reducible refine rd_meth ?_
  | with_reducible refine rd_make ?_
  | with_reducible refine rd_iEnT ?_
  | with_reducible refine rd_iEnL ?_
  | with_reducible refine rd_iZipSL ?_
  | with_reducible refine rd_dIn ?_
  | with_reducible refine rd_dNotIn ?_
  | with_reducible refine rd_tDGet ?_
  | with_reducible refine rd_thenT ?_
  | with_reducible refine rd_sortLam ?_
  | with_reducible refine rd_tupRg ?_
  | with_reducible refine rd_bm ?_
  | ((with_reducible refine' rd_kTupT ?sq ?_); (case sq => walk_at "sqt"))
  | ((with_reducible refine' rd_kTupL ?sq ?_); (case sq => walk_at "sq"))
  | with_reducible refine rd_sDPut ?_
  | ((with_reducible refine' rd_enT ?sq ?_); (case sq => walk_at "sqt"))
  | ((with_reducible refine' rd_enL ?sq ?_); (case sq => walk_at "sq"))
  | ((with_reducible refine' rd_zipSL ?sq ?_); (case sq => walk_at "sq")))

section
variable {P : Program} {w : World} {K : PySem.W.Frag} {mg : Str → Option Value} {base : Heap}
theorem tabs_exBL {TT : List (Addr × Str)} {H H' : Hp} {p : Addr} {xs : List V} (h : H p = some (.lst xs)) (t : Tabs TT H) (e : ExB p H H') : Tabs TT H' := fun q hq => by
  obtain ⟨ps, h1, h2, h3⟩ := t q hq
  refine ⟨ps, e _ _ (ne_of h1 h (fun z => nomatch z)) h1, h2, fun pos cv hc => ?_⟩
  obtain ⟨c, e1, e2⟩ := h3 pos cv hc
  refine ⟨c, e1, e _ _ (ne_of e2 h ?_) e2⟩
  unfold CodeO
  intro z
  cases z
theorem walkS {l : List Nat} : Walk (Its (S l)) (l.map fun c => V.str (S [c])).length (fun _ => True) (YAt (l.map fun c => V.str (S [c]))) := by
  have w := walk_str (z := S l)
  have hz : (S l).cps.size = l.length := by simp
  rw [hz] at w
  rw [List.length_map]
  refine ⟨w.1, w.2, fun i H x H' hi q y => ?_⟩
  obtain ⟨e, c, h1, h2⟩ := w.3 i H x H' hi q y
  refine ⟨e, ?_⟩
  have h3 : l[i]? = some c := by simpa using h1
  rw [List.getElem?_map, h3, h2]
  rfl
theorem rd_init {z : Zed} {K : PySem.W.Frag} {H : Hp} {x dx pl : Addr} {T : Tab} {m N : Nat} {R : Hp → Prop} {E : XK} (nx : H x = none) (ndx : H dx = none) (ne : dx ≠ x) (hT : Tb false false H pl T) (G : GoodT T m N) (TB : Tabs z.TT H)
    (q : ∀ (H2 : Hp) (me dx2 : Addr) (fs : List (Str × V)), Ob z H2 x me T m N → Tabs z.TT H2 → Same H H2 → H2 x = some (.ins z.C dx2 fs) → fs.lookup ("rules" : Str) = none → R H2) :
    sp_Monoid_init z K [.ref x, .ref pl] (L2.upd (L2.upd H dx (.own x)) x (.ins z.C dx [])) (fun v H2 => v = .non ∧ R H2) E := by
  have sx : Same H (L2.upd (L2.upd H dx (.own x)) x (.ins z.C dx [])) := (Same.new ndx).trans (Same.new (by rw [upd_ne (Ne.symm ne)]; exact nx))
  refine ⟨x, dx, pl, T, m, N, rfl, upd_same, hT.kq (Kq.of sx), G, fun H2 me nme X2 O2 => ⟨rfl, ?_⟩⟩
  have s2 : Same H H2 := fun b o e => X2 b o (ne_of_none e nx) (sx b o e)
  obtain ⟨dx3, r3, t3, l3, hx3, _, _, _⟩ := O2.ins
  exact q H2 me dx3 _ O2 (Tabs.same TB s2) s2 hx3 rfl
theorem good1 : GoodT [[0, 0, 0, 0, 0, 0]] 6 1 := ⟨rfl, by decide, by decide, by decide, (ok_good ok1).1, (ok_good ok1).2⟩
theorem good2 : GoodT [[1, 1], [1, 1]] 2 2 := ⟨rfl, by decide, by decide, by decide, (ok_good ok2).1, (ok_good ok2).2⟩
theorem good3 : GoodT ring 1 40 := ⟨by decide, by decide, by decide, by decide, (ok_good ok3).1, (ok_good ok3).2⟩
theorem r1' : rules [[0, 0, 0, 0, 0, 0]] 6 1 = (List.range 6).map fun j => ([97 + j], []) := by rw [r1]; rfl
theorem ok_law {f : Addr} {fd : FuncData} {z : Zed} (Z : Zok K mg z) (F : Fun K "law" "law" s_law f fd) (T : Txt K mg) (C__law_source : Cal P w K mg base 1 "_law_source" (sp__law_source K)) (C__law_maps : Cal P w K mg base 2 "_law_maps" (sp__law_maps K)) (C__law_mixed : Cal P w K mg base 2 "_law_mixed" (sp__law_mixed K)) (C__law_right : Cal P w K mg base 5 "_law_right" (sp__law_right z K)) (C_Monoid_init : C8.Mak P w K mg base 3 "Monoid" z.C (sp_Monoid_init z K) []) (C_Monoid_rules : C8.Met P w K mg base 3 z.C "rules" (sp_Monoid_rules z K) []) : FnOk P w K mg base CX0 6 f fd ["script"] (sp_law z K) := by
  refine F.ok sc_law (fun vs H Q E h => by repeat (first | (obtain ⟨rfl, _⟩ := h; rfl) | obtain ⟨_, h⟩ := h)) (fun cdv A outer s H vs Q E hr h => ?_)
  refine ⟨_, (pss_cons (ps_for PassesOwn.never rfl (pi_list (pe_slice sl_list (pe_op (op_catK K rfl) (pv 0) (pe_lst (pa_cons pe_int pa_nil))) po_none (po_some pe_int))) (pg_name (i := 1) sc_law.nd rfl (Or.inl rfl))
  (pss_cons (ps_set (i := 2) sc_law.nd rfl (Or.inl rfl) (pe_c C__law_source hr (by decide) rfl (pa_cons (pv 1) pa_nil)))
  (pss_one (ps_for PassesOwn.never rfl (pi_range1 rfl T.n_range (pa_cons pe_int pa_nil)) (pg_name (i := 3) sc_law.nd rfl (Or.inl rfl))
  (pss_one (ps_if (pt_not (pt_val (pe_c C__law_right hr (by decide) rfl (pa_cons (pv 2) (pa_cons (pe_c C__law_mixed hr (by decide) rfl (pa_cons (pv 2) (pa_cons (pe_c C__law_maps hr (by decide) rfl (pa_cons (pv 2) (pa_cons (pe_op op_sub pe_int (pe_callTy cq_int rfl T.n_int boot_int (pa_cons (pe_cmpR op_eq (pv 3) pe_int (nomark _)) pa_nil))) (pa_cons (pe_op op_sub pe_int (pe_op op_mul pe_int (pe_callTy cq_int rfl T.n_int boot_int (pa_cons (pe_cmpR op_gt (pv 3) pe_int (nomark _)) pa_nil)))) pa_nil)))) pa_nil))) pa_nil))))) (pss_one (ps_ret pe_bl)) pss_nil))))))
  (pss_cons (ps_if (pt_cmpR (op_neD hr.units) (C8.pe_mt0 C_Monoid_rules hr (by decide) (C8.pe_mk C_Monoid_init hr (by decide) rfl (pa_cons (pe_lst (pa_cons (pe_op op_rep (pe_lst (pa_cons pe_int pa_nil)) pe_int) pa_nil)) pa_nil))) (pe_lc (own := [("letter", 5)]) rfl sc_law.nd (pi_str (pe_strS [97, 98, 99, 100, 101, 102] rfl)) (blkOk_by (N := N_law) (sc := defScope s_law) (by decide +kernel)) (fun _ _ _ _ _ => (pg_name (i := 5) sc_law.nd rfl (Or.inl rfl))) (fun _ _ _ _ _ => pts_nil) (fun _ _ _ _ _ => (pe_tup (pa_cons (pv 5) (pa_cons (pe_strS [] rfl) pa_nil))))) (nomark _)) (pss_one (ps_ret pe_bl)) pss_nil)
  (pss_cons (ps_if (pt_cmpR (op_neD hr.units) (C8.pe_mt0 C_Monoid_rules hr (by decide) (C8.pe_mk C_Monoid_init hr (by decide) rfl (pa_cons (pe_lst (pa_cons (pe_lst (pa_cons pe_int (pa_cons pe_int pa_nil))) (pa_cons (pe_lst (pa_cons pe_int (pa_cons pe_int pa_nil))) pa_nil))) pa_nil))) (pe_lst (pa_cons (pe_tup (pa_cons (pe_strS [98] rfl) (pa_cons (pe_strS [97] rfl) pa_nil))) (pa_cons (pe_tup (pa_cons (pe_strS [97, 97] rfl) (pa_cons (pe_strS [97] rfl) pa_nil))) pa_nil))) (nomark _)) (pss_one (ps_ret pe_bl)) pss_nil)
  (pss_cons (ps_set (i := 4) sc_law.nd rfl (Or.inl rfl) (C8.pe_mk C_Monoid_init hr (by decide) rfl (pa_cons (pe_op op_cat (pe_lc (own := [("number", 6)]) rfl sc_law.nd (pi_range1 rfl T.n_range (pa_cons pe_int pa_nil)) (blkOk_by (N := N_law) (sc := defScope s_law) (by decide +kernel)) (fun _ _ _ _ _ => (pg_name (i := 6) sc_law.nd rfl (Or.inl rfl))) (fun _ _ _ _ _ => pts_nil) (fun _ _ _ _ _ => (pe_lst (pa_cons (pe_op op_add (pv 6) pe_int) pa_nil)))) (pe_lst (pa_cons (pe_lst (pa_cons pe_int pa_nil)) pa_nil))) pa_nil)))
  (pss_one (ps_ret (pe_cmpR (op_eqD hr.units) (C8.pe_mt0 C_Monoid_rules hr (by decide) (pv 4)) (pe_lst (pa_cons (pe_tup (pa_cons (pe_op op_mulS (pe_strS [97] rfl) pe_int) (pa_cons (pe_op op_mulS (pe_strS [97] rfl) pe_int) pa_nil))) pa_nil)) (nomark _)))))))), ?_⟩
  try dsimp only [cxOf, Cx.nox, Cx.wish]
  obtain ⟨a, ns, rfl, ha, hns, TB0, k⟩ := h
  walk_at "go"
  intro p0 np0
  have s0 : Same H (L2.upd H p0 (.lst [.int 0])) := Same.new np0
  refine rd_catK (s0.seq ha) (SqL.of upd_same) (by simp; omega) fun p1 np1 => ?_
  have s1 := s0.trans (Same.new (o := .lst (ns.map V.int ++ [.int 0])) np1)
  have h1 : (L2.upd (L2.upd H p0 (.lst [.int 0])) p1 (.lst (ns.map V.int ++ [.int 0]))) p1 = some (.lst (ns.map V.int ++ [.int 0])) := upd_same
  generalize L2.upd (L2.upd H p0 (.lst [.int 0])) p1 (.lst (ns.map V.int ++ [.int 0])) = H1 at *
  walk_at "go"
  intro p2 np2
  have hcut : cutV (ns.map V.int ++ [.int 0]) none (some 3) = ((ns ++ [0]).take 3).map V.int := by
    rw [cutV_to (by omega), List.map_take, List.map_append]
    rfl
  rw [hcut]
  have s2 := s1.trans (Same.new (o := .lst (((ns ++ [0]).take 3).map V.int)) np2)
  have h2 : (L2.upd H1 p2 (.lst (((ns ++ [0]).take 3).map V.int))) p2 = some (.lst (((ns ++ [0]).take 3).map V.int)) := upd_same
  have T2 := Tabs.same TB0 s2
  generalize L2.upd H1 p2 (.lst (((ns ++ [0]).take 3).map V.int)) = H2 at *
  refine rd_qIl (SqL.of h2) ?_
  refine forL ((ns ++ [0]).take 3) V.int (fun i σ' H' => ∃ v1 v2 v3 v4 v5 v6, σ' = [some (.ref a), v1, v2, v3, v4, v5, v6] ∧ H' p2 = some (.lst (((ns ++ [0]).take 3).map V.int)) ∧ Tabs z.TT H') ⟨_, _, _, _, _, _, rfl, h2, T2⟩ (fun i σ' H' _ ⟨_, _, _, _, _, _, _, q, _⟩ => SqL.of q) ?_ ?_
  · rintro i c σ' H3 hc ⟨v1, v2, v3, v4, v5, v6, rfl, h3, T3⟩
    walk_at "go"
    refine ⟨c, rfl, fun src H4 nsrc s4 S4 => ?_⟩
    have h4 := s4 _ _ h3
    have T4 := Tabs.same T3 s4
    have hps : p2 ≠ src := ne_of_none h3 nsrc
    walk_at "go"
    refine forR (n := 3) (fun t σ' H' => ∃ v3 v4 v5 v6, σ' = [some (.ref a), some (.int c), some (.ref src), v3, v4, v5, v6] ∧ H' p2 = some (.lst (((ns ++ [0]).take 3).map V.int)) ∧ Tabs z.TT H' ∧ Src H' src) ⟨_, _, _, _, rfl, h4, T4, S4⟩ ?_ ?_
    · rintro t σ' H5 ht ⟨v3, v4, v5, v6, rfl, h5, T5, S5⟩
      walk_at "go"
      refine ⟨src, _, _, rfl, S5, by split <;> omega, by split <;> omega, by split <;> omega, by split <;> omega, fun q6 rows6 sz6 H6 nq6 nqp6 M6 S6 t6 X6 => ?_⟩
      have h6 := X6 _ _ hps h5
      have T6 : Tabs z.TT H6 := let ⟨_, _, _, e, _⟩ := S5; tabs_exBL e T5 X6
      walk_at "go"
      refine ⟨src, q6, rows6, sz6, rfl, S6, t6, nqp6, M6, fun q7 rows7 H7 nqp7 M7 S7 t7 X7 => ?_⟩
      have h7 := X7 _ _ hps h6
      have T7 : Tabs z.TT H7 := let ⟨_, _, _, e, _⟩ := S6; tabs_exBL e T6 X7
      walk_at "go"
      refine ⟨src, q7, rows7, sz6, rfl, S7, t7, M7, T7, fun H8 e8 T8 => ?_⟩
      have h8 := e8 _ _ h7 (fun _ z => nomatch z)
      have S8 : Src H8 src := let ⟨a1, b1, c1, e, r⟩ := S7; ⟨a1, b1, c1, e8 _ _ e (fun _ z => nomatch z), r⟩
      walk_at "go"
      exact ⟨_, _, _, _, rfl, h8, T8, S8⟩
    · rintro σ' H5 ⟨v3, v4, v5, v6, rfl, h5, T5, S5⟩
      exact ⟨_, _, _, _, _, _, rfl, h5, T5⟩
  · rintro σ' H3 ⟨v1, v2, v3, v4, v5, v6, rfl, h3, T3⟩
    walk_at "go"
    clear h3 T2 h2 s2 hcut h1 s1 s0 TB0 np2 np1 np0
    -- the first table
    intro p4 np4
    walk_at "go"
    refine ⟨p4, 6, [.int 0], rfl, rfl, upd_same, by decide, by decide, by decide, fun p5 np5 => ?_⟩
    walk_at "go"
    intro p6 np6
    walk_at "go"
    have s6 : Same H3 (L2.upd (L2.upd (L2.upd H3 p4 (.lst [.int 0])) p5 (.lst (rowV [0, 0, 0, 0, 0, 0]))) p6 (.lst [.ref p5])) := ((Same.new np4).trans (Same.new np5)).trans (Same.new np6)
    have t6 : Tb false false (L2.upd (L2.upd (L2.upd H3 p4 (.lst [.int 0])) p5 (.lst (rowV [0, 0, 0, 0, 0, 0]))) p6 (.lst [.ref p5])) p6 [[0, 0, 0, 0, 0, 0]] := ⟨[p5], upd_same, rfl, fun i a r e1 e2 => by
      have hi : i = 0 := by have := (List.getElem?_eq_some_iff.mp e1).1; simp at this; omega
      subst hi
      cases e1
      cases e2
      exact (Same.new np6) _ _ upd_same⟩
    have T6 := Tabs.same T3 s6
    intro x6 dx6 nx6 ndx6 hdx6
    refine rd_init nx6 ndx6 hdx6 t6 good1 T6 fun H7 me7 dx7 fs7 O7 T7 s7 hx7 hl7 => ⟨x6, dx7, fs7, rfl, hx7, hl7, ?_⟩
    walk_at "go"
    refine ⟨x6, me7, _, 6, 1, rfl, O7, good1, T7, fun to8 H8 nw8 X8 T8 O8 p8 => ?_⟩
    rw [r1'] at p8
    clear O7 O8 X8 nw8 hx7 s7 t6 T6 s6 T3 T7
    walk_at "go"
    refine lc_inv (ls := [97, 98, 99, 100, 101, 102].map fun c => V.str (S [c])) walkS (fun D i acc H' => Same H8 H' ∧ ∃ as : List Addr, acc = refs as ∧ ∀ (j : Nat) (a : Addr), as[j]? = some a → H' a = some (.tup [.str (S [97 + j]), .str (S [])])) (by decide) (fun _ => rfl) (fun _ _ _ _ _ => trivial) (fun D nD => ⟨Same.new nD, [], rfl, fun j a e => by simp at e⟩) ?_ ?_
    · rintro D i v acc H9 Q9 hv nD hacc ⟨s9, as, rfl, has⟩ hD kk9
      rw [refs_len] at hacc
      have hvv : v = .str (S [97 + i]) := by
        have hi6 : i < 6 := by have := (List.getElem?_eq_some_iff.mp hv).1; simpa using this
        match i, hi6, hv with
        | 0, _, h => exact (Option.some.inj h).symm
        | 1, _, h => exact (Option.some.inj h).symm
        | 2, _, h => exact (Option.some.inj h).symm
        | 3, _, h => exact (Option.some.inj h).symm
        | 4, _, h => exact (Option.some.inj h).symm
        | 5, _, h => exact (Option.some.inj h).symm
      subst hvv
      walk_at "go"
      intro q nq
      have hD9 := (Same.new (o := .tup [.str (S [97 + i]), .str (S [])]) nq) _ _ hD
      refine kk9 _ _ hD9 ⟨Same.updN (s9.trans (Same.new nq)) nD, as ++ [q], refs_snoc.symm, fun j a' e => ?_⟩
      by_cases hj : j < as.length
      · rw [List.getElem?_append_left hj] at e
        have h9 := (Same.new (o := .tup [.str (S [97 + i]), .str (S [])]) nq) _ _ (has j a' e)
        rw [upd_ne (ne_of h9 hD9 (fun z => nomatch z))]; exact h9
      · have hj2 : j = as.length := by
          have := (List.getElem?_eq_some_iff.mp e).1
          simp at this; omega
        subst hj2
        rw [List.getElem?_append_right (Nat.le_refl _), Nat.sub_self] at e
        cases e
        rw [upd_ne (ne_of_none hD nq).symm, hacc]
        exact upd_same
    · rintro D acc H9 nD hacc ⟨s9, as, rfl, has⟩ hD
      rw [refs_len] at hacc
      have pD : Prs H9 D ((List.range 6).map fun j => ([97 + j], [])) := ⟨as, hD, by rw [hacc]; simp, fun i a b e1 e2 => by
        have hi : i < 6 := by have := (List.getElem?_eq_some_iff.mp e2).1; simpa using this
        rw [List.getElem?_map, List.getElem?_range hi] at e2
        cases e2
        exact has i a e1⟩
      have p9 := p8.kq (Kq.of s9)
      have T9 := Tabs.same T8 s9
      walk_at "go"
      refine rd_nePr p9 pD (by rw [← r1']; exact rules_ok good1) (by rw [← r1']; exact rules_ok good1) ?_
      rw [decide_eq_true rfl]
      clear p9 pD p8 has hD s9 T8
      walk_at "go"
      -- the second table
      intro a1 na1
      walk_at "go"
      intro a2 na2
      walk_at "go"
      intro a3 na3
      walk_at "go"
      have s10 : Same H9 (L2.upd (L2.upd (L2.upd H9 a1 (.lst [.int 1, .int 1])) a2 (.lst [.int 1, .int 1])) a3 (.lst [.ref a1, .ref a2])) := ((Same.new na1).trans (Same.new na2)).trans (Same.new na3)
      have t10 : Tb false false (L2.upd (L2.upd (L2.upd H9 a1 (.lst [.int 1, .int 1])) a2 (.lst [.int 1, .int 1])) a3 (.lst [.ref a1, .ref a2])) a3 [[1, 1], [1, 1]] := ⟨[a1, a2], upd_same, rfl, fun i a r e1 e2 => by
        have hi : i < 2 := by have := (List.getElem?_eq_some_iff.mp e1).1; simpa using this
        match i, hi, e1, e2 with
        | 0, _, e1, e2 =>
          cases e1
          cases e2
          exact (Same.new na3) _ _ ((Same.new na2) _ _ upd_same)
        | 1, _, e1, e2 =>
          cases e1
          cases e2
          exact (Same.new na3) _ _ upd_same⟩
      have T10 := Tabs.same T9 s10
      intro x10 dx10 nx10 ndx10 hdx10
      refine rd_init nx10 ndx10 hdx10 t10 good2 T10 fun H11 me11 dx11 fs11 O11 T11 s11 hx11 hl11 => ⟨x10, dx11, fs11, rfl, hx11, hl11, ?_⟩
      walk_at "go"
      refine ⟨x10, me11, _, 2, 2, rfl, O11, good2, T11, fun to12 H12 nw12 X12 T12 O12 p12 => ?_⟩
      rw [r2] at p12
      clear O11 O12 X12 nw12 hx11 s11 t10 T10 s10 T9 T11
      walk_at "go"
      intro b1 nb1
      walk_at "go"
      intro b2 nb2
      walk_at "go"
      intro b3 nb3
      have s13 : Same H12 (L2.upd (L2.upd (L2.upd H12 b1 (.tup [.str (S [98]), .str (S [97])])) b2 (.tup [.str (S [97, 97]), .str (S [97])])) b3 (.lst [.ref b1, .ref b2])) := ((Same.new nb1).trans (Same.new nb2)).trans (Same.new nb3)
      have p13 : Prs (L2.upd (L2.upd (L2.upd H12 b1 (.tup [.str (S [98]), .str (S [97])])) b2 (.tup [.str (S [97, 97]), .str (S [97])])) b3 (.lst [.ref b1, .ref b2])) b3 [([98], [97]), ([97, 97], [97])] := ⟨[b1, b2], upd_same, rfl, fun i a r e1 e2 => by
        have hi : i < 2 := by have := (List.getElem?_eq_some_iff.mp e1).1; simpa using this
        match i, hi, e1, e2 with
        | 0, _, e1, e2 =>
          cases e1
          cases e2
          exact (Same.new nb3) _ _ ((Same.new nb2) _ _ upd_same)
        | 1, _, e1, e2 =>
          cases e1
          cases e2
          exact (Same.new nb3) _ _ upd_same⟩
      have p12' := p12.kq (Kq.of s13)
      have T13 := Tabs.same T12 s13
      generalize L2.upd (L2.upd (L2.upd H12 b1 (.tup [.str (S [98]), .str (S [97])])) b2 (.tup [.str (S [97, 97]), .str (S [97])])) b3 (.lst [.ref b1, .ref b2]) = H13 at *
      walk_at "go"
      refine rd_nePr p12' p13 (by rw [← r2]; exact rules_ok good2) (by rw [← r2]; exact rules_ok good2) ?_
      rw [decide_eq_true rfl]
      clear p12 p12' p13 s13 T12
      walk_at "go"
      -- the ring
      refine lcR_inv (fun D i acc H' => Same H13 H' ∧ ∃ as : List Addr, acc = refs as ∧ (∀ a ∈ as, a ≠ D) ∧ RB false H' as ((List.range i).map fun n => [n + 1])) (by decide) (fun _ => rfl) (fun D nD => ⟨Same.new nD, [], rfl, by simp, rfl, fun j a r e => by simp at e⟩) ?_ ?_
      · rintro D i acc H14 Q14 hi nD hacc ⟨s14, as, rfl, hne, hR⟩ hD kk14
        walk_at "go"
        intro q nq
        have hD14 := (Same.new (o := .lst [.int (0 + (i : Int) + 1)]) nq) _ _ hD
        have hqD : q ≠ D := (ne_of_none hD nq).symm
        refine kk14 _ _ hD14 ⟨Same.updN (s14.trans (Same.new nq)) nD, as ++ [q], refs_snoc.symm, fun a' ha' => ?_, ?_⟩
        · rcases List.mem_append.mp ha' with h | h
          · exact hne _ h
          · rw [List.mem_singleton.mp h]; exact hqD
        · rw [List.range_succ, List.map_append]
          refine (hR.keep fun a' ha' xs e => ?_).snoc ?_
          · rw [upd_ne (hne _ ha')]
            exact (Same.new nq) _ _ e
          · rw [upd_ne hqD, upd_same]
            show some (HO.lst [V.int (0 + (i : Int) + 1)]) = some (.lst [V.int ((i + 1 : Nat) : Int)])
            rw [show (0 + (i : Int) + 1) = ((i + 1 : Nat) : Int) by omega]
      · rintro D acc H14 nD hacc ⟨s14, as, rfl, hne, hR⟩ hD
        walk_at "go"
        intro c1 nc1
        walk_at "go"
        intro c2 nc2
        have hD16 := (Same.new (o := .lst [.ref c1]) nc2) _ _ ((Same.new (o := .lst [.int 7]) nc1) _ _ hD)
        have hal : as.length = 39 := by have := hR.1; simpa using this
        refine rd_catL hD16 upd_same (by rw [refs_len, hal]; show 39 + 1 ≤ 100000; omega) fun c3 nc3 => ?_
        have s17 : Same H14 (L2.upd (L2.upd (L2.upd H14 c1 (.lst [.int 7])) c2 (.lst [.ref c1])) c3 (.lst (refs as ++ [.ref c1]))) := ((Same.new nc1).trans (Same.new nc2)).trans (Same.new nc3)
        have t17 : Tb false false (L2.upd (L2.upd (L2.upd H14 c1 (.lst [.int 7])) c2 (.lst [.ref c1])) c3 (.lst (refs as ++ [.ref c1]))) c3 ring := by
          have hR2 := (hR.keep fun a' _ xs e => s17 _ _ e).snoc (a := c1) (r := [7]) ((Same.new nc3) _ _ ((Same.new nc2) _ _ upd_same))
          exact ⟨as ++ [c1], by show _ = some (HO.lst (refs (as ++ [c1]))); rw [refs_snoc]; exact upd_same, hR2.1, hR2.2⟩
        have T17 := Tabs.same T13 (s14.trans s17)
        generalize L2.upd (L2.upd (L2.upd H14 c1 (.lst [.int 7])) c2 (.lst [.ref c1])) c3 (.lst (refs as ++ [.ref c1])) = H17 at *
        walk_at "go"
        intro x17 dx17 nx17 ndx17 hdx17
        refine rd_init nx17 ndx17 hdx17 t17 good3 T17 fun H18 me18 dx18 fs18 O18 T18 s18 hx18 hl18 => ?_
        walk_at "go"
        refine ⟨x17, dx18, fs18, rfl, hx18, hl18, ?_⟩
        walk_at "go"
        refine ⟨x17, me18, _, 1, 40, rfl, O18, good3, T18, fun to19 H19 nw19 X19 T19 O19 p19 => ?_⟩
        rw [r3] at p19
        walk_at "go"
        intro d1 nd1
        walk_at "go"
        intro d2 nd2
        have e40 : repL [97] (Int.toNat 40) = List.replicate 40 97 := by first | rfl | decide
        have e7 : repL [97] (Int.toNat 7) = List.replicate 7 97 := by first | rfl | decide
        rw [e40, e7] at nd2 ⊢
        have s20 : Same H19 (L2.upd (L2.upd H19 d1 (.tup [.str (S (List.replicate 40 97)), .str (S (List.replicate 7 97))])) d2 (.lst [.ref d1])) := (Same.new nd1).trans (Same.new nd2)
        have p20 : Prs (L2.upd (L2.upd H19 d1 (.tup [.str (S (List.replicate 40 97)), .str (S (List.replicate 7 97))])) d2 (.lst [.ref d1])) d2 [(List.replicate 40 97, List.replicate 7 97)] := ⟨[d1], upd_same, rfl, fun i a r e1 e2 => by
          have hi : i = 0 := by have := (List.getElem?_eq_some_iff.mp e1).1; simp at this; omega
          subst hi
          cases e1
          cases e2
          exact (Same.new nd2) _ _ upd_same⟩
        refine rd_eqPr (p19.kq (Kq.of s20)) p20 (by rw [← r3]; exact rules_ok good3) (by rw [← r3]; exact rules_ok good3) ?_
        rw [decide_eq_true rfl]
        exact k _
end
end My
namespace My
open PySem PySem.Spec L2 SX LamX Mon
open PyProof.Rows hiding St
theorem all_mk {l : PySem.W.OpenLaw} {w : World} {K : PySem.W.Frag} {h : Heap} {mg : Str → Option Value} {fa : Addr} (X : K.In h) (G : h.Ns mainGlobals mg) (hfa : mg "law" = some (.ref fa))
    {C : Addr} (aC : PySem.W.nsIn K mainGlobals "Monoid" = some (some (.ref C))) (pg : PySem.W.plainGet K C Str.empty = true) (hd : PySem.W.hasDictIn K C = true) (po : PySem.W.plainOver K C = true) (sa : PySem.W.findIn K (.ref C) "__setattr__" = some (some (.builtin "object.__setattr__"))) (mkC : PySem.W.makesIn K C = true) (kC : PySem.W.keepIn K (.ref C) = true)
    (nf_right : PySem.W.findIn K (.ref C) "right" = some none)
    (nf_tree : PySem.W.findIn K (.ref C) "tree" = some none)
    (nf_lefts : PySem.W.findIn K (.ref C) "lefts" = some none)
    (nf_memory : PySem.W.findIn K (.ref C) "memory" = some none)
    {f0 : Addr} {od0 an0 : Option Addr} {sl0 : Array (Option Value)} {oc0 kV0 dc0 pm0 ct0 : Value} {cd0 : Value}
    (a0 : PySem.W.nsIn K mainGlobals "is_number" = some (some (.ref f0))) (l0 : K.lookup f0 = some ⟨oc0, od0, .func (PySem.W.fnOf "is_number" "is_number" (defArgs s_is_number) (defBody s_is_number) (defScope s_is_number) .none kV0 dc0 pm0 an0 cd0 ct0), sl0⟩) (c0 : PySem.W.codeIn K cd0 "is_number" = true) (k0 : PySem.W.keepIn K (.ref f0) = true)
    {f1 : Addr} {od1 an1 : Option Addr} {sl1 : Array (Option Value)} {oc1 kV1 dc1 pm1 ct1 : Value} {cd1 : Value}
    (a1 : PySem.W.nsIn K mainGlobals "is_sequence" = some (some (.ref f1))) (l1 : K.lookup f1 = some ⟨oc1, od1, .func (PySem.W.fnOf "is_sequence" "is_sequence" (defArgs s_is_sequence) (defBody s_is_sequence) (defScope s_is_sequence) .none kV1 dc1 pm1 an1 cd1 ct1), sl1⟩) (c1 : PySem.W.codeIn K cd1 "is_sequence" = true) (k1 : PySem.W.keepIn K (.ref f1) = true)
    {f2 : Addr} {od2 an2 : Option Addr} {sl2 : Array (Option Value)} {oc2 kV2 dc2 pm2 ct2 : Value} {cd2 : Value}
    (a2 : PySem.W.nsIn K mainGlobals "check_order" = some (some (.ref f2))) (l2 : K.lookup f2 = some ⟨oc2, od2, .func (PySem.W.fnOf "check_order" "check_order" (defArgs s_check_order) (defBody s_check_order) (defScope s_check_order) .none kV2 dc2 pm2 an2 cd2 ct2), sl2⟩) (c2 : PySem.W.codeIn K cd2 "check_order" = true) (k2 : PySem.W.keepIn K (.ref f2) = true)
    {f3 : Addr} {od3 an3 : Option Addr} {sl3 : Array (Option Value)} {oc3 kV3 dc3 pm3 ct3 : Value} {cd3 : Value}
    (a3 : PySem.W.nsIn K mainGlobals "tree_of" = some (some (.ref f3))) (l3 : K.lookup f3 = some ⟨oc3, od3, .func (PySem.W.fnOf "tree_of" "tree_of" (defArgs s_tree_of) (defBody s_tree_of) (defScope s_tree_of) .none kV3 dc3 pm3 an3 cd3 ct3), sl3⟩) (c3 : PySem.W.codeIn K cd3 "tree_of" = true) (k3 : PySem.W.keepIn K (.ref f3) = true)
    {f4 : Addr} {od4 an4 : Option Addr} {sl4 : Array (Option Value)} {oc4 kV4 dc4 pm4 ct4 : Value} {cd4 : Value}
    (a4 : PySem.W.nsIn K mainGlobals "left_of" = some (some (.ref f4))) (l4 : K.lookup f4 = some ⟨oc4, od4, .func (PySem.W.fnOf "left_of" "left_of" (defArgs s_left_of) (defBody s_left_of) (defScope s_left_of) .none kV4 dc4 pm4 an4 cd4 ct4), sl4⟩) (c4 : PySem.W.codeIn K cd4 "left_of" = true) (k4 : PySem.W.keepIn K (.ref f4) = true)
    {f5 : Addr} {od5 an5 : Option Addr} {sl5 : Array (Option Value)} {oc5 kV5 dc5 pm5 ct5 : Value} {cd5 : Value}
    (a5 : PySem.W.nsIn K mainGlobals "check_products" = some (some (.ref f5))) (l5 : K.lookup f5 = some ⟨oc5, od5, .func (PySem.W.fnOf "check_products" "check_products" (defArgs s_check_products) (defBody s_check_products) (defScope s_check_products) .none kV5 dc5 pm5 an5 cd5 ct5), sl5⟩) (c5 : PySem.W.codeIn K cd5 "check_products" = true) (k5 : PySem.W.keepIn K (.ref f5) = true)
    {f6 : Addr} {od6 an6 : Option Addr} {sl6 : Array (Option Value)} {oc6 kV6 dc6 pm6 ct6 : Value} {cd6 : Value}
    (a6 : PySem.W.nsIn K mainGlobals "_law_source" = some (some (.ref f6))) (l6 : K.lookup f6 = some ⟨oc6, od6, .func (PySem.W.fnOf "_law_source" "_law_source" (defArgs s__law_source) (defBody s__law_source) (defScope s__law_source) .none kV6 dc6 pm6 an6 cd6 ct6), sl6⟩) (c6 : PySem.W.codeIn K cd6 "_law_source" = true) (k6 : PySem.W.keepIn K (.ref f6) = true)
    {f7 : Addr} {od7 an7 : Option Addr} {sl7 : Array (Option Value)} {oc7 kV7 dc7 pm7 ct7 : Value} {cd7 : Value}
    (a7 : PySem.W.nsIn K mainGlobals "_law_draw" = some (some (.ref f7))) (l7 : K.lookup f7 = some ⟨oc7, od7, .func (PySem.W.fnOf "_law_draw" "_law_draw" (defArgs s__law_draw) (defBody s__law_draw) (defScope s__law_draw) .none kV7 dc7 pm7 an7 cd7 ct7), sl7⟩) (c7 : PySem.W.codeIn K cd7 "_law_draw" = true) (k7 : PySem.W.keepIn K (.ref f7) = true)
    {f8 : Addr} {od8 an8 : Option Addr} {sl8 : Array (Option Value)} {oc8 kV8 dc8 pm8 ct8 : Value} {cd8 : Value}
    (a8 : PySem.W.nsIn K mainGlobals "_law_table" = some (some (.ref f8))) (l8 : K.lookup f8 = some ⟨oc8, od8, .func (PySem.W.fnOf "_law_table" "_law_table" (defArgs s__law_table) (defBody s__law_table) (defScope s__law_table) .none kV8 dc8 pm8 an8 cd8 ct8), sl8⟩) (c8 : PySem.W.codeIn K cd8 "_law_table" = true) (k8 : PySem.W.keepIn K (.ref f8) = true)
    {f9 : Addr} {od9 an9 : Option Addr} {sl9 : Array (Option Value)} {oc9 kV9 dc9 pm9 ct9 : Value} {cc9 : Addr}
    (a9 : PySem.W.nsIn K mainGlobals "_law_due" = some (some (.ref f9))) (l9 : K.lookup f9 = some ⟨oc9, od9, .func (PySem.W.fnOf "_law_due" "_law_due" (defArgs s__law_due) (defBody s__law_due) (defScope s__law_due) .none kV9 dc9 pm9 an9 (.ref cc9) ct9), sl9⟩) (c9 : PySem.W.codeIn K (.ref cc9) "_law_due" = true) (k9 : PySem.W.keepIn K (.ref f9) = true)
    {f10 : Addr} {od10 an10 : Option Addr} {sl10 : Array (Option Value)} {oc10 kV10 dc10 pm10 ct10 : Value} {cd10 : Value}
    (a10 : PySem.W.nsIn K mainGlobals "_law_parts" = some (some (.ref f10))) (l10 : K.lookup f10 = some ⟨oc10, od10, .func (PySem.W.fnOf "_law_parts" "_law_parts" (defArgs s__law_parts) (defBody s__law_parts) (defScope s__law_parts) .none kV10 dc10 pm10 an10 cd10 ct10), sl10⟩) (c10 : PySem.W.codeIn K cd10 "_law_parts" = true) (k10 : PySem.W.keepIn K (.ref f10) = true)
    {f11 : Addr} {od11 an11 : Option Addr} {sl11 : Array (Option Value)} {oc11 kV11 dc11 pm11 ct11 : Value} {cd11 : Value}
    (a11 : PySem.W.findIn K (.ref C) "all_words" = some (some (.ref f11))) (i11 : PySem.W.isFn K (.ref f11) = true) (l11 : K.lookup f11 = some ⟨oc11, od11, .func (PySem.W.fnOf "all_words" "Monoid.all_words" (defArgs s_Monoid_all_words) (defBody s_Monoid_all_words) (defScope s_Monoid_all_words) .none kV11 dc11 pm11 an11 cd11 ct11), sl11⟩) (c11 : PySem.W.codeIn K cd11 "Monoid.all_words" = true) (k11 : PySem.W.keepIn K (.ref f11) = true)
    {f12 : Addr} {od12 an12 : Option Addr} {sl12 : Array (Option Value)} {oc12 kV12 dc12 pm12 ct12 : Value} {cd12 : Value}
    (a12 : PySem.W.findIn K (.ref C) "ends" = some (some (.ref f12))) (i12 : PySem.W.isFn K (.ref f12) = true) (l12 : K.lookup f12 = some ⟨oc12, od12, .func (PySem.W.fnOf "ends" "Monoid.ends" (defArgs s_Monoid_ends) (defBody s_Monoid_ends) (defScope s_Monoid_ends) .none kV12 dc12 pm12 an12 cd12 ct12), sl12⟩) (c12 : PySem.W.codeIn K cd12 "Monoid.ends" = true) (k12 : PySem.W.keepIn K (.ref f12) = true)
    {f13 : Addr} {od13 an13 : Option Addr} {sl13 : Array (Option Value)} {oc13 kV13 dc13 pm13 ct13 : Value} {cd13 : Value}
    (a13 : PySem.W.findIn K (.ref C) "is_least" = some (some (.ref f13))) (i13 : PySem.W.isFn K (.ref f13) = true) (l13 : K.lookup f13 = some ⟨oc13, od13, .func (PySem.W.fnOf "is_least" "Monoid.is_least" (defArgs s_Monoid_is_least) (defBody s_Monoid_is_least) (defScope s_Monoid_is_least) .none kV13 dc13 pm13 an13 cd13 ct13), sl13⟩) (c13 : PySem.W.codeIn K cd13 "Monoid.is_least" = true) (k13 : PySem.W.keepIn K (.ref f13) = true)
    {f14 : Addr} {od14 an14 : Option Addr} {sl14 : Array (Option Value)} {oc14 kV14 dc14 pm14 ct14 : Value} {cd14 : Value}
    (a14 : PySem.W.nsIn K mainGlobals "check_form" = some (some (.ref f14))) (l14 : K.lookup f14 = some ⟨oc14, od14, .func (PySem.W.fnOf "check_form" "check_form" (defArgs s_check_form) (defBody s_check_form) (defScope s_check_form) .none kV14 dc14 pm14 an14 cd14 ct14), sl14⟩) (c14 : PySem.W.codeIn K cd14 "check_form" = true) (k14 : PySem.W.keepIn K (.ref f14) = true)
    {f15 : Addr} {od15 an15 : Option Addr} {sl15 : Array (Option Value)} {oc15 kV15 dc15 pm15 ct15 : Value} {cd15 : Value}
    (a15 : PySem.W.nsIn K mainGlobals "_law_maps" = some (some (.ref f15))) (l15 : K.lookup f15 = some ⟨oc15, od15, .func (PySem.W.fnOf "_law_maps" "_law_maps" (defArgs s__law_maps) (defBody s__law_maps) (defScope s__law_maps) .none kV15 dc15 pm15 an15 cd15 ct15), sl15⟩) (c15 : PySem.W.codeIn K cd15 "_law_maps" = true) (k15 : PySem.W.keepIn K (.ref f15) = true)
    {f16 : Addr} {od16 an16 : Option Addr} {sl16 : Array (Option Value)} {oc16 kV16 dc16 pm16 ct16 : Value} {cd16 : Value}
    (a16 : PySem.W.nsIn K mainGlobals "_law_by_words" = some (some (.ref f16))) (l16 : K.lookup f16 = some ⟨oc16, od16, .func (PySem.W.fnOf "_law_by_words" "_law_by_words" (defArgs s__law_by_words) (defBody s__law_by_words) (defScope s__law_by_words) .none kV16 dc16 pm16 an16 cd16 ct16), sl16⟩) (c16 : PySem.W.codeIn K cd16 "_law_by_words" = true) (k16 : PySem.W.keepIn K (.ref f16) = true)
    {f17 : Addr} {od17 an17 : Option Addr} {sl17 : Array (Option Value)} {oc17 kV17 dc17 pm17 ct17 : Value} {cd17 : Value}
    (a17 : PySem.W.nsIn K mainGlobals "_law_mixed" = some (some (.ref f17))) (l17 : K.lookup f17 = some ⟨oc17, od17, .func (PySem.W.fnOf "_law_mixed" "_law_mixed" (defArgs s__law_mixed) (defBody s__law_mixed) (defScope s__law_mixed) .none kV17 dc17 pm17 an17 cd17 ct17), sl17⟩) (c17 : PySem.W.codeIn K cd17 "_law_mixed" = true) (k17 : PySem.W.keepIn K (.ref f17) = true)
    {f18 : Addr} {od18 an18 : Option Addr} {sl18 : Array (Option Value)} {oc18 kV18 dc18 pm18 ct18 : Value} {cd18 : Value}
    (a18 : PySem.W.findIn K (.ref C) "is_rule" = some (some (.ref f18))) (i18 : PySem.W.isFn K (.ref f18) = true) (l18 : K.lookup f18 = some ⟨oc18, od18, .func (PySem.W.fnOf "is_rule" "Monoid.is_rule" (defArgs s_Monoid_is_rule) (defBody s_Monoid_is_rule) (defScope s_Monoid_is_rule) .none kV18 dc18 pm18 an18 cd18 ct18), sl18⟩) (c18 : PySem.W.codeIn K cd18 "Monoid.is_rule" = true) (k18 : PySem.W.keepIn K (.ref f18) = true)
    {f19 : Addr} {od19 an19 : Option Addr} {sl19 : Array (Option Value)} {oc19 kV19 dc19 pm19 ct19 : Value} {cd19 : Value}
    (a19 : PySem.W.findIn K (.ref C) "__init__" = some (some (.ref f19))) (i19 : PySem.W.isFn K (.ref f19) = true) (l19 : K.lookup f19 = some ⟨oc19, od19, .func (PySem.W.fnOf "__init__" "Monoid.__init__" (defArgs s_Monoid_init) (defBody s_Monoid_init) (defScope s_Monoid_init) .none kV19 dc19 pm19 an19 cd19 ct19), sl19⟩) (c19 : PySem.W.codeIn K cd19 "Monoid.__init__" = true) (k19 : PySem.W.keepIn K (.ref f19) = true)
    {f20 : Addr} {od20 an20 : Option Addr} {sl20 : Array (Option Value)} {oc20 kV20 dc20 pm20 ct20 : Value} {cc20 : Addr}
    (a20 : PySem.W.findIn K (.ref C) "rules" = some (some (.ref f20))) (i20 : PySem.W.isFn K (.ref f20) = true) (l20 : K.lookup f20 = some ⟨oc20, od20, .func (PySem.W.fnOf "rules" "Monoid.rules" (defArgs s_Monoid_rules) (defBody s_Monoid_rules) (defScope s_Monoid_rules) .none kV20 dc20 pm20 an20 (.ref cc20) ct20), sl20⟩) (c20 : PySem.W.codeIn K (.ref cc20) "Monoid.rules" = true) (k20 : PySem.W.keepIn K (.ref f20) = true)
    {f21 : Addr} {od21 an21 : Option Addr} {sl21 : Array (Option Value)} {oc21 kV21 dc21 pm21 ct21 : Value} {cd21 : Value}
    (a21 : PySem.W.nsIn K mainGlobals "_law_right" = some (some (.ref f21))) (l21 : K.lookup f21 = some ⟨oc21, od21, .func (PySem.W.fnOf "_law_right" "_law_right" (defArgs s__law_right) (defBody s__law_right) (defScope s__law_right) .none kV21 dc21 pm21 an21 cd21 ct21), sl21⟩) (c21 : PySem.W.codeIn K cd21 "_law_right" = true) (k21 : PySem.W.keepIn K (.ref f21) = true)
    {f22 : Addr} {od22 an22 : Option Addr} {sl22 : Array (Option Value)} {oc22 kV22 dc22 pm22 ct22 : Value} {cd22 : Value}
    (a22 : PySem.W.nsIn K mainGlobals "law" = some (some (.ref f22))) (l22 : K.lookup f22 = some ⟨oc22, od22, .func (PySem.W.fnOf "law" "law" (defArgs s_law) (defBody s_law) (defScope s_law) .none kV22 dc22 pm22 an22 cd22 ct22), sl22⟩) (c22 : PySem.W.codeIn K cd22 "law" = true) (k22 : PySem.W.keepIn K (.ref f22) = true)
    {P9 : Addr} (t9 : h.get? P9 = some { cls := .none, data := .fields #[] }) (hn9 : K.lookup P9 = none) (hc9 : PySem.W.codeHdIn K cc9 P9 = true)
    {P20 : Addr} (t20 : h.get? P20 = some { cls := .none, data := .fields #[] }) (hn20 : K.lookup P20 = none) (hc20 : PySem.W.codeHdIn K cc20 P20 = true)
    (z_int : PySem.W.nsIn K mainGlobals "int" = some none)
    (z_isinstance : PySem.W.nsIn K mainGlobals "isinstance" = some none)
    (z_bool : PySem.W.nsIn K mainGlobals "bool" = some none)
    (z_list : PySem.W.nsIn K mainGlobals "list" = some none)
    (z_tuple : PySem.W.nsIn K mainGlobals "tuple" = some none)
    (z_len : PySem.W.nsIn K mainGlobals "len" = some none)
    (z_enumerate : PySem.W.nsIn K mainGlobals "enumerate" = some none)
    (z_all : PySem.W.nsIn K mainGlobals "all" = some none)
    (z_abs : PySem.W.nsIn K mainGlobals "abs" = some none)
    (z_range : PySem.W.nsIn K mainGlobals "range" = some none)
    (z_zip : PySem.W.nsIn K mainGlobals "zip" = some none)
    (z_dict : PySem.W.nsIn K mainGlobals "dict" = some none)
    (z_sorted : PySem.W.nsIn K mainGlobals "sorted" = some none)
    {u_MOST_ELEMENTS : Value} (q_MOST_ELEMENTS : PySem.W.nsIn K mainGlobals "MOST_ELEMENTS" = some (some u_MOST_ELEMENTS)) (r_MOST_ELEMENTS : RelV (.int 2000) u_MOST_ELEMENTS)
    {u_MOST_LETTERS : Value} (q_MOST_LETTERS : PySem.W.nsIn K mainGlobals "MOST_LETTERS" = some (some u_MOST_LETTERS)) (r_MOST_LETTERS : RelV (.int 6) u_MOST_LETTERS)
    {u_LETTERS : Value} (q_LETTERS : PySem.W.nsIn K mainGlobals "LETTERS" = some (some u_LETTERS)) (r_LETTERS : RelV (.str (S [97, 98, 99, 100, 101, 102])) u_LETTERS)
    (hne : P9 ≠ P20) : LawAtS l w K CX0 6 63 "script" mg fa h := by
  have e := hfa.symm.trans (PySem.W.mg_of X G a22)
  cases e
  have T : Txt K mg := ⟨PySem.W.mg_none_of X G z_int, PySem.W.mg_none_of X G z_isinstance, PySem.W.mg_none_of X G z_bool, PySem.W.mg_none_of X G z_list, PySem.W.mg_none_of X G z_tuple, PySem.W.mg_none_of X G z_len, PySem.W.mg_none_of X G z_enumerate, PySem.W.mg_none_of X G z_all, PySem.W.mg_none_of X G z_abs, PySem.W.mg_none_of X G z_range, PySem.W.mg_none_of X G z_zip, PySem.W.mg_none_of X G z_dict, PySem.W.mg_none_of X G z_sorted, ⟨u_MOST_ELEMENTS, PySem.W.mg_of X G q_MOST_ELEMENTS, r_MOST_ELEMENTS⟩, ⟨u_MOST_LETTERS, PySem.W.mg_of X G q_MOST_LETTERS, r_MOST_LETTERS⟩, ⟨u_LETTERS, PySem.W.mg_of X G q_LETTERS, r_LETTERS⟩⟩
  let z : Zed := { C := C, P__law_due := P9, P_Monoid_rules := P20 }
  have Z : Zok K mg z := ⟨⟨pg, hd, po, sa⟩, nf_right, nf_tree, nf_lefts, nf_memory, (by first | exact hne | exact Ne.symm hne)⟩
  have F0 := fun_mk (st := s_is_number) l0 c0 k0
  have b0 := F0.binds (ps := ["thing"]) fun _ _ _ _ _ _ us hl => match us, hl with | [_], _ => rfl
  have F1 := fun_mk (st := s_is_sequence) l1 c1 k1
  have b1 := F1.binds (ps := ["thing"]) fun _ _ _ _ _ _ us hl => match us, hl with | [_], _ => rfl
  have F2 := fun_mk (st := s_check_order) l2 c2 k2
  have b2 := F2.binds (ps := ["right"]) fun _ _ _ _ _ _ us hl => match us, hl with | [_], _ => rfl
  have F3 := fun_mk (st := s_tree_of) l3 c3 k3
  have b3 := F3.binds (ps := ["right"]) fun _ _ _ _ _ _ us hl => match us, hl with | [_], _ => rfl
  have F4 := fun_mk (st := s_left_of) l4 c4 k4
  have b4 := F4.binds (ps := ["right", "tree"]) fun _ _ _ _ _ _ us hl => match us, hl with | [_, _], _ => rfl
  have F5 := fun_mk (st := s_check_products) l5 c5 k5
  have b5 := F5.binds (ps := ["right", "left"]) fun _ _ _ _ _ _ us hl => match us, hl with | [_, _], _ => rfl
  have F6 := fun_mk (st := s__law_source) l6 c6 k6
  have b6 := F6.binds (ps := ["cell"]) fun _ _ _ _ _ _ us hl => match us, hl with | [_], _ => rfl
  have F7 := fun_mk (st := s__law_draw) l7 c7 k7
  have b7 := F7.binds (ps := ["source", "many"]) fun _ _ _ _ _ _ us hl => match us, hl with | [_, _], _ => rfl
  have F8 := fun_mk (st := s__law_table) l8 c8 k8
  have b8 := F8.binds (ps := ["rows"]) fun _ _ _ _ _ _ us hl => match us, hl with | [_], _ => rfl
  have F9 : FunC K cc9 "_law_due" "_law_due" s__law_due f9 _ := ⟨⟨_, _, _, _, _, _, _, _, rfl, l9, c9⟩⟩
  have G9 := fun_mk (st := s__law_due) l9 c9 k9
  have b9 := G9.binds (ps := ["words", "table"]) fun _ _ _ _ _ _ us hl => match us, hl with | [_, _], _ => rfl
  have F10 := fun_mk (st := s__law_parts) l10 c10 k10
  have b10 := F10.binds (ps := ["word"]) fun _ _ _ _ _ _ us hl => match us, hl with | [_], _ => rfl
  have F11 := fun_mk (st := s_Monoid_all_words) l11 c11 k11
  have b11 := F11.binds (ps := ["self"]) fun _ _ _ _ _ _ us hl => match us, hl with | [_], _ => rfl
  have F12 := fun_mk (st := s_Monoid_ends) l12 c12 k12
  have b12 := F12.binds (ps := ["self"]) fun _ _ _ _ _ _ us hl => match us, hl with | [_], _ => rfl
  have F13 := fun_mk (st := s_Monoid_is_least) l13 c13 k13
  have b13 := F13.binds (ps := ["self", "number", "letter"]) fun _ _ _ _ _ _ us hl => match us, hl with | [_, _, _], _ => rfl
  have F14 := fun_mk (st := s_check_form) l14 c14 k14
  have b14 := F14.binds (ps := ["right"]) fun _ _ _ _ _ _ us hl => match us, hl with | [_], _ => rfl
  have F15 := fun_mk (st := s__law_maps) l15 c15 k15
  have b15 := F15.binds (ps := ["source", "most_points", "most_letters"]) fun _ _ _ _ _ _ us hl => match us, hl with | [_, _, _], _ => rfl
  have F16 := fun_mk (st := s__law_by_words) l16 c16 k16
  have b16 := F16.binds (ps := ["rows", "found", "words", "most"]) fun _ _ _ _ _ _ us hl => match us, hl with | [_, _, _, _], _ => rfl
  have F17 := fun_mk (st := s__law_mixed) l17 c17 k17
  have b17 := F17.binds (ps := ["source", "rows"]) fun _ _ _ _ _ _ us hl => match us, hl with | [_, _], _ => rfl
  have F18 := fun_mk (st := s_Monoid_is_rule) l18 c18 k18
  have b18 := F18.binds (ps := ["self", "number", "letter"]) fun _ _ _ _ _ _ us hl => match us, hl with | [_, _, _], _ => rfl
  have F19 := fun_mk (st := s_Monoid_init) l19 c19 k19
  have b19 := F19.binds (ps := ["self", "right"]) fun _ _ _ _ _ _ us hl => match us, hl with | [_, _], _ => rfl
  have F20 : FunC K cc20 "rules" "Monoid.rules" s_Monoid_rules f20 _ := ⟨⟨_, _, _, _, _, _, _, _, rfl, l20, c20⟩⟩
  have G20 := fun_mk (st := s_Monoid_rules) l20 c20 k20
  have b20 := G20.binds (ps := ["self"]) fun _ _ _ _ _ _ us hl => match us, hl with | [_], _ => rfl
  have F21 := fun_mk (st := s__law_right) l21 c21 k21
  have b21 := F21.binds (ps := ["source", "rows"]) fun _ _ _ _ _ _ us hl => match us, hl with | [_, _], _ => rfl
  have F22 := fun_mk (st := s_law) l22 c22 k22
  have b22 := F22.binds (ps := ["script"]) fun _ _ _ _ _ _ us hl => match us, hl with | [_], _ => rfl
  refine ⟨PySem.W.fnOf "law" "law" (defArgs s_law) (defBody s_law) (defScope s_law) .none kV22 dc22 pm22 an22 cd22 ct22, [(cc9, P9), (cc20, P20)], sp_law z K, List.forall_mem_cons.mpr ⟨t9, List.forall_mem_cons.mpr ⟨t20, fun _ h => nomatch h⟩⟩, List.forall_mem_cons.mpr ⟨hn9, List.forall_mem_cons.mpr ⟨hn20, fun _ h => nomatch h⟩⟩, List.forall_mem_cons.mpr ⟨PySem.W.codeHd_of_K X hc9, List.forall_mem_cons.mpr ⟨PySem.W.codeHd_of_K X hc20, fun _ h => nomatch h⟩⟩, fun s v => .of_eq rfl, fun H a ns hl _ hP hS => ⟨a, ns, rfl, hS, hl, ?_, fun _ => rfl⟩, fun base _ _ TBs => ?_⟩
  · intro p hp
    rcases List.mem_cons.mp hp with e | hp
    · rw [e]; exact TabS.nil (hP (cc20, P20) (by simp))
    · rw [List.mem_singleton.mp hp]; exact TabS.nil (hP (cc9, P9) (by simp))
  have TB9 : TabB base mg cc9 P9 := TBs (cc9, P9) (by simp)
  have TB20 : TabB base mg cc20 P20 := TBs (cc20, P20) (by simp)
  have C_is_number : Cal l.prog w K mg base 1 "is_number" (sp_is_number K) := ⟨_, _, _, ok_is_number F0 T, PySem.W.mg_of X G a0, k0, b0⟩
  have C_is_sequence : Cal l.prog w K mg base 1 "is_sequence" (sp_is_sequence K) := ⟨_, _, _, ok_is_sequence F1 T, PySem.W.mg_of X G a1, k1, b1⟩
  have C_check_order : Cal l.prog w K mg base 1 "check_order" (sp_check_order K) := ⟨_, _, _, ok_check_order F2 T, PySem.W.mg_of X G a2, k2, b2⟩
  have C_tree_of : Cal l.prog w K mg base 1 "tree_of" (sp_tree_of K) := ⟨_, _, _, ok_tree_of F3 T, PySem.W.mg_of X G a3, k3, b3⟩
  have C_left_of : Cal l.prog w K mg base 1 "left_of" (sp_left_of K) := ⟨_, _, _, ok_left_of F4 T, PySem.W.mg_of X G a4, k4, b4⟩
  have C_check_products : Cal l.prog w K mg base 1 "check_products" (sp_check_products K) := ⟨_, _, _, ok_check_products F5 T, PySem.W.mg_of X G a5, k5, b5⟩
  have C__law_source : Cal l.prog w K mg base 1 "_law_source" (sp__law_source K) := ⟨_, _, _, ok__law_source F6 T, PySem.W.mg_of X G a6, k6, b6⟩
  have C__law_draw : Cal l.prog w K mg base 1 "_law_draw" (sp__law_draw K) := ⟨_, _, _, ok__law_draw F7 T, PySem.W.mg_of X G a7, k7, b7⟩
  have C__law_table : Cal l.prog w K mg base 1 "_law_table" (sp__law_table K) := ⟨_, _, _, ok__law_table F8 T, PySem.W.mg_of X G a8, k8, b8⟩
  have C__law_due : Cal l.prog w K mg base 1 "_law_due" (sp__law_due z K) := ⟨_, _, _, ok__law_due TB9 Z F9 T, PySem.W.mg_of X G a9, k9, b9⟩
  have C__law_parts : Cal l.prog w K mg base 1 "_law_parts" (sp__law_parts K) := ⟨_, _, _, ok__law_parts F10 T, PySem.W.mg_of X G a10, k10, b10⟩
  have C_Monoid_all_words : C8.Met l.prog w K mg base 1 z.C "all_words" (sp_Monoid_all_words z K) [] := ⟨_, _, _, _, Z.cl, ⟨a11, i11, k11⟩, ok_Monoid_all_words Z F11 T, b11, .nil⟩
  have C_Monoid_ends : C8.Met l.prog w K mg base 1 z.C "ends" (sp_Monoid_ends z K) [] := ⟨_, _, _, _, Z.cl, ⟨a12, i12, k12⟩, ok_Monoid_ends Z F12 T, b12, .nil⟩
  have C_Monoid_is_least : C8.Met l.prog w K mg base 1 z.C "is_least" (sp_Monoid_is_least z K) [] := ⟨_, _, _, _, Z.cl, ⟨a13, i13, k13⟩, ok_Monoid_is_least Z F13 T, b13, .nil⟩
  have C_check_form : Cal l.prog w K mg base 2 "check_form" (sp_check_form K) := ⟨_, _, _, ok_check_form F14 T C_is_sequence C_is_number, PySem.W.mg_of X G a14, k14, b14⟩
  have C__law_maps : Cal l.prog w K mg base 2 "_law_maps" (sp__law_maps K) := ⟨_, _, _, ok__law_maps F15 T C__law_draw, PySem.W.mg_of X G a15, k15, b15⟩
  have C__law_by_words : Cal l.prog w K mg base 2 "_law_by_words" (sp__law_by_words K) := ⟨_, _, _, ok__law_by_words F16 T C__law_parts, PySem.W.mg_of X G a16, k16, b16⟩
  have C__law_mixed : Cal l.prog w K mg base 2 "_law_mixed" (sp__law_mixed K) := ⟨_, _, _, ok__law_mixed F17 T C__law_draw, PySem.W.mg_of X G a17, k17, b17⟩
  have C_Monoid_is_rule : C8.Met l.prog w K mg base 2 z.C "is_rule" (sp_Monoid_is_rule z K) [] := ⟨_, _, _, _, Z.cl, ⟨a18, i18, k18⟩, ok_Monoid_is_rule Z F18 T C_Monoid_is_least C_Monoid_ends, b18, .nil⟩
  have C_Monoid_init : C8.Mak l.prog w K mg base 3 "Monoid" z.C (sp_Monoid_init z K) [] := ⟨_, _, _, _, ⟨mkC, a19, i19, kC⟩, ok_Monoid_init Z F19 T C_check_form C_check_order C_tree_of C_left_of C_check_products, PySem.W.mg_of X G aC, b19, .nil⟩
  have C_Monoid_rules : C8.Met l.prog w K mg base 3 z.C "rules" (sp_Monoid_rules z K) [] := ⟨_, _, _, _, Z.cl, ⟨a20, i20, k20⟩, ok_Monoid_rules TB20 Z F20 T C_Monoid_all_words C_Monoid_is_rule, b20, .nil⟩
  have C__law_right : Cal l.prog w K mg base 5 "_law_right" (sp__law_right z K) := ⟨_, _, _, ok__law_right Z F21 T C__law_table C_Monoid_init C__law_due C_Monoid_rules C__law_by_words, PySem.W.mg_of X G a21, k21, b21⟩
  exact ok_law Z F22 T C__law_source C__law_maps C__law_mixed C__law_right C_Monoid_init C_Monoid_rules
end My
open PySem PySem.W PyProof.Rows
set_option maxRecDepth 100000 in
set_option maxHeartbeats 0 in
theorem PySem.Challenge.cw_wordfolds_k18_rules_of_a_monoid_holds : PySem.Challenge.rw_wordfolds_k18_rules_of_a_monoid.Holds := by
  w_on; o_law; k_head; (case hw => w_witness2)
  k_fill
  refine LamX.walk_ofTs (l := PySem.Challenge.rw_wordfolds_k18_rules_of_a_monoid) (n := 63) (k := 6) (x := "script") (CX := fun _ => L2.CX0) rfl (by decide) rfl ⟨rfl, by decide, by decide⟩ (fun w h Y => PySem.W.km_in_of Y) ?F (fun _ _ _ _ _ z => z)
  case F =>
    intro w mg fa h Y KX G hmg
    have hT8 := PySem.W.km_tabs_of Y
    refine' My.all_mk KX G hmg ?aC ?pg ?hd ?po ?sa ?mkC ?kC ?nf_right ?nf_tree ?nf_lefts ?nf_memory ?a0 ?l0 ?c0 ?k0 ?a1 ?l1 ?c1 ?k1 ?a2 ?l2 ?c2 ?k2 ?a3 ?l3 ?c3 ?k3 ?a4 ?l4 ?c4 ?k4 ?a5 ?l5 ?c5 ?k5 ?a6 ?l6 ?c6 ?k6 ?a7 ?l7 ?c7 ?k7 ?a8 ?l8 ?c8 ?k8 ?a9 ?l9 ?c9 ?k9 ?a10 ?l10 ?c10 ?k10 ?a11 ?i11 ?l11 ?c11 ?k11 ?a12 ?i12 ?l12 ?c12 ?k12 ?a13 ?i13 ?l13 ?c13 ?k13 ?a14 ?l14 ?c14 ?k14 ?a15 ?l15 ?c15 ?k15 ?a16 ?l16 ?c16 ?k16 ?a17 ?l17 ?c17 ?k17 ?a18 ?i18 ?l18 ?c18 ?k18 ?a19 ?i19 ?l19 ?c19 ?k19 ?a20 ?i20 ?l20 ?c20 ?k20 ?a21 ?l21 ?c21 ?k21 ?a22 ?l22 ?c22 ?k22 ?t9 ?hn9 ?hc9 ?t20 ?hn20 ?hc20 ?z_int ?z_isinstance ?z_bool ?z_list ?z_tuple ?z_len ?z_enumerate ?z_all ?z_abs ?z_range ?z_zip ?z_dict ?z_sorted ?q_MOST_ELEMENTS ?r_MOST_ELEMENTS ?q_MOST_LETTERS ?r_MOST_LETTERS ?q_LETTERS ?r_LETTERS ?hne
    (case aC => k_is)
    (case pg => k_is)
    (case hd => k_is)
    (case po => k_is)
    (case sa => k_is)
    (case mkC => k_is)
    (case kC => k_is)
    (case nf_right => k_is)
    (case nf_tree => k_is)
    (case nf_lefts => k_is)
    (case nf_memory => k_is)
    (case a0 => k_is)
    (case l0 => k_is)
    (case c0 => k_is)
    (case k0 => k_is)
    (case a1 => k_is)
    (case l1 => k_is)
    (case c1 => k_is)
    (case k1 => k_is)
    (case a2 => k_is)
    (case l2 => k_is)
    (case c2 => k_is)
    (case k2 => k_is)
    (case a3 => k_is)
    (case l3 => k_is)
    (case c3 => k_is)
    (case k3 => k_is)
    (case a4 => k_is)
    (case l4 => k_is)
    (case c4 => k_is)
    (case k4 => k_is)
    (case a5 => k_is)
    (case l5 => k_is)
    (case c5 => k_is)
    (case k5 => k_is)
    (case a6 => k_is)
    (case l6 => k_is)
    (case c6 => k_is)
    (case k6 => k_is)
    (case a7 => k_is)
    (case l7 => k_is)
    (case c7 => k_is)
    (case k7 => k_is)
    (case a8 => k_is)
    (case l8 => k_is)
    (case c8 => k_is)
    (case k8 => k_is)
    (case a9 => k_is)
    (case l9 => k_is)
    (case c9 => k_is)
    (case k9 => k_is)
    (case a10 => k_is)
    (case l10 => k_is)
    (case c10 => k_is)
    (case k10 => k_is)
    (case a11 => k_is)
    (case i11 => k_is)
    (case l11 => k_is)
    (case c11 => k_is)
    (case k11 => k_is)
    (case a12 => k_is)
    (case i12 => k_is)
    (case l12 => k_is)
    (case c12 => k_is)
    (case k12 => k_is)
    (case a13 => k_is)
    (case i13 => k_is)
    (case l13 => k_is)
    (case c13 => k_is)
    (case k13 => k_is)
    (case a14 => k_is)
    (case l14 => k_is)
    (case c14 => k_is)
    (case k14 => k_is)
    (case a15 => k_is)
    (case l15 => k_is)
    (case c15 => k_is)
    (case k15 => k_is)
    (case a16 => k_is)
    (case l16 => k_is)
    (case c16 => k_is)
    (case k16 => k_is)
    (case a17 => k_is)
    (case l17 => k_is)
    (case c17 => k_is)
    (case k17 => k_is)
    (case a18 => k_is)
    (case i18 => k_is)
    (case l18 => k_is)
    (case c18 => k_is)
    (case k18 => k_is)
    (case a19 => k_is)
    (case i19 => k_is)
    (case l19 => k_is)
    (case c19 => k_is)
    (case k19 => k_is)
    (case a20 => k_is)
    (case i20 => k_is)
    (case l20 => k_is)
    (case c20 => k_is)
    (case k20 => k_is)
    (case a21 => k_is)
    (case l21 => k_is)
    (case c21 => k_is)
    (case k21 => k_is)
    (case a22 => k_is)
    (case l22 => k_is)
    (case c22 => k_is)
    (case k22 => k_is)
    (case t9 => exact hT8 375 (by simp))
    (case hn9 => first | k_is | kernel_rfl | rfl)
    (case hc9 => first | k_is | kernel_rfl | rfl)
    (case t20 => exact hT8 318 (by simp))
    (case hn20 => first | k_is | kernel_rfl | rfl)
    (case hc20 => first | k_is | kernel_rfl | rfl)
    (case z_int => k_is)
    (case z_isinstance => k_is)
    (case z_bool => k_is)
    (case z_list => k_is)
    (case z_tuple => k_is)
    (case z_len => k_is)
    (case z_enumerate => k_is)
    (case z_all => k_is)
    (case z_abs => k_is)
    (case z_range => k_is)
    (case z_zip => k_is)
    (case z_dict => k_is)
    (case z_sorted => k_is)
    (case q_MOST_ELEMENTS => k_is)
    (case r_MOST_ELEMENTS => exact ⟨_, rfl⟩)
    (case q_MOST_LETTERS => k_is)
    (case r_MOST_LETTERS => exact ⟨_, rfl⟩)
    (case q_LETTERS => k_is)
    (case r_LETTERS => exact ⟨_, rfl⟩)
    (case hne => decide)
#print axioms PySem.Challenge.cw_wordfolds_k18_rules_of_a_monoid_holds
