import PyProof.Rows.All
import Wide.All
import OpenK.AllK
import Wide.FinOn
import HandS.ForMost
import HandS.Codes
import HandS.IsInst
import HandS.SortInts
import HandS.Zip
import HandS.NoneIn
import HandS.Wide
import HandS.Walk
import HandS.Style
import KE.DataMinMax
import KE.SortData
import HandS.ReplaceLit
import HandS.Deep
import KE.GoesMore
import KE.GoesZip
import HandS.Conv
import KE.GoesEnum
import KE.KDictZip
import KE.SortKeyHeap
import HandS.Lambda
import HandS.CallRecv
import PyProof.Rows.SeqMore
import HandS.SetKeys
import HandS.Replace
import PySem.Challenge.RW_wordfolds_k15_least_words_between_two
import HandS.EndTab
import KE.KNestM
set_option Elab.async false
set_option linter.all false
set_option maxRecDepth 100000
set_option maxHeartbeats 4000000
/-! My rules beside the layer's: list(text), text * int, set(list of ints), len(set). -/
namespace My
open PySem PySem.Spec PyProof.Rows L2 SX

theorem sz {n : Nat} (h : n ≤ 100000) : n ≤ sizeLine := Nat.le_trans h (by decide)
theorem szlt {n : Nat} (h : n < 100000) : n < sizeLine := Nat.lt_of_lt_of_le h (by decide)

/-- the one-sign texts of a word -/
def signs (l : List Nat) : List V := l.map fun c => V.str (S [c])

section
variable {X : Cx}
/-- list(text) -/
def rListS : List V → Hp → VK → Prop := fun xs H Q => ∃ l : List Nat, xs = [.str (S l)] ∧ l.length ≤ 100000 ∧ ∀ p, H p = none → Q (.ref p) (upd H p (.lst (signs l)))
theorem vals_items {l : List Nat} : ∀ {acc : Array Value}, ItemsOf (SignAt (S l)) acc l.length → Vals (signs l) acc.toList := by
  intro acc h
  obtain ⟨h1, h2⟩ := h
  have go : ∀ (m : List Nat) (us : List Value), us.length = m.length → (∀ (j : Nat) (v : Value), us[j]? = some v → ∃ (c : Nat) (u : Tok), m[j]? = some c ∧ v = Value.str ⟨#[c]⟩ u) → Vals (signs m) us := by
    intro m
    induction m with
    | nil =>
      intro us hl _
      cases us with
      | nil => exact .nil
      | cons a r => simp at hl
    | cons c m ih =>
      intro us hl hv
      cases us with
      | nil => simp at hl
      | cons a r =>
        obtain ⟨c', u, e1, e2⟩ := hv 0 a rfl
        have e3 : c = c' := Option.some.inj e1
        subst e3
        refine .cons ⟨u, e2⟩ (ih r (by simpa using hl) fun j v e => ?_)
        obtain ⟨c2, u2, e4, e5⟩ := hv (j + 1) v (by simpa using e)
        exact ⟨c2, u2, by simpa using e4, e5⟩
  refine go l acc.toList (by simpa using h1) fun j v e => ?_
  obtain ⟨c, u, e1, e2⟩ := h2 j v (by simpa using e)
  exact ⟨c, u, by simpa using e1, e2⟩
theorem call_listS (hc : X.calm = true) : CallR X (.type "list") rListS := by
  intro pins s σ H xs us Q I r h
  obtain ⟨l, rfl, hl, q⟩ := h
  obtain ⟨u, rfl, rx⟩ := vals1 r
  obtain ⟨t, rfl⟩ := rx
  have hsz : (S l).cps.size = l.length := by simp
  refine call_list_str (I.ok.hd hc) (S l) t (fun h' tk acc c kp e hi => ?_) (by rw [hsz]; exact sz hl)
  rw [hsz] at hi
  have hv := vals_items hi
  refine ⟨.ref s.heap.objs.size, _, I.laid (t' := tk) kp (Nat.le_refl _) (show ObjOk X.prog X.w _ h' _ (.lst (signs l)) from ⟨?_, acc.toList, c, hv, by simpa using e⟩), rfl, q _ (I.hok.fresh (Nat.le_refl _))⟩
  show (l.map _).length ≤ sizeLine
  rw [List.length_map]
  exact sz hl

/-- text * int -/
def repL (l : List Nat) : Nat → List Nat
  | 0 => []
  | n + 1 => l ++ repL l n
theorem repL_len (l : List Nat) : ∀ n, (repL l n).length = n * l.length
  | 0 => by simp [repL]
  | n + 1 => by simp [repL, repL_len l n, Nat.succ_mul, Nat.add_comm]
theorem fold_rep (l : List Nat) : ∀ (n : Nat) (acc : Array Nat), ((List.replicate n l.toArray).foldl (· ++ ·) acc).toList = acc.toList ++ repL l n
  | 0, acc => by simp [repL]
  | n + 1, acc => by
    rw [List.replicate_succ, List.foldl_cons, fold_rep l n]
    simp [repL]
theorem repL_one (l : List Nat) : repL l 1 = l := by simp [repL]
theorem repL_nil : ∀ n, repL [] n = []
  | 0 => rfl
  | n + 1 => by simp [repL, repL_nil n]
theorem mul_S (l : List Nat) (k : Int) : Txt.mul (S l) k = S (repL l k.toNat) := by
  unfold Txt.mul
  by_cases h1 : k < 1
  · rw [if_pos h1]
    have e : k.toNat = 0 := by omega
    rw [e]
    rfl
  · rw [if_neg h1]
    by_cases h2 : (k == 1 || (S l).length == 0) = true
    · rw [if_pos h2]
      rcases (Bool.or_eq_true _ _).mp h2 with h | h
      · have e : k = 1 := by simpa using h
        subst e
        show S l = S (repL l 1)
        rw [repL_one]
      · have e : l = [] := by
          have := S_len l
          simp at h
          rw [this] at h
          exact List.length_eq_zero_iff.mp h
        subst e
        rw [repL_nil]
    · rw [if_neg h2]
      have e := fold_rep l k.toNat #[]
      have e2 : (List.replicate k.toNat l.toArray).foldl (· ++ ·) #[] = (repL l k.toNat).toArray := by
        have e3 := congrArg List.toArray e
        simpa using e3
      exact congrArg (fun z => (⟨z⟩ : Str)) e2
def rMulS : R2 := fun x y H Q => ∃ (l : List Nat) (k : Int), x = .str (S l) ∧ y = .int k ∧ k ≤ 1000 ∧ -1000 ≤ k ∧ l.length ≤ 1000 ∧ Q (.str (S (repL l k.toNat))) H
theorem op_mulS : OpR X (binaryOp .Mult) rMulS := by
  intro pins s σ H x y v u Q I rx ry h
  obtain ⟨l, k, rfl, rfl, hk, hk2, hl, q⟩ := h
  obtain ⟨t, rfl⟩ := rx
  obtain ⟨t', rfl⟩ := ry
  refine SB.mul ⟨?_, fun h1 h2 => ?_, fun h1 h2 => ?_⟩ fun tt kk => ?_
  · have a : ¬ k < -(2 ^ 63 : Int) := by omega
    have b : ¬ k ≥ 2 ^ 63 := by omega
    simp [a, b]
    omega
  · rw [S_len]
    have h3 : (1000 : Int) ≤ (2 ^ 63 - 1) / k := by
      refine (Int.le_ediv_iff_mul_le (by omega)).mpr ?_
      omega
    omega
  · rw [S_len]
    unfold Builtin.Str.tooLong
    have e : l.length * k.toNat ≤ 1000 * 1000 := Nat.mul_le_mul hl (by omega)
    have e2 : (1000 * 1000 : Nat) ≤ sizeLine := by decide
    simp
    omega
  · rw [mul_S]
    exact ⟨.str _, H, I.tok _, ⟨_, rfl⟩, q⟩

/-- set(xs), xs a list of ints -/
def rSetL (K : PySem.W.Frag) : List V → Hp → VK → Prop := fun xs H Q => ∃ (l : Addr) (ns : List Int), xs = [.ref l] ∧ SqL K H l (ns.map V.int) ∧ ns.length ≤ 4000 ∧
  ∀ p, H p = none → Q (.ref p) (upd H p (.set (fun k => (firstMet (fun i => ns.getD i 0) ns.length).any (· == k)) (firstMet (fun i => ns.getD i 0) ns.length).length))
theorem call_setL (hc : X.calm = true) : CallR X (.type "set") (rSetL X.K) := by
  intro pins s σ H xs us Q I r h
  obtain ⟨l, ns, rfl, hq, hl, q⟩ := h
  obtain ⟨u, rfl, rx⟩ := vals1 r
  cases rx
  obtain ⟨its, r, pl, hz⟩ := I.list hq
  have hlen : its.toArray.size = ns.length := by rw [List.size_toArray, ← r.length, List.length_map]
  refine call_set_list (I.ok.hd hc) pl.isList (by simpa using RZ.intsAre_vals r) (by rw [hlen]; unfold scanBound; omega) fun h' tk hS hk => ?_
  rw [hlen] at hS
  exact ⟨.ref s.heap.objs.size, _, I.laid (t' := tk) (fun b o e => hk b o (Heap.lt_size e) e) (Nat.le_refl _) (show ObjOk X.prog X.w _ h' _ (.set _ _) from hS), rfl, q _ (I.hok.fresh (Nat.le_refl _))⟩
def rLenSet : List V → Hp → VK → Prop := fun xs H Q => ∃ (a : Addr) (T : Int → Bool) (n : Nat), xs = [.ref a] ∧ H a = some (.set T n) ∧ n ≤ 100000 ∧ Q (.int n) H
theorem call_lenSet : CallR X (.builtin "len") rLenSet := by
  intro pins s σ H xs us Q I r h
  obtain ⟨a, T, n, rfl, ha, hn, q⟩ := h
  obtain ⟨u, rfl, rx⟩ := vals1 r
  cases rx
  obtain ⟨o, es, ep, t, ho, hex, hd, _, _, _, hf, hn'⟩ := show s.heap.SetOf (intKind X.prog X.w) a T n from I.hok a _ ha
  exact call_len_set ho hex hd hf (by omega) ⟨.int n, H, I.tok _, ⟨_, by rw [hn']⟩, q⟩
end
end My
/-! How a reading is gone through, step by step: each row is one transformer of the layer. -/
namespace My
open PySem PySem.Spec L2 SX
open PyProof.Rows hiding St

/-! ### defs that may be called by name -/
structure Cal (P : Program) (w : World) (K : PySem.W.Frag) (mg : Str → Option Value) (base : Heap) (k : Nat) (x : Str) (sp : Sp) : Prop where
  ex : ∃ (f : Addr) (fd : FuncData) (ps : List Str), FnOk P w K mg base L2.CX0 k f fd ps sp ∧ mg x = some (.ref f) ∧ PySem.W.keepIn K (.ref f) = true ∧ Binds K fd ps []
theorem Cal.mono {P : Program} {w : World} {K : PySem.W.Frag} {mg : Str → Option Value} {base : Heap} {j k : Nat} {x : Str} {sp : Sp} (c : Cal P w K mg base j x sp) (h : j ≤ k) : Cal P w K mg base k x sp := by
  obtain ⟨f, fd, ps, F, a, b, d⟩ := c.ex
  exact ⟨f, fd, ps, F.mono h, a, b, d⟩
section
variable {X : Cx} {k j : Nat} {x : Str} {sp : Sp} {p pos : Pos} {e : Expr} {es : List Expr} {t : TA}
theorem pe_c (c : Cal X.prog X.w X.K X.mg X.base k x sp) (hr : Room j X.A) (hk : k ≤ j) (hg : Gl X x) (ha : PA X (e :: es) t)
    (hdb : (x == ("__debug__" : Str)) = false := by decide) (he : starEach (e :: es) X.env = (false, eval e X.env) :: starEach es X.env := by rfl) (hpl : (backTo pos (starEach es X.env)).any (·.1) = false := by rfl) :
    PE X (.Call (.Name x p) (e :: es) [] pos) (tCall sp [] L2.E0 t) := by
  obtain ⟨f, fd, ps, F, hm, kp, b⟩ := c.ex
  exact pe_call F (hr.mono hk) hg hm kp b .nil L2.pass0 ha hdb he hpl
theorem pe_c0 (c : Cal X.prog X.w X.K X.mg X.base k x sp) (hr : Room j X.A) (hk : k ≤ j) (hg : Gl X x) (hdb : (x == ("__debug__" : Str)) = false := by decide) :
    PE X (.Call (.Name x p) [] [] pos) (tCall sp [] L2.E0 tNil) := by
  obtain ⟨f, fd, ps, F, hm, kp, b⟩ := c.ex
  exact pe_call0 F (hr.mono hk) hg hm kp b .nil L2.pass0 hdb
theorem pe_strS {x : Str} {j} {pos : Pos} (l : List Nat) (h : x = S l) : PE X (.Constant (.str x) j pos) (tC (.str (S l))) := by
  subst h
  exact pe_str
end

/-! ### the layer's rules under names -/
section
variable {X : Cx}
def qLen (K : PySem.W.Frag) : List V → Hp → VK → Prop := fun xs H Q => ∃ p ys, xs = [.ref p] ∧ (SqL K H p ys ∨ SqT K H p ys) ∧ Q (.int (ys.length : Nat)) H
theorem cq_len : CallR X (.builtin "len") (qLen X.K) := call_len_seq
def qLenS : List V → Hp → VK → Prop := fun xs H Q => ∃ l : List Nat, xs = [.str (S l)] ∧ l.length ≤ 100000 ∧ Q (.int (l.length : Nat)) H
theorem cq_lenS : CallR X (.builtin "len") qLenS := fun pins s σ H xs us Q I r ⟨l, e, hl, q⟩ => call_len_str pins s σ H xs us Q I r ⟨S l, e, by rw [S_len]; exact sz hl, by rw [S_len]; exact q⟩
def qInt : List V → Hp → VK → Prop := fun xs H Q => (∃ i, xs = [.int i] ∧ Q (.int i) H) ∨ ∃ k, xs = [.bl k] ∧ Q (.int (if k then 1 else 0)) H
theorem cq_int : CallR X (.type "int") qInt := call_int1
def qAbs : List V → Hp → VK → Prop := fun xs H Q => ∃ i, xs = [.int i] ∧ Q (.int (if i < 0 then -i else i)) H
theorem cq_abs : CallR X (.builtin "abs") qAbs := call_abs
def qMax2 : List V → Hp → VK → Prop := fun xs H Q => ∃ i j, xs = [.int i, .int j] ∧ Q (.int (if j > i then j else i)) H
theorem cq_max2 (hc : X.calm = true) : CallR X (.builtin "max") qMax2 := call_max2 hc
def qMin2 : List V → Hp → VK → Prop := fun xs H Q => ∃ i j, xs = [.int i, .int j] ∧ Q (.int (if j < i then j else i)) H
theorem cq_min2 (hc : X.calm = true) : CallR X (.builtin "min") qMin2 := call_min2 hc
def qAddS : R2 := fun x y H Q => ∃ l m : List Nat, x = .str (S l) ∧ y = .str (S m) ∧ l.length + m.length ≤ 100000 ∧ Q (.str (S (l ++ m))) H
theorem oq_addS : OpR X (binaryOp .Add) qAddS := fun pins s σ H x y v u Q I rx ry ⟨l, m, e1, e2, hl, q⟩ => op_add_str pins s σ H x y v u Q I rx ry ⟨S l, S m, e1, e2, by rw [S_len, S_len]; exact sz hl, by rw [S_cat]; exact q⟩
def qLtS : R2 := fun x y H Q => ∃ l m : List Nat, x = .str (S l) ∧ y = .str (S m) ∧ Q (.bl (decide (l < m))) H
theorem oq_ltS : OpR X (compareOp .Lt) qLtS := fun pins s σ H x y v u Q I rx ry ⟨l, m, e1, e2, q⟩ => op_lt_str pins s σ H x y v u Q I rx ry ⟨S l, S m, e1, e2, q⟩
def qLeS : R2 := fun x y H Q => ∃ l m : List Nat, x = .str (S l) ∧ y = .str (S m) ∧ Q (.bl (!decide (m < l))) H
theorem oq_leS : OpR X (compareOp .LtE) qLeS := fun pins s σ H x y v u Q I rx ry ⟨l, m, e1, e2, q⟩ => op_le_str pins s σ H x y v u Q I rx ry ⟨S l, S m, e1, e2, q⟩
def qGtS : R2 := fun x y H Q => ∃ l m : List Nat, x = .str (S l) ∧ y = .str (S m) ∧ Q (.bl (decide (m < l))) H
theorem oq_gtS : OpR X (compareOp .Gt) qGtS := fun pins s σ H x y v u Q I rx ry ⟨l, m, e1, e2, q⟩ => op_gt_str pins s σ H x y v u Q I rx ry ⟨S l, S m, e1, e2, q⟩
def qGeS : R2 := fun x y H Q => ∃ l m : List Nat, x = .str (S l) ∧ y = .str (S m) ∧ Q (.bl (!decide (l < m))) H
theorem oq_geS : OpR X (compareOp .GtE) qGeS := fun pins s σ H x y v u Q I rx ry ⟨l, m, e1, e2, q⟩ => op_ge_str pins s σ H x y v u Q I rx ry ⟨S l, S m, e1, e2, q⟩
def qInC : R2 := fun x y H Q => ∃ (c : Nat) (l : List Nat), x = .str (S [c]) ∧ y = .str (S l) ∧ Q (.bl (decide (c ∈ l))) H
theorem oq_inC : OpR X (compareOp .In) qInC := fun pins s σ H x y v u Q I rx ry ⟨c, l, e1, e2, q⟩ => op_in_sign pins s σ H x y v u Q I rx ry ⟨c, S l, e1, e2, q⟩
def qNotInC : R2 := fun x y H Q => ∃ (c : Nat) (l : List Nat), x = .str (S [c]) ∧ y = .str (S l) ∧ Q (.bl (!decide (c ∈ l))) H
theorem oq_notInC : OpR X (compareOp .NotIn) qNotInC := fun pins s σ H x y v u Q I rx ry ⟨c, l, e1, e2, q⟩ => op_notIn_sign pins s σ H x y v u Q I rx ry ⟨c, S l, e1, e2, q⟩
def qListOf (K : PySem.W.Frag) : List V → Hp → VK → Prop := fun xs H Q => ∃ p ys, xs = [.ref p] ∧ (SqL K H p ys ∨ SqT K H p ys) ∧ ∀ l, H l = none → Q (.ref l) (upd H l (.lst ys))
theorem cq_listOf : CallR X (.type "list") (qListOf X.K) := call_list_of
/-- "".join(a list of texts) -/
def qJoin (K : PySem.W.Frag) : V → List V → Hp → VK → Prop := fun x xs H Q => ∃ (p : Addr) (ws : List (List Nat)), x = .str (S []) ∧ xs = [.ref p] ∧ SqL K H p (ws.map fun w => V.str (S w)) ∧ ws.flatten.length ≤ 100000 ∧ Q (.str (S ws.flatten)) H
theorem joinL_nil : ∀ ws : List (List Nat), TL.joinL [] ws = ws.flatten
  | [] => rfl
  | [w] => by simp [TL.joinL]
  | w :: v :: ws => by
    have ih := joinL_nil (v :: ws)
    simp only [TL.joinL, ih, List.flatten_cons, List.append_nil, List.nil_append]
theorem oq_join : MtR X "str.join" (qJoin X.K) := by
  intro pins s σ H x xs v us Q I rx rxs h
  obtain ⟨p, ws, rfl, rfl, hq, hl, q⟩ := h
  refine mt_join pins s σ H _ _ v us Q I rx rxs ⟨S [], p, ws.map S, rfl, rfl, .inl ?_, ?_, ?_⟩
  · rw [List.map_map]
    exact hq
  · rw [lens, S_len]
    have e : (ws.map (·.length)).sum = ws.flatten.length := by rw [List.length_flatten]
    have e2 : (ws.map fun x => x.length).sum = ws.flatten.length := e
    rw [e2]
    simp
    simp at hl
    omega
  · rw [join_S, joinL_nil]
    exact q
theorem pe_joinE {o e : Expr} {to te : TE} {apos pos : Pos} (ho : PE X o to) (he : PE X e te) (hs : starEach [e] X.env = [(false, eval e X.env)] := by rfl) (hbase : attributeBase o "join" X.env (eval o X.env) = eval o X.env := by rfl) (hline : (apos.endLine == pos.line) = true := by rfl) :
    PE X (.Call (.Attribute o "join" apos) [e] [] pos) (tM1 (qJoin X.K) to te) :=
  pe_m1 PySem.F.slot_str_join PySem.F.type_str_join oq_join ho he hs hbase hline
end

/-! ### heaps -/
/-- all but what stands at h is kept -/
def ExB (h : Addr) (H H' : Hp) : Prop := ∀ a o, a ≠ h → H a = some o → H' a = some o
theorem ExB.refl (h : Addr) (H : Hp) : ExB h H H := fun _ _ _ e => e
theorem ExB.trans {h : Addr} {H H1 H2 : Hp} (a : ExB h H H1) (b : ExB h H1 H2) : ExB h H H2 := fun c o n e => b c o n (a c o n e)
theorem ExB.of {h : Addr} {H H' : Hp} (e : Same H H') : ExB h H H' := fun a o _ q => e a o q
theorem ExB.upd {h : Addr} {H : Hp} {o : HO} : ExB h H (upd H h o) := fun a u n e => by rw [upd_ne n]; exact e
theorem ExB.new {h p : Addr} {H : Hp} {o : HO} (n : H p = none) : ExB h H (L2.upd H p o) := fun a u _ e => by rw [upd_ne (ne_of_none e n)]; exact e
theorem Same.new {p : Addr} {H : Hp} {o : HO} (n : H p = none) : Same H (L2.upd H p o) := fun a u e => by rw [upd_ne (ne_of_none e n)]; exact e
/-- an object that was not there may change -/
theorem Same.mut {p : Addr} {H H' : Hp} {o : HO} (e : Same H H') (n : H p = none) : Same H (L2.upd H' p o) := fun a u q => by rw [upd_ne (ne_of_none q n)]; exact e a u q
theorem ExB.mut {h p : Addr} {H H' : Hp} {o : HO} (e : ExB h H H') (n : H p = none) : ExB h H (L2.upd H' p o) := fun a u m q => by rw [upd_ne (ne_of_none q n)]; exact e a u m q
theorem Same.seqT {K : PySem.W.Frag} {H H' : Hp} {a : Addr} {xs : List V} (e : Same H H') (h : SqT K H a xs) : SqT K H' a xs := by
  rcases h with (h | ⟨o, h⟩) | h
  · exact .inl (.inl (e _ _ h))
  · exact .inl (.inr ⟨o, e _ _ h⟩)
  · exact .inr h
theorem ExB.seq {h : Addr} {K : PySem.W.Frag} {H H' : Hp} {a : Addr} {xs : List V} (e : ExB h H H') (n : a ≠ h) (q : SqL K H a xs) : SqL K H' a xs := by
  rcases q with (q | ⟨o, q⟩) | q
  · exact .inl (.inl (e _ _ n q))
  · exact .inl (.inr ⟨o, e _ _ n q⟩)
  · exact .inr q

/-! ### the steps -/
section
variable {σ : St} {H : Hp} {Q : VK} {D : Ends} {t u : TS} {te ta tb : TE} {g : TG} {v x y : V} {i j : Int} {K : PySem.W.Frag} {tt tu : TT}
theorem rd_seq (h : t ⟨u D, D.rt, D.bk, D.ct⟩ σ H) : tSeq t u D σ H := h
theorem rd_next {nx : St → Hp → Prop} {rt : VK} {bk ct : St → Hp → Prop} (h : nx σ H) : tNext ⟨nx, rt, bk, ct⟩ σ H := h
theorem rd_asg {nx : St → Hp → Prop} {rt : VK} {bk ct : St → Hp → Prop} (h : te σ H fun x H1 => g x σ H1 nx) : tAsg te g ⟨nx, rt, bk, ct⟩ σ H := h
theorem rd_par {i j : Nat} {ta : TA} {nx : St → Hp → Prop} {rt : VK} {bk ct : St → Hp → Prop} (h : ta σ H fun vs H1 => ∃ v w, vs = [v, w] ∧ nx ((σ.set i (some v)).set j (some w)) H1) : tPar i j ta ⟨nx, rt, bk, ct⟩ σ H := h
theorem rd_if (h : tt σ H fun b H1 => if b = true then t D σ H1 else u D σ H1) : tIfS tt t u D σ H := h
theorem rd_ret {nx : St → Hp → Prop} {rt : VK} {bk ct : St → Hp → Prop} (h : te σ H rt) : tRet te ⟨nx, rt, bk, ct⟩ σ H := h
theorem rd_retN {nx : St → Hp → Prop} {rt : VK} {bk ct : St → Hp → Prop} (h : rt .non H) : tRetN ⟨nx, rt, bk, ct⟩ σ H := h
theorem rd_drop {nx : St → Hp → Prop} {rt : VK} {bk ct : St → Hp → Prop} (h : te σ H fun _ H1 => nx σ H1) : tDrop te ⟨nx, rt, bk, ct⟩ σ H := h
theorem rd_name {i : Nat} {P : St → Hp → Prop} (h : P (σ.set i (some v)) H) : gName i v σ H P := h
theorem rd_sub {to ti : TE} {ts : TSet} {P : St → Hp → Prop} (h : to σ H fun o H1 => ti σ H1 fun i H2 => ts o i v H2 fun H3 => P σ H3) : gSub to ti ts v σ H P := h
theorem rd_var {n : Nat} (e : σ[n]? = some (some v)) (q : Q v H) : tVar n σ H Q := ⟨v, e, q⟩
theorem rd_c (q : Q v H) : tC v σ H Q := q
theorem rd_op {r : R2} (h : ta σ H fun x H1 => tb σ H1 fun y H2 => r x y H2 Q) : tOp r ta tb σ H Q := h
theorem rd_un {r : V → Hp → VK → Prop} (h : ta σ H fun x H1 => r x H1 Q) : tUn r ta σ H Q := h
theorem rd_I0 {g : Int → Int → V} (q : Q (g i j) H) : rI0 g (.int i) (.int j) H Q := ⟨i, j, rfl, rfl, q⟩
theorem rd_I {C : Int → Int → Prop} {g : Int → Int → V} (c : C i j) (q : Q (g i j) H) : rI C g (.int i) (.int j) H Q := ⟨i, j, rfl, rfl, c, q⟩
theorem rd_U {g : Int → V} (q : Q (g i) H) : rU g (.int i) H Q := ⟨i, rfl, q⟩
theorem rd_eq (s : scal x y = true) (q : Q (.bl (decide (x = y))) H) : rEq x y H Q := ⟨s, q⟩
theorem rd_ne (s : scal x y = true) (q : Q (.bl (!decide (x = y))) H) : rNe x y H Q := ⟨s, q⟩
theorem rd_eqI (q : Q (.bl (decide (i = j))) H) : rEq (.int i) (.int j) H Q := ⟨rfl, by
  have e : decide (V.int i = V.int j) = decide (i = j) := by
    by_cases h : i = j
    · subst h; simp
    · rw [decide_eq_false h, decide_eq_false fun z => h (V.int.inj z)]
  rw [e]; exact q⟩
theorem rd_neI (q : Q (.bl (!decide (i = j))) H) : rNe (.int i) (.int j) H Q := ⟨rfl, by
  have e : decide (V.int i = V.int j) = decide (i = j) := by
    by_cases h : i = j
    · subst h; simp
    · rw [decide_eq_false h, decide_eq_false fun z => h (V.int.inj z)]
  rw [e]; exact q⟩
theorem dec_S (a b : List Nat) : decide (V.str (S a) = V.str (S b)) = decide (a = b) := by
  by_cases h : a = b
  · subst h; simp
  · rw [decide_eq_false h, decide_eq_false fun z => h (S_inj (V.str.inj z))]
theorem rd_eqS {a b : List Nat} (q : Q (.bl (decide (a = b))) H) : rEq (.str (S a)) (.str (S b)) H Q := ⟨rfl, by rw [dec_S]; exact q⟩
theorem rd_neS {a b : List Nat} (q : Q (.bl (!decide (a = b))) H) : rNe (.str (S a)) (.str (S b)) H Q := ⟨rfl, by rw [dec_S]; exact q⟩
theorem dec_bl (a b : Bool) : decide (V.bl a = V.bl b) = (a == b) := by cases a <;> cases b <;> rfl
theorem rd_eqB {a b : Bool} (q : Q (.bl (a == b)) H) : rEq (.bl a) (.bl b) H Q := ⟨rfl, by rw [dec_bl]; exact q⟩
theorem rd_neB {a b : Bool} (q : Q (.bl (!(a == b))) H) : rNe (.bl a) (.bl b) H Q := ⟨rfl, by rw [dec_bl]; exact q⟩
theorem rd_test {Q : Bool → Hp → Prop} (h : te σ H fun x H' => ∃ k, x = .bl k ∧ Q k H') : tTest te σ H Q := h
theorem rd_B {Q : Bool → Hp → Prop} (h : te σ H fun x H' => ∃ k, x = .bl k ∧ Q k H') : tB te σ H Q := h
theorem rd_and {Q : Bool → Hp → Prop} (h : tt σ H fun c H1 => if c = true then tu σ H1 Q else Q false H1) : tAnd tt tu σ H Q := h
theorem rd_or {Q : Bool → Hp → Prop} (h : tt σ H fun c H1 => if c = true then Q true H1 else tu σ H1 Q) : tOr tt tu σ H Q := h
theorem rd_not {Q : Bool → Hp → Prop} (h : tt σ H fun c H1 => Q (!c) H1) : tNot tt σ H Q := h
theorem rd_andV (h : ta σ H fun x H1 => ∃ c, x = .bl c ∧ if c = true then tb σ H1 Q else Q (.bl false) H1) : tAndV ta tb σ H Q := h
theorem rd_orV (h : ta σ H fun x H1 => ∃ c, x = .bl c ∧ if c = true then Q (.bl true) H1 else tb σ H1 Q) : tOrV ta tb σ H Q := h
theorem rd_notV (h : ta σ H fun x H1 => ∃ c, x = .bl c ∧ Q (.bl (!c)) H1) : tNotV ta σ H Q := h
theorem rd_ifE (h : tt σ H fun c H1 => if c = true then ta σ H1 Q else tb σ H1 Q) : tIf tt ta tb σ H Q := h
theorem rd_cons {ta : TE} {tr : TA} {Q : List V → Hp → Prop} (h : ta σ H fun x H1 => tr σ H1 fun xs H2 => Q (x :: xs) H2) : tCons ta tr σ H Q := h
theorem rd_nil {Q : List V → Hp → Prop} (h : Q [] H) : tNil σ H Q := h
theorem rd_lst {t : TA} (h : t σ H fun xs H1 => xs.length ≤ sizeLine ∧ ∀ p, H1 p = none → Q (.ref p) (upd H1 p (.lst xs))) : tLst t σ H Q := h
theorem rd_tup {t : TA} (h : t σ H fun xs H1 => xs.length ≤ sizeLine ∧ ∀ p, H1 p = none → Q (.ref p) (upd H1 p (.tup xs))) : tTup t σ H Q := h
theorem rd_len {α : Type} {xs : List α} {A : Prop} (h : xs.length ≤ sizeLine) (q : A) : xs.length ≤ sizeLine ∧ A := ⟨h, q⟩
theorem rd_CB {r : List V → Hp → VK → Prop} {t : TA} (h : t σ H fun vs H1 => r vs H1 Q) : tCB r t σ H Q := h
theorem rd_call {sp : Sp} {E : XK} {t : TA} (h : t σ H fun vs H1 => sp vs H1 Q E) : tCall sp [] E t σ H Q := by
  show t σ H fun vs H1 => sp (vs ++ []) H1 Q E
  have e : (fun (vs : List V) (H1 : Hp) => sp (vs ++ []) H1 Q E) = fun vs H1 => sp vs H1 Q E := by
    funext vs H1
    rw [List.append_nil]
  rw [e]
  exact h
theorem rd_sl {r : V → Option Int → Option Int → Hp → VK → Prop} {tl th : TO} (h : te σ H fun x H1 => tl σ H1 fun l H2 => th σ H2 fun u H3 => r x l u H3 Q) : L2.tSl r te tl th σ H Q := h
theorem rd_part {Q : Option Int → Hp → Prop} (h : te σ H fun x H1 => ∃ i, x = .int i ∧ Q (some i) H1) : tPart te σ H Q := h
theorem rd_nopart {Q : Option Int → Hp → Prop} (h : Q none H) : tNoPart σ H Q := h
theorem rd_isN (h : te σ H fun x H1 => Q (.bl (decide (x = .non))) H1) : tIsN te σ H Q := h
theorem rd_notN (h : te σ H fun x H1 => Q (.bl (!decide (x = .non))) H1) : tNotN te σ H Q := h
theorem rd_bool {b : Bool} {Q : Bool → Prop} (q : Q b) : ∃ k, V.bl b = .bl k ∧ Q k := ⟨b, rfl, q⟩
theorem rd_int {Q : Int → Prop} (q : Q i) : ∃ k, V.int i = .int k ∧ Q k := ⟨i, rfl, q⟩
theorem rd_true {A B : Prop} (h : A) : if true = true then A else B := by rw [if_pos rfl]; exact h
theorem rd_false {A B : Prop} (h : B) : if false = true then A else B := by rw [if_neg Bool.false_ne_true]; exact h
theorem rd_nt {A B : Prop} (h : B) : if (!true) = true then A else B := rd_false h
theorem rd_nf {A B : Prop} (h : A) : if (!false) = true then A else B := rd_true h
theorem rd_decT {p : Prop} [Decidable p] {A B : Prop} (hp : p) (h : A) : if decide p = true then A else B := by rw [decide_eq_true hp, if_pos rfl]; exact h
theorem rd_decF {p : Prop} [Decidable p] {A B : Prop} (hp : ¬ p) (h : B) : if decide p = true then A else B := by rw [decide_eq_false hp, if_neg Bool.false_ne_true]; exact h
theorem rd_ndecT {p : Prop} [Decidable p] {A B : Prop} (hp : ¬ p) (h : A) : if (!decide p) = true then A else B := by rw [decide_eq_false hp]; exact rd_true h
theorem rd_ndecF {p : Prop} [Decidable p] {A B : Prop} (hp : p) (h : B) : if (!decide p) = true then A else B := by rw [decide_eq_true hp]; exact rd_false h
theorem rd_ite {b : Bool} {A B : Prop} (h1 : b = true → A) (h2 : b = false → B) : if b = true then A else B := by
  cases b
  · rw [if_neg Bool.false_ne_true]; exact h2 rfl
  · rw [if_pos rfl]; exact h1 rfl
theorem rd_dec {p : Prop} [Decidable p] {A B : Prop} (h1 : p → A) (h2 : ¬ p → B) : if decide p = true then A else B := by
  by_cases h : p
  · rw [decide_eq_true h, if_pos rfl]; exact h1 h
  · rw [decide_eq_false h, if_neg Bool.false_ne_true]; exact h2 h
theorem rd_ndec {p : Prop} [Decidable p] {A B : Prop} (h1 : ¬ p → A) (h2 : p → B) : if (!decide p) = true then A else B := by
  by_cases h : p
  · rw [decide_eq_true h]; exact rd_false (h2 h)
  · rw [decide_eq_false h]; exact rd_true (h1 h)
theorem rd_strlen {l : List Nat} (hl : l.length ≤ 100000) (q : Q (.int (l.length : Nat)) H) : qLenS [.str (S l)] H Q := ⟨l, rfl, hl, q⟩
theorem rd_cat {l m : List Nat} (hl : l.length + m.length ≤ 100000) (q : Q (.str (S (l ++ m))) H) : qAddS (.str (S l)) (.str (S m)) H Q := ⟨l, m, rfl, rfl, hl, q⟩
theorem rd_ltS {l m : List Nat} (q : Q (.bl (decide (l < m))) H) : qLtS (.str (S l)) (.str (S m)) H Q := ⟨l, m, rfl, rfl, q⟩
theorem rd_leS {l m : List Nat} (q : Q (.bl (!decide (m < l))) H) : qLeS (.str (S l)) (.str (S m)) H Q := ⟨l, m, rfl, rfl, q⟩
theorem rd_gtS {l m : List Nat} (q : Q (.bl (decide (m < l))) H) : qGtS (.str (S l)) (.str (S m)) H Q := ⟨l, m, rfl, rfl, q⟩
theorem rd_geS {l m : List Nat} (q : Q (.bl (!decide (l < m))) H) : qGeS (.str (S l)) (.str (S m)) H Q := ⟨l, m, rfl, rfl, q⟩
theorem rd_inC {c : Nat} {l : List Nat} (q : Q (.bl (decide (c ∈ l))) H) : qInC (.str (S [c])) (.str (S l)) H Q := ⟨c, l, rfl, rfl, q⟩
theorem rd_notInC {c : Nat} {l : List Nat} (q : Q (.bl (!decide (c ∈ l))) H) : qNotInC (.str (S [c])) (.str (S l)) H Q := ⟨c, l, rfl, rfl, q⟩
theorem rd_abs (q : Q (.int (if i < 0 then -i else i)) H) : qAbs [.int i] H Q := ⟨i, rfl, q⟩
theorem rd_max2 (q : Q (.int (if j > i then j else i)) H) : qMax2 [.int i, .int j] H Q := ⟨i, j, rfl, q⟩
theorem rd_min2 (q : Q (.int (if j < i then j else i)) H) : qMin2 [.int i, .int j] H Q := ⟨i, j, rfl, q⟩
theorem rd_listS {l : List Nat} (hl : l.length ≤ 100000) (q : ∀ p, H p = none → Q (.ref p) (upd H p (.lst (signs l)))) : rListS [.str (S l)] H Q := ⟨l, rfl, hl, q⟩
theorem rd_join {p : Addr} {ws : List (List Nat)} (s : SqL K H p (ws.map fun w => V.str (S w))) (hl : ws.flatten.length ≤ 100000) (q : Q (.str (S ws.flatten)) H) : qJoin K (.str (S [])) [.ref p] H Q := ⟨p, ws, rfl, rfl, s, hl, q⟩
theorem rd_joinC {p : Addr} {l : List Nat} (s : SqL K H p (signs l)) (hl : l.length ≤ 100000) (q : Q (.str (S l)) H) : qJoin K (.str (S [])) [.ref p] H Q := by
  have e : ∀ l : List Nat, (l.map fun c => [c]).flatten = l := fun l => by
    induction l with
    | nil => rfl
    | cons a l ih => simp [ih]
  refine ⟨p, l.map fun c => [c], rfl, rfl, ?_, by rw [e]; exact hl, by rw [e]; exact q⟩
  rw [List.map_map]
  exact s
theorem rd_M1 {r : V → List V → Hp → VK → Prop} {to te : TE} (h : to σ H fun x H1 => (∃ a, x = .str a) ∧ te σ H1 fun y H2 => r x [y] H2 Q) : tM1 r to te σ H Q := h
theorem rd_isStr {a : Str} {A : Prop} (h : A) : (∃ b, V.str a = .str b) ∧ A := ⟨⟨a, rfl⟩, h⟩
theorem rd_mulS {l : List Nat} (h1 : -1000 ≤ i) (h2 : i ≤ 1000) (hl : l.length ≤ 1000) (q : Q (.str (S (repL l i.toNat))) H) : rMulS (.str (S l)) (.int i) H Q := ⟨l, i, rfl, rfl, h2, h1, hl, q⟩
theorem rd_ixL {p : Addr} {xs : List V} (s : SqL K H p xs) (a : atI xs i = some v) (q : Q v H) : L2.rIxL K (.ref p) (.int i) H Q := ⟨p, xs, i, v, rfl, rfl, s, a, q⟩
theorem rd_ixT {p : Addr} {xs : List V} (s : SqT K H p xs) (a : atI xs i = some v) (q : Q v H) : L2.rIxT K (.ref p) (.int i) H Q := ⟨p, xs, i, v, rfl, rfl, s, a, q⟩
theorem rd_ixS {l : List Nat} {c : Nat} (hl : l.length ≤ 100000) (a : atI l i = some c) (q : Q (.str (S [c])) H) : L2.rIxS (.str (S l)) (.int i) H Q := ⟨S l, i, c, rfl, rfl, by rw [S_len]; exact sz hl, a, q⟩
theorem rd_lenL {p : Addr} {xs : List V} (s : SqL K H p xs) (q : Q (.int (xs.length : Nat)) H) : qLen K [V.ref p] H Q := ⟨p, xs, rfl, .inl s, q⟩
theorem rd_lenT {p : Addr} {xs : List V} (s : SqT K H p xs) (q : Q (.int (xs.length : Nat)) H) : qLen K [V.ref p] H Q := ⟨p, xs, rfl, .inr s, q⟩
theorem rd_intI (q : Q (.int i) H) : qInt [V.int i] H Q := .inl ⟨i, rfl, q⟩
theorem rd_intB {k : Bool} (q : Q (.int (if k then 1 else 0)) H) : qInt [V.bl k] H Q := .inr ⟨k, rfl, q⟩
theorem rd_setL {p : Addr} {xs : List V} {n : Nat} {R : Hp → Prop} (h : H p = some (.lst xs)) (hj : ixN xs.length i = some n) (q : R (upd H p (.lst (xs.set n v)))) : L2.rSetL (.ref p) (.int i) v H R := ⟨p, xs, i, n, rfl, rfl, h, hj, q⟩
theorem rd_app {l : Addr} {xs : List V} (h : H l = some (.lst xs)) (hl : xs.length < 100000) (q : Q .non (upd H l (.lst (xs ++ [v])))) : rAppend (.ref l) [v] H Q := ⟨l, xs, v, rfl, rfl, h, szlt hl, q⟩
theorem rd_BM {r : V → List V → Hp → VK → Prop} {t : TA} {p : Addr} {ys : List V} {to : TE} (h : to σ H fun x H1 => tyV K "list" x H1 ∧ t σ H1 fun xs H2 => r x xs H2 Q) : tBM K "list" r to t σ H Q := h
theorem tyL {p : Addr} {xs : List V} (h : H p = some (.lst xs)) : tyV K "list" (.ref p) H := .inl ⟨rfl, _, SqL.of h⟩
theorem rd_slL {p : Addr} {xs : List V} {lo hi : Option Int} (s : SqL K H p xs) (q : ∀ p', H p' = none → Q (.ref p') (upd H p' (.lst (cutV xs lo hi)))) : L2.rSlL K (.ref p) lo hi H Q := ⟨p, xs, rfl, s, q⟩
theorem rd_slS_to {l : List Nat} (hl : l.length ≤ 100000) (h0 : 0 ≤ i) (q : Q (.str (S (l.take i.toNat))) H) : C8.rSlX (.str (S l)) none (some i) H Q := ⟨S l, rfl, by rw [S_len]; exact sz hl, by rw [slice_to h0]; exact q⟩
theorem rd_slS_from {l : List Nat} (hl : l.length ≤ 100000) (h0 : 0 ≤ i) (q : Q (.str (S (l.drop i.toNat))) H) : C8.rSlX (.str (S l)) (some i) none H Q := ⟨S l, rfl, by rw [S_len]; exact sz hl, by rw [slice_from h0]; exact q⟩
end
/-- a place in a list by a number that is not negative -/
theorem at_of {α : Type} {xs : List α} {i : Int} {v : α} (h0 : 0 ≤ i) (h : xs[i.toNat]? = some v) : atI xs i = some v := by
  obtain ⟨n, rfl⟩ := Int.eq_ofNat_of_zero_le h0
  exact atI_nat (by simpa using h)
end My
/-! Loops and comprehensions: what is walked, then one lemma each. -/
namespace My
open PySem PySem.Spec L2 SX
open PyProof.Rows hiding St

/-- what a comprehension over J asks -/
def LcG (J : It) (g : TG) (tt : TT) (te : TE) (vs : List Nat) (σ : St) (Q : VK) (H1 : Hp) : Prop := ∀ D, H1 D = none → ∃ W : Nat → Nat → Hp → Prop, (∃ m, W 0 m (upd H1 D (.lst []))) ∧ ∀ i m H, W i m H →
  (J.stop i H ∧ Q (.ref D) H) ∨ (J.go i H ∧ ∃ Nx : Hp → Prop, (∀ H', Nx H' → ∃ m', m' < m ∧ W (i + 1) m' H') ∧ ∀ x H', J.yld i H x H' → g x (wipe σ vs) H' fun σ2 H2 => wipe σ2 vs = wipe σ vs ∧ tt σ2 H2 fun b H3 =>
    if b = true then te σ2 H3 fun y H4 => ∃ acc, H4 D = some (.lst acc) ∧ acc.length < sizeLine ∧ Nx (upd H4 D (.lst (acc ++ [y]))) else Nx H3)
/-- what a for over J asks -/
def ForG (J : It) (g : TG) (tb : TS) (D : Ends) (σ : St) (H1 : Hp) : Prop := ∃ W : Nat → Nat → St → Hp → Prop, (∃ m, W 0 m σ H1) ∧ ∀ i m σ H, W i m σ H →
  (J.stop i H ∧ D.nx σ H) ∨ (J.go i H ∧ ∃ N : St → Hp → Prop, (∀ σ' H', N σ' H' → ∃ m', m' < m ∧ W (i + 1) m' σ' H') ∧ ∀ x H', J.yld i H x H' → g x σ H' fun σ2 H2 => tb { D with nx := N, ct := N, bk := D.nx } σ2 H2)
section
variable {σ : St} {H : Hp} {Q : VK} {D : Ends} {te tl : TE} {ta : TA} {g : TG} {tt : TT} {vs : List Nat} {K : PySem.W.Frag} {wi : TI} {tb : TS} {R : It → Hp → Prop} {i j c : Int}
theorem rd_lc (h : wi σ H fun J H1 => LcG J g tt te vs σ Q H1) : tLc wi g tt te vs σ H Q := h
theorem rd_for (h : wi σ H fun J H1 => ForG J g tb D σ H1) : tFor wi g tb D σ H := h
def qIl (K : PySem.W.Frag) (x : V) (H1 : Hp) (R : It → Hp → Prop) : Prop := ∃ a, x = .ref a ∧ (∃ xs, SqL K H1 a xs) ∧ R (Itl K a) H1
def qItu (K : PySem.W.Frag) (x : V) (H1 : Hp) (R : It → Hp → Prop) : Prop := ∃ a, x = .ref a ∧ (∃ xs, SqT K H1 a xs) ∧ R (Itt K a) H1
def qIr1 (vs : List V) (H1 : Hp) (R : It → Hp → Prop) : Prop := ∃ j : Int, vs = [.int j] ∧ -(2 ^ 62) ≤ j ∧ j < 2 ^ 62 ∧ R (Itr 0 j.toNat) H1
def qIr2 (vs : List V) (H1 : Hp) (R : It → Hp → Prop) : Prop := ∃ i j : Int, vs = [.int i, .int j] ∧ (-(2 ^ 62) ≤ i ∧ i < 2 ^ 62 ∧ -(2 ^ 62) ≤ j ∧ j < 2 ^ 62) ∧ R (Itr i (j - i).toNat) H1
def qIr3 (vs : List V) (H1 : Hp) (R : It → Hp → Prop) : Prop := ∃ (i j c : Int) (n : Nat), vs = [.int i, .int j, .int c] ∧ RgC i j c n ∧ R (Itc i c n) H1
def qIs (v : V) (H1 : Hp) (R : It → Hp → Prop) : Prop := ∃ x, v = .str x ∧ R (Its x) H1
theorem rd_iList (h : tl σ H fun x H1 => qIl K x H1 R) : iList K tl σ H R := h
theorem rd_iTup (h : tl σ H fun x H1 => qItu K x H1 R) : iTup K tl σ H R := h
theorem rd_iRng1 (h : ta σ H fun vs H1 => qIr1 vs H1 R) : iRng1 ta σ H R := h
theorem rd_iRng2 (h : ta σ H fun vs H1 => qIr2 vs H1 R) : iRng2 ta σ H R := h
theorem rd_iRng3 (h : ta σ H fun vs H1 => qIr3 vs H1 R) : iRng3 ta σ H R := h
theorem rd_iStr (h : tl σ H fun v H1 => qIs v H1 R) : iStr tl σ H R := h
theorem rd_qIl {p : Addr} {xs : List V} (s : SqL K H p xs) (q : R (Itl K p) H) : qIl K (.ref p) H R := ⟨p, rfl, ⟨xs, s⟩, q⟩
theorem rd_qItu {p : Addr} {xs : List V} (s : SqT K H p xs) (q : R (Itt K p) H) : qItu K (.ref p) H R := ⟨p, rfl, ⟨xs, s⟩, q⟩
theorem rd_qIr1 (h1 : -100000 ≤ i) (h2 : i ≤ 100000) (q : R (Itr 0 i.toNat) H) : qIr1 [.int i] H R := ⟨i, rfl, by omega, by omega, q⟩
theorem rd_qIr2 (h1 : -100000 ≤ i) (h2 : i ≤ 100000) (h3 : -100000 ≤ j) (h4 : j ≤ 100000) (q : R (Itr i (j - i).toNat) H) : qIr2 [.int i, .int j] H R := ⟨i, j, rfl, by omega, q⟩
theorem rd_qIr3 (h1 : -100000 ≤ i) (h2 : i ≤ 100000) (h3 : -100000 ≤ j) (h4 : j ≤ 100000) (q : R (Itc i (-1) (i - j).toNat) H) : qIr3 [.int i, .int j, .int (-1)] H R := ⟨i, j, -1, _, rfl, RgC.neg (by omega) (by omega) (by omega) (by omega), q⟩
theorem rd_qIs {l : List Nat} (q : R (Its (S l)) H) : qIs (.str (S l)) H R := ⟨S l, rfl, q⟩

/-- a pure test, a pure element -/
def PT0 (tt : TT) (σ : St) (H : Hp) (b : Bool) : Prop := ∀ H1, Same H H1 → ∀ Q : Bool → Hp → Prop, (∀ H2, Same H1 H2 → Q b H2) → tt σ H1 Q
def PE0 (te : TE) (σ : St) (H : Hp) (v : V) : Prop := ∀ H1, Same H H1 → ∀ Q : VK, (∀ H2, Same H1 H2 → Q v H2) → te σ H1 Q
theorem pt_yes : PT0 tYes σ H true := fun H1 _ Q q => q H1 (Same.refl _)

theorem lc_map {α : Type} (ls : List α) (e : α → V) {J : It} {G : Hp → Prop} {Y : Nat → Hp → V → Hp → Prop} (w : Walk J ls.length G Y) (hG : ∀ H', Same H H' → G H')
    (hY : ∀ i H x H', i < ls.length → Y i H x H' → H' = H ∧ ∃ y, ls[i]? = some y ∧ x = e y) {j : Nat} (hn : ls.length ≤ 50000)
    (hw : ∀ x, wipe ((wipe σ vs).set j (some x)) vs = wipe σ vs) (yes : α → Bool) (f : α → V)
    (ht : ∀ y ∈ ls, PT0 tt ((wipe σ vs).set j (some (e y))) H (yes y)) (he : ∀ y ∈ ls, yes y = true → PE0 te ((wipe σ vs).set j (some (e y))) H (f y))
    (q : ∀ D H', H D = none → Same H H' → H' D = some (.lst ((ls.filter yes).map f)) → Q (.ref D) H') : LcG J (gName j) tt te vs σ Q H := by
  intro D hD
  refine lc_it w (fun i H' => Same H H' ∧ H' D = some (.lst (((ls.take i).filter yes).map f))) ⟨Same.new hD, upd_same⟩ (fun i H' _ p => hG H' p.1) ?_ ?_
  · rintro i x H1 H1' hi ⟨s1, hd⟩ yy
    obtain ⟨rfl, y, hy, rfl⟩ := hY i _ _ _ hi yy
    have hm : y ∈ ls := List.mem_of_getElem? hy
    have htk : ls.take (i + 1) = ls.take i ++ [y] := by rw [List.take_succ, hy]; rfl
    refine ⟨hw _, ?_⟩
    refine ht y hm _ s1 _ fun H3 s3 => ?_
    refine rd_ite (fun hb => ?_) (fun hb => ?_)
    · refine he y hm hb _ (s1.trans s3) _ fun H4 s4 => ?_
      refine ⟨_, s4 _ _ (s3 _ _ hd), ?_, Same.mut ((s1.trans s3).trans s4) hD, ?_⟩
      · rw [List.length_map]
        have h1 := List.length_filter_le yes (ls.take i)
        have h2 : (ls.take i).length ≤ ls.length := by rw [List.length_take]; omega
        exact szlt (by omega)
      · rw [upd_same, htk, List.filter_append, List.map_append, List.filter_cons, if_pos hb]
        rfl
    · refine ⟨s1.trans s3, ?_⟩
      rw [htk, List.filter_append, List.map_append, List.filter_cons, if_neg (by rw [hb]; exact Bool.false_ne_true)]
      simp only [List.filter_nil, List.map_nil, List.append_nil]
      exact s3 _ _ hd
  · rintro H1 ⟨s1, hd⟩
    rw [List.take_length] at hd
    exact q D H1 hD s1 hd
theorem filter_yes {α : Type} (l : List α) : l.filter (fun _ => true) = l := List.filter_eq_self.mpr fun _ _ => rfl
/-- over a list -/
theorem lcL {α : Type} (ls : List α) (e : α → V) {p : Addr} (hs : SqL K H p (ls.map e)) {j : Nat} (yes : α → Bool) (f : α → V) (hn : ls.length ≤ 50000)
    (hw : ∀ x, wipe ((wipe σ vs).set j (some x)) vs = wipe σ vs)
    (ht : ∀ y ∈ ls, PT0 tt ((wipe σ vs).set j (some (e y))) H (yes y)) (he : ∀ y ∈ ls, yes y = true → PE0 te ((wipe σ vs).set j (some (e y))) H (f y))
    (q : ∀ D H', H D = none → Same H H' → H' D = some (.lst ((ls.filter yes).map f)) → Q (.ref D) H') : LcG (Itl K p) (gName j) tt te vs σ Q H := by
  have w := walk_list (K := K) (a := p) (xs := ls.map e)
  rw [List.length_map] at w
  refine lc_map ls e w (fun H' s => s.seq hs) (fun i H x H' hi y => ⟨y.1, ?_⟩) hn hw yes f ht he q
  have h2 := y.2
  rw [List.getElem?_map] at h2
  cases h3 : ls[i]? with
  | none => rw [h3] at h2; cases h2
  | some z =>
    rw [h3] at h2
    exact ⟨z, rfl, (Option.some.inj h2).symm⟩
/-- over a range -/
theorem lcR {lo : Int} {n : Nat} {j : Nat} (yes : Nat → Bool) (f : Nat → V) (hn : n ≤ 50000)
    (hw : ∀ x, wipe ((wipe σ vs).set j (some x)) vs = wipe σ vs)
    (ht : ∀ y, y < n → PT0 tt ((wipe σ vs).set j (some (.int (lo + y)))) H (yes y)) (he : ∀ y, y < n → yes y = true → PE0 te ((wipe σ vs).set j (some (.int (lo + y)))) H (f y))
    (q : ∀ D H', H D = none → Same H H' → H' D = some (.lst (((List.range n).filter yes).map f)) → Q (.ref D) H') : LcG (Itr lo n) (gName j) tt te vs σ Q H := by
  have w := walk_range (lo := lo) (n := n)
  refine lc_map (List.range n) (fun y => .int (lo + y)) (by rw [List.length_range]; exact w) (fun _ _ => trivial) (fun i H x H' hi (yy : YFn _ i H x H') => ⟨yy.1, i, ?_, yy.2⟩) (by rw [List.length_range]; exact hn) hw yes f
    (fun y hy => ht y (List.mem_range.mp hy)) (fun y hy => he y (List.mem_range.mp hy)) q
  rw [List.length_range] at hi
  simp [hi]
/-- over a text -/
theorem lcS {l : List Nat} {j : Nat} (yes : Nat → Bool) (f : Nat → V) (hn : l.length ≤ 50000)
    (hw : ∀ x, wipe ((wipe σ vs).set j (some x)) vs = wipe σ vs)
    (ht : ∀ y ∈ l, PT0 tt ((wipe σ vs).set j (some (.str (S [y])))) H (yes y)) (he : ∀ y ∈ l, yes y = true → PE0 te ((wipe σ vs).set j (some (.str (S [y])))) H (f y))
    (q : ∀ D H', H D = none → Same H H' → H' D = some (.lst ((l.filter yes).map f)) → Q (.ref D) H') : LcG (Its (S l)) (gName j) tt te vs σ Q H := by
  have w := walk_str (z := S l)
  have hz : (S l).cps.size = l.length := by simp
  rw [hz] at w
  refine lc_map l (fun y => .str (S [y])) w (fun _ _ => trivial) (fun i H x H' hi y => ⟨y.1, ?_⟩) hn hw yes f ht he q
  obtain ⟨c, h1, h2⟩ := y.2
  exact ⟨c, by simpa using h1, h2⟩

/-- over a range, the element's call may change what stands: acc what is made so far -/
theorem lcR_inv {lo : Int} {n : Nat} {j : Nat} (Pv : Addr → Nat → List V → Hp → Prop) (hn : n ≤ 50000) (hw : ∀ x, wipe ((wipe σ vs).set j (some x)) vs = wipe σ vs)
    (h0 : ∀ D, H D = none → Pv D 0 [] (upd H D (.lst [])))
    (hs : ∀ (D : Addr) (i : Nat) (acc : List V) (H' : Hp) (Q : VK), i < n → H D = none → acc.length = i → Pv D i acc H' → H' D = some (.lst acc) →
      (∀ y H2, H2 D = some (.lst acc) → Pv D (i + 1) (acc ++ [y]) (upd H2 D (.lst (acc ++ [y]))) → Q y H2) → te ((wipe σ vs).set j (some (.int (lo + (i : Nat))))) H' Q)
    (q : ∀ (D : Addr) (acc : List V) (H' : Hp), H D = none → acc.length = n → Pv D n acc H' → H' D = some (.lst acc) → Q (.ref D) H') : LcG (Itr lo n) (gName j) tYes te vs σ Q H := by
  intro D hD
  refine lc_it (walk_range (lo := lo) (n := n)) (fun i H' => ∃ acc : List V, H' D = some (.lst acc) ∧ acc.length = i ∧ Pv D i acc H') ⟨[], upd_same, rfl, h0 D hD⟩ (fun _ _ _ _ => trivial) ?_ ?_
  · rintro i x H1 H1' hi ⟨acc, ha, hl, p⟩ ⟨rfl, rfl⟩
    refine ⟨hw _, ?_⟩
    unfold tYes
    dsimp only
    rw [if_pos rfl]
    refine hs D i acc _ _ hi hD hl p ha fun y H2 h2 p2 => ⟨acc, h2, szlt (by omega), acc ++ [y], upd_same, ?_, p2⟩
    rw [List.length_append, hl]
    rfl
  · rintro H1 ⟨acc, ha, hl, p⟩
    exact q D acc H1 hD hl p ha
theorem cutV_to {xs : List V} {i : Int} (h : 0 ≤ i) : cutV xs none (some i) = xs.take i.toNat := by
  obtain ⟨n, rfl⟩ := Int.eq_ofNat_of_zero_le h
  unfold cutV
  rw [HT.sIx_none, HT.sIx_nat, List.drop_zero, Nat.sub_zero, Int.toNat_natCast]
  rw [Nat.min_def]
  split
  · rfl
  · rw [List.take_of_length_le (Nat.le_refl _), List.take_of_length_le (by omega)]
/-! ### for -/
variable {nx : St → Hp → Prop} {rt : VK} {bk ct : St → Hp → Prop}
theorem for_map {α : Type} (ls : List α) (e : α → V) {J : It} {G : Hp → Prop} {Y : Nat → Hp → V → Hp → Prop} (w : Walk J ls.length G Y)
    (hY : ∀ i H x H', i < ls.length → Y i H x H' → H' = H ∧ ∃ y, ls[i]? = some y ∧ x = e y) {j : Nat} (Pv : Nat → St → Hp → Prop) (h0 : Pv 0 σ H) (hG : ∀ i σ H, i ≤ ls.length → Pv i σ H → G H)
    (hs : ∀ i y σ H, ls[i]? = some y → Pv i σ H → tb ⟨Pv (i + 1), rt, nx, Pv (i + 1)⟩ (σ.set j (some (e y))) H) (hd : ∀ σ H, Pv ls.length σ H → nx σ H) : ForG J (gName j) tb ⟨nx, rt, bk, ct⟩ σ H :=
  for_it w Pv h0 hG (fun i x σ H H' hi p yy => by
    obtain ⟨rfl, y, hy, rfl⟩ := hY i _ _ _ hi yy
    exact hs i y σ _ hy p) hd
theorem forL {α : Type} (ls : List α) (e : α → V) {p : Addr} {j : Nat} (Pv : Nat → St → Hp → Prop) (h0 : Pv 0 σ H) (hG : ∀ i σ H, i ≤ ls.length → Pv i σ H → SqL K H p (ls.map e))
    (hs : ∀ i y σ H, ls[i]? = some y → Pv i σ H → tb ⟨Pv (i + 1), rt, nx, Pv (i + 1)⟩ (σ.set j (some (e y))) H) (hd : ∀ σ H, Pv ls.length σ H → nx σ H) : ForG (Itl K p) (gName j) tb ⟨nx, rt, bk, ct⟩ σ H := by
  have w := walk_list (K := K) (a := p) (xs := ls.map e)
  rw [List.length_map] at w
  refine for_map ls e w (fun i H x H' hi y => ⟨y.1, ?_⟩) Pv h0 hG hs hd
  have h2 := y.2
  rw [List.getElem?_map] at h2
  cases h3 : ls[i]? with
  | none => rw [h3] at h2; cases h2
  | some z =>
    rw [h3] at h2
    exact ⟨z, rfl, (Option.some.inj h2).symm⟩
theorem forR {lo : Int} {n : Nat} {j : Nat} (Pv : Nat → St → Hp → Prop) (h0 : Pv 0 σ H)
    (hs : ∀ i σ H, i < n → Pv i σ H → tb ⟨Pv (i + 1), rt, nx, Pv (i + 1)⟩ (σ.set j (some (.int (lo + (i : Nat))))) H) (hd : ∀ σ H, Pv n σ H → nx σ H) : ForG (Itr lo n) (gName j) tb ⟨nx, rt, bk, ct⟩ σ H :=
  for_it (walk_range (lo := lo) (n := n)) Pv h0 (fun _ _ _ _ _ => trivial) (fun i x σ H H' hi p y => by
    obtain ⟨rfl, rfl⟩ := y
    exact hs i σ _ hi p) hd
theorem forRC {lo c : Int} {n : Nat} {j : Nat} (Pv : Nat → St → Hp → Prop) (h0 : Pv 0 σ H)
    (hs : ∀ i σ H, i < n → Pv i σ H → tb ⟨Pv (i + 1), rt, nx, Pv (i + 1)⟩ (σ.set j (some (.int (lo + (i : Nat) * c)))) H) (hd : ∀ σ H, Pv n σ H → nx σ H) : ForG (Itc lo c n) (gName j) tb ⟨nx, rt, bk, ct⟩ σ H :=
  for_it (walk_rangeC (lo := lo) (n := n)) Pv h0 (fun _ _ _ _ _ => trivial) (fun i x σ H H' hi p y => by
    obtain ⟨rfl, rfl⟩ := y
    exact hs i σ _ hi p) hd
theorem forS {l : List Nat} {j : Nat} (Pv : Nat → St → Hp → Prop) (h0 : Pv 0 σ H)
    (hs : ∀ i y σ H, l[i]? = some y → Pv i σ H → tb ⟨Pv (i + 1), rt, nx, Pv (i + 1)⟩ (σ.set j (some (.str (S [y])))) H) (hd : ∀ σ H, Pv l.length σ H → nx σ H) : ForG (Its (S l)) (gName j) tb ⟨nx, rt, bk, ct⟩ σ H := by
  have w := walk_str (z := S l)
  have hz : (S l).cps.size = l.length := by simp
  rw [hz] at w
  refine for_map l (fun y => .str (S [y])) w (fun i H x H' hi y => ⟨y.1, ?_⟩) Pv h0 (fun _ _ _ _ _ => trivial) hs hd
  obtain ⟨c, h1, h2⟩ := y.2
  exact ⟨c, by simpa using h1, h2⟩
/-- while, by a word with its measure -/
def WhB (W : Nat → St → Hp → Prop) (m : Nat) (tb : TS) (rt : VK) (nx : St → Hp → Prop) (σ : St) (H1 : Hp) : Prop :=
  ∃ N : St → Hp → Prop, (∀ σ' H', N σ' H' → ∃ m', m' < m ∧ W m' σ' H') ∧ tb ⟨N, rt, nx, N⟩ σ H1
theorem rd_while (W : Nat → St → Hp → Prop) (m0 : Nat) (h0 : W m0 σ H)
    (hs : ∀ m σ H, W m σ H → tt σ H fun b H1 => if b = true then WhB W m tb rt nx σ H1 else nx σ H1) : tWhile tt tb ⟨nx, rt, bk, ct⟩ σ H :=
  ⟨W, ⟨m0, h0⟩, hs⟩
theorem rd_whb {W : Nat → St → Hp → Prop} {m : Nat} (h : tb ⟨fun σ' H' => ∃ m', m' < m ∧ W m' σ' H', rt, nx, fun σ' H' => ∃ m', m' < m ∧ W m' σ' H'⟩ σ H) : WhB W m tb rt nx σ H :=
  ⟨_, fun _ _ h => h, h⟩
end
end My
/-! isinstance, deep equality of plain data, sorted. -/
namespace My
open PySem PySem.Spec L2 SX
open PyProof.Rows hiding St
section
variable {H : Hp} {Q : VK} {K : PySem.W.Frag} {x y : V}
theorem rd_isi {a b : String} {r : Bool} (ty : TyX K H x (.type a)) (h : kitB a b = some r) (q : Q (.bl r) H) : rIsi K [x, .ty b] H Q := ⟨x, .ty b, .type a, .type b, r, rfl, .ty b, ty, kit_ty h, q⟩
theorem ty_str {z : Str} : TyX K H (.str z) (.type "str") := .base (.str z)
theorem ty_int {i : Int} : TyX K H (.int i) (.type "int") := .base (.int i)
theorem ty_bl {b : Bool} : TyX K H (.bl b) (.type "bool") := .base (.bl b)
theorem ty_lst {a : Addr} {xs : List V} (h : H a = some (.lst xs)) : TyX K H (.ref a) (.type "list") := .base (.lst h)
theorem ty_tup {a : Addr} {xs : List V} (h : H a = some (.tup xs)) : TyX K H (.ref a) (.type "tuple") := .base (.tup h)
theorem ty_non : TyX K H .non (.type "NoneType") := .base .non

theorem kb_str_str : kitB "str" "str" = some true := by decide +kernel
theorem kb_str_int : kitB "str" "int" = some false := by decide +kernel
theorem kb_str_bool : kitB "str" "bool" = some false := by decide +kernel
theorem kb_str_list : kitB "str" "list" = some false := by decide +kernel
theorem kb_str_tuple : kitB "str" "tuple" = some false := by decide +kernel
theorem kb_int_str : kitB "int" "str" = some false := by decide +kernel
theorem kb_int_int : kitB "int" "int" = some true := by decide +kernel
theorem kb_int_bool : kitB "int" "bool" = some false := by decide +kernel
theorem kb_int_list : kitB "int" "list" = some false := by decide +kernel
theorem kb_int_tuple : kitB "int" "tuple" = some false := by decide +kernel
theorem kb_bool_str : kitB "bool" "str" = some false := by decide +kernel
theorem kb_bool_int : kitB "bool" "int" = some true := by decide +kernel
theorem kb_bool_bool : kitB "bool" "bool" = some true := by decide +kernel
theorem kb_bool_list : kitB "bool" "list" = some false := by decide +kernel
theorem kb_bool_tuple : kitB "bool" "tuple" = some false := by decide +kernel
theorem kb_list_str : kitB "list" "str" = some false := by decide +kernel
theorem kb_list_int : kitB "list" "int" = some false := by decide +kernel
theorem kb_list_bool : kitB "list" "bool" = some false := by decide +kernel
theorem kb_list_list : kitB "list" "list" = some true := by decide +kernel
theorem kb_list_tuple : kitB "list" "tuple" = some false := by decide +kernel
theorem kb_tuple_str : kitB "tuple" "str" = some false := by decide +kernel
theorem kb_tuple_int : kitB "tuple" "int" = some false := by decide +kernel
theorem kb_tuple_bool : kitB "tuple" "bool" = some false := by decide +kernel
theorem kb_tuple_list : kitB "tuple" "list" = some false := by decide +kernel
theorem kb_tuple_tuple : kitB "tuple" "tuple" = some true := by decide +kernel
theorem kb_NoneType_str : kitB "NoneType" "str" = some false := by decide +kernel
theorem kb_NoneType_int : kitB "NoneType" "int" = some false := by decide +kernel
theorem kb_NoneType_bool : kitB "NoneType" "bool" = some false := by decide +kernel
theorem kb_NoneType_list : kitB "NoneType" "list" = some false := by decide +kernel
theorem kb_NoneType_tuple : kitB "NoneType" "tuple" = some false := by decide +kernel
/-! ### data -/
def dI (ns : List Int) : PyData := .list (ns.map PyData.int)
def dS (ws : List (List Nat)) : PyData := .list (ws.map fun w => PyData.str (S w))
def dSI (w : List Nat) (k : Int) : PyData := .tuple [.str (S w), .int k]
theorem canI : ∀ ns : List Int, PyData.canLayAll0 (ns.map PyData.int) = true
  | [] => rfl
  | n :: ns => by
    show (PyData.canLay0 (.int n) && PyData.canLayAll0 (ns.map PyData.int)) = true
    rw [canI ns]; rfl
theorem depI : ∀ ns : List Int, PyData.depthAll (ns.map PyData.int) = 0
  | [] => rfl
  | n :: ns => by
    show max (PyData.depth (.int n)) (PyData.depthAll (ns.map PyData.int)) = 0
    rw [depI ns]; rfl
theorem shI (ns : List Int) : SeqAt.shaped (dI ns) = true := by
  unfold SeqAt.shaped dI
  have h1 : PyData.canLay0 (.list (ns.map PyData.int)) = true := canI ns
  have h2 : PyData.depth (.list (ns.map PyData.int)) = 1 := by show PyData.depthAll _ + 1 = 1; rw [depI]
  rw [h1, h2]; rfl
theorem eqAllI : ∀ ns ms : List Int, PyData.eqvAll (ns.map PyData.int) (ms.map PyData.int) = decide (ns = ms)
  | [], [] => rfl
  | [], _ :: _ => rfl
  | _ :: _, [] => rfl
  | n :: ns, m :: ms => by
    show (PyData.eqv (.int n) (.int m) && PyData.eqvAll (ns.map PyData.int) (ms.map PyData.int)) = _
    rw [eqAllI ns ms]
    have h : PyData.eqv (.int n) (.int m) = decide (n = m) := by simp only [PyData.eqv]; by_cases e : n = m <;> simp [e]
    rw [h]
    by_cases e : n = m <;> by_cases e2 : ns = ms <;> simp [e, e2]
theorem eqI (ns ms : List Int) : PyData.eqv (dI ns) (dI ms) = decide (ns = ms) := by
  show PyData.eqvAll _ _ = _
  exact eqAllI ns ms
theorem dpAllI : ∀ ns : List Int, DpAll K H (ns.map V.int) (ns.map PyData.int)
  | [] => .nil
  | n :: ns => .cons (.int n) (dpAllI ns)
theorem dpI {a : Addr} {ns : List Int} (h : SqL K H a (ns.map V.int)) : Dp K H (.ref a) (dI ns) := .lst h (dpAllI ns)
/-- its code points are code points -/
def OkW (w : List Nat) : Prop := ∀ c ∈ w, c < 1114112
theorem canStr {w : List Nat} (h : OkW w) : PyData.canLay0 (.str (S w)) = true := by
  show PyData.strOk (S w) = true
  unfold PyData.strOk
  rw [← Array.all_toList]
  exact List.all_eq_true.mpr fun c hc => decide_eq_true (h c (by simpa using hc))
theorem canS : ∀ ws : List (List Nat), (∀ w ∈ ws, OkW w) → PyData.canLayAll0 (ws.map fun w => PyData.str (S w)) = true
  | [], _ => rfl
  | w :: ws, h => by
    show (PyData.canLay0 (.str (S w)) && PyData.canLayAll0 (ws.map fun w => PyData.str (S w))) = true
    rw [canS ws fun v hv => h v (List.mem_cons_of_mem _ hv), canStr (h w List.mem_cons_self)]; rfl
theorem depS : ∀ ws : List (List Nat), PyData.depthAll (ws.map fun w => PyData.str (S w)) = 0
  | [] => rfl
  | w :: ws => by
    show max (PyData.depth (.str (S w))) (PyData.depthAll (ws.map fun w => PyData.str (S w))) = 0
    rw [depS ws]; rfl
theorem shS (ws : List (List Nat)) (h : ∀ w ∈ ws, OkW w) : SeqAt.shaped (dS ws) = true := by
  unfold SeqAt.shaped dS
  have h1 : PyData.canLay0 (.list (ws.map fun w => PyData.str (S w))) = true := canS ws h
  have h2 : PyData.depth (.list (ws.map fun w => PyData.str (S w))) = 1 := by show PyData.depthAll _ + 1 = 1; rw [depS]
  rw [h1, h2]; rfl
theorem eqStr (v w : List Nat) : PyData.eqv (.str (S v)) (.str (S w)) = decide (v = w) := by
  simp only [PyData.eqv]
  exact S_beq_eq
theorem eqAllS : ∀ vs ws : List (List Nat), PyData.eqvAll (vs.map fun w => PyData.str (S w)) (ws.map fun w => PyData.str (S w)) = decide (vs = ws)
  | [], [] => rfl
  | [], _ :: _ => rfl
  | _ :: _, [] => rfl
  | v :: vs, w :: ws => by
    show (PyData.eqv (.str (S v)) (.str (S w)) && PyData.eqvAll (vs.map fun w => PyData.str (S w)) (ws.map fun w => PyData.str (S w))) = _
    rw [eqAllS vs ws, eqStr]
    by_cases e : v = w <;> by_cases e2 : vs = ws <;> simp [e, e2]
theorem eqS (vs ws : List (List Nat)) : PyData.eqv (dS vs) (dS ws) = decide (vs = ws) := eqAllS vs ws
theorem dpAllS : ∀ ws : List (List Nat), DpAll K H (ws.map fun w => V.str (S w)) (ws.map fun w => PyData.str (S w))
  | [] => .nil
  | w :: ws => .cons (.str (S w)) (dpAllS ws)
theorem dpS {a : Addr} {ws : List (List Nat)} (h : SqL K H a (ws.map fun w => V.str (S w))) : Dp K H (.ref a) (dS ws) := .lst h (dpAllS ws)
theorem dpSI {a : Addr} {w : List Nat} {k : Int} (h : SqT K H a [.str (S w), .int k]) : Dp K H (.ref a) (dSI w k) := .tup h (.cons (.str _) (.cons (.int _) .nil))
theorem shSI {w : List Nat} {k : Int} (h : OkW w) : SeqAt.shaped (dSI w k) = true := by
  unfold SeqAt.shaped dSI
  have h1 : PyData.canLay0 (.tuple [.str (S w), .int k]) = true := by
    show (PyData.canLay0 (.str (S w)) && (PyData.canLay0 (.int k) && true)) = true
    rw [canStr h]; rfl
  rw [h1]; rfl
theorem eqSI (v w : List Nat) (j k : Int) : PyData.eqv (dSI v j) (dSI w k) = decide (v = w ∧ j = k) := by
  show (PyData.eqv (.str (S v)) (.str (S w)) && (PyData.eqv (.int j) (.int k) && true)) = _
  have h : PyData.eqv (.int j) (.int k) = decide (j = k) := by simp only [PyData.eqv]; by_cases e : j = k <;> simp [e]
  rw [eqStr, h]
  by_cases e : v = w <;> by_cases e2 : j = k <;> simp [e, e2]
theorem rd_eqD {d e : PyData} (hd : Dp K H x d) (he : Dp K H y e) (sd : SeqAt.shaped d = true) (se : SeqAt.shaped e = true) (q : Q (.bl (PyData.eqv d e)) H) : rEqD K x y H Q := ⟨d, e, hd, he, sd, se, q⟩
theorem rd_neD {d e : PyData} (hd : Dp K H x d) (he : Dp K H y e) (sd : SeqAt.shaped d = true) (se : SeqAt.shaped e = true) (q : Q (.bl (!PyData.eqv d e)) H) : rNeD K x y H Q := ⟨d, e, hd, he, sd, se, q⟩
theorem rd_eqLI {p r : Addr} {ns ms : List Int} (h1 : SqL K H p (ns.map V.int)) (h2 : SqL K H r (ms.map V.int)) (q : Q (.bl (decide (ns = ms))) H) : rEqD K (.ref p) (.ref r) H Q := rd_eqD (dpI h1) (dpI h2) (shI _) (shI _) (by rw [eqI]; exact q)
theorem rd_neLI {p r : Addr} {ns ms : List Int} (h1 : SqL K H p (ns.map V.int)) (h2 : SqL K H r (ms.map V.int)) (q : Q (.bl (!decide (ns = ms))) H) : rNeD K (.ref p) (.ref r) H Q := rd_neD (dpI h1) (dpI h2) (shI _) (shI _) (by rw [eqI]; exact q)
theorem rd_eqLS {p r : Addr} {ns ms : List (List Nat)} (h1 : SqL K H p (ns.map fun w => V.str (S w))) (h2 : SqL K H r (ms.map fun w => V.str (S w))) (o1 : ∀ w ∈ ns, OkW w) (o2 : ∀ w ∈ ms, OkW w) (q : Q (.bl (decide (ns = ms))) H) : rEqD K (.ref p) (.ref r) H Q := rd_eqD (dpS h1) (dpS h2) (shS _ o1) (shS _ o2) (by rw [eqS]; exact q)
theorem rd_neLS {p r : Addr} {ns ms : List (List Nat)} (h1 : SqL K H p (ns.map fun w => V.str (S w))) (h2 : SqL K H r (ms.map fun w => V.str (S w))) (o1 : ∀ w ∈ ns, OkW w) (o2 : ∀ w ∈ ms, OkW w) (q : Q (.bl (!decide (ns = ms))) H) : rNeD K (.ref p) (.ref r) H Q := rd_neD (dpS h1) (dpS h2) (shS _ o1) (shS _ o2) (by rw [eqS]; exact q)
theorem rd_eqTSI {p r : Addr} {v w : List Nat} {j k : Int} (h1 : SqT K H p [.str (S v), .int j]) (h2 : SqT K H r [.str (S w), .int k]) (o1 : OkW v) (o2 : OkW w) (q : Q (.bl (decide (v = w ∧ j = k))) H) : rEqD K (.ref p) (.ref r) H Q := rd_eqD (dpSI h1) (dpSI h2) (shSI o1) (shSI o2) (by rw [eqSI]; exact q)
theorem rd_neTSI {p r : Addr} {v w : List Nat} {j k : Int} (h1 : SqT K H p [.str (S v), .int j]) (h2 : SqT K H r [.str (S w), .int k]) (o1 : OkW v) (o2 : OkW w) (q : Q (.bl (!decide (v = w ∧ j = k))) H) : rNeD K (.ref p) (.ref r) H Q := rd_neD (dpSI h1) (dpSI h2) (shSI o1) (shSI o2) (by rw [eqSI]; exact q)
/-- two sorted lists of the same ints are one -/
theorem sorted_one : ∀ {as bs : List Int}, as.Perm bs → as.Pairwise (· ≤ ·) → bs.Pairwise (· ≤ ·) → as = bs
  | [], bs, p, _, _ => (List.nil_perm.mp p).symm
  | a :: as, [], p, _, _ => absurd (List.perm_nil.mp p) (by simp)
  | a :: as, b :: bs, p, h1, h2 => by
    rw [List.pairwise_cons] at h1 h2
    have hab : a = b := by
      have h3 : a ∈ b :: bs := p.subset List.mem_cons_self
      have h4 : b ∈ a :: as := p.symm.subset List.mem_cons_self
      rcases List.mem_cons.mp h3 with h3 | h3
      · exact h3
      · rcases List.mem_cons.mp h4 with h4 | h4
        · exact h4.symm
        · have := h1.1 b h4
          have := h2.1 a h3
          omega
    subst hab
    rw [sorted_one ((List.perm_cons a).mp p) h1.2 h2.2]
theorem rd_sortedI {p : Addr} {ns ms : List Int} (h : SqL K H p (ns.map V.int)) (pm : ms.Perm ns) (srt : ms.Pairwise (· ≤ ·)) (q : ∀ r, H r = none → Q (.ref r) (upd H r (.lst (ms.map V.int)))) : rSortedI K [.ref p] H Q :=
  ⟨p, ns, rfl, h, fun ns' r p2 s2 nr => by
    have e : ns' = ms := sorted_one (p2.trans pm.symm) s2 srt
    rw [e]
    exact q r nr⟩
/-- a new list from two -/
theorem rd_catL {l b : Addr} {xs zs : List V} (h1 : H l = some (.lst xs)) (h2 : H b = some (.lst zs)) (hl : xs.length + zs.length ≤ 100000) (q : ∀ p, H p = none → Q (.ref p) (upd H p (.lst (xs ++ zs)))) : rCat (.ref l) (.ref b) H Q :=
  ⟨l, b, xs, zs, rfl, rfl, h1, h2, sz hl, q⟩
theorem rd_revL {σ : St} {te : TE} (h : te σ H fun x H1 => ∃ a xs, x = .ref a ∧ SqL K H1 a xs ∧ ∀ p, H1 p = none → Q (.ref p) (upd H1 p (.lst xs.reverse))) : tRevL K te σ H Q := h
end
end My
/-! All words over the first letters, up to a length. Plain. -/
namespace Wds
/-- the words of m letters over the first n -/
def exact (n : Nat) : Nat → List (List Nat)
  | 0 => [[]]
  | m + 1 => (List.range n).flatMap fun c => (exact n m).map fun w => (97 + c) :: w
def upto (n m : Nat) : List (List Nat) := (List.range (m + 1)).flatMap (exact n)
theorem mem_exact {n : Nat} : ∀ (m : Nat) (l : List Nat), l.length = m → (∀ c ∈ l, 97 ≤ c ∧ c < 97 + n) → l ∈ exact n m
  | 0, l, h, _ => by
    have : l = [] := List.length_eq_zero_iff.mp h
    subst this
    exact List.mem_singleton.mpr rfl
  | m + 1, [], h, _ => by cases h
  | m + 1, c :: l, h, w => by
    have h2 := w c List.mem_cons_self
    refine List.mem_flatMap.mpr ⟨c - 97, List.mem_range.mpr (by omega), List.mem_map.mpr ⟨l, mem_exact m l (by simpa using h) fun d hd => w d (List.mem_cons_of_mem _ hd), ?_⟩⟩
    rw [show 97 + (c - 97) = c by omega]
theorem mem_upto {n m : Nat} {l : List Nat} (h : l.length ≤ m) (w : ∀ c ∈ l, 97 ≤ c ∧ c < 97 + n) : l ∈ upto n m :=
  List.mem_flatMap.mpr ⟨l.length, List.mem_range.mpr (by omega), mem_exact _ l rfl w⟩
end Wds
/-! min of data, comprehensions over zip. -/
namespace My
open PySem PySem.Spec L2 SX
open PyProof.Rows hiding St
section
variable {X : Cx} {H : Hp} {Q : VK} {K : PySem.W.Frag}
/-- min(xs), xs a list of alike data -/
def rMinD (K : PySem.W.Frag) : List V → Hp → VK → Prop := fun vs H Q => ∃ (a : Addr) (xs : List V) (d : PyData) (ds : List PyData), vs = [V.ref a] ∧ SqL K H a xs ∧ DpAll K H xs (d :: ds) ∧ PySem.W.AlikeAll (d :: ds) ∧ SeqAt.shaped (.list (d :: ds)) = true ∧
  ∀ (i : Nat) (v : V), xs[i]? = some v → (d :: ds)[i]? = some (PySem.W.minD d ds) → Q v H
theorem dpAll_len : ∀ {xs : List V} {ds : List PyData}, DpAll K H xs ds → xs.length = ds.length
  | _, _, .nil => rfl
  | _, _, .cons _ t => by rw [List.length_cons, List.length_cons, dpAll_len t]
theorem reads_keep {h h' : Heap} (k : ∀ b o, h.get? b = some o → h'.get? b = some o) {v : Value} {d : PyData} {as : List Addr} (r : Reads h v d as) : Reads h' v d as := PyProof.Rows.Reads.keeps k r
theorem cr_minD (hc : X.calm = true) (hu : X.A.units + 100 < cLine) : CallR X (.builtin "min") (rMinD X.K) := by
  intro pins s σ H vs us Q I r h
  obtain ⟨a, xs, d, ds, rfl, hs, hd, hal, hsh, q⟩ := h
  obtain ⟨its, rv, hl, _⟩ := I.list hs
  rw [Vals.ref1 r]
  obtain ⟨as, hr⟩ := Dp.readsAll I (d :: ds) xs its hd rv
  have hcan : PyData.canLayAll0 (d :: ds) = true := SeqAt.canLay_of_shaped hsh
  have hdep : PyData.depthAll (d :: ds) + 1 ≤ 64 := SeqAt.depth_of_shaped hsh
  refine PySem.W.min_list_data (I.ok.hd hc) hl.isList (vs := its.toArray) (by simpa using hr) hal (by omega) fun i v h' tk bs hv hrd hk => ?_
  have hv2 : its[i]? = some v := by simpa using hv
  have hil : i < its.length := (List.getElem?_eq_some_iff.mp hv2).1
  have hxl : i < xs.length := by rw [rv.length]; exact hil
  obtain ⟨u, hu2, ru⟩ := rv.get (List.getElem?_eq_getElem hxl)
  rw [hv2] at hu2
  cases hu2
  have hdl : i < (d :: ds).length := by rw [← dpAll_len hd]; exact hxl
  have hvd : its[i]? = some v := hv2
  obtain ⟨bs2, r2, _, hm, _⟩ := PySem.W.readsAll_at hr i v hv2
  have hci : ((d :: ds).getD i .none).canLay0 = true := PyData.canLay0_of_mem (d :: ds) _ hcan hm
  have e := PySem.SeqAt.Reads.unique _ _ _ _ _ hci (reads_keep hk r2) hrd
  refine ⟨xs[i], H, I.kept hk, ru, q i _ (List.getElem?_eq_getElem hxl) ?_⟩
  rw [List.getElem?_eq_getElem hdl]
  rw [List.getD_eq_getElem?_getD, List.getElem?_eq_getElem hdl] at e
  exact congrArg some e

/-! ### pairs of a text and an int -/
def ltSI (a b : List Nat × Int) : Bool := decide (a.1 < b.1) || (decide (a.1 = b.1) && decide (a.2 < b.2))
def minSI (a : List Nat × Int) (l : List (List Nat × Int)) : List Nat × Int := l.foldl (fun m y => if ltSI y m then y else m) a
def toSI (a : List Nat × Int) : PyData := dSI a.1 a.2
theorem alikeSI (a b : List Nat × Int) : PySem.W.alike (toSI a) (toSI b) = true := by simp [toSI, dSI, PySem.W.alike, PySem.W.alikeAll]
theorem dataLtSI (a b : List Nat × Int) : PySem.W.dataLt (toSI a) (toSI b) = ltSI a b := by
  unfold toSI dSI ltSI
  rw [PySem.W.dataLt_pair (by simp [PySem.W.alike]) (by simp [PySem.W.alike]), PySem.W.dataLt_int, PySem.W.dataLt_str, eqStr]
  have e : PyData.eqv (.int a.2) (.int b.2) = decide (a.2 = b.2) := by simp only [PyData.eqv]; by_cases e : a.2 = b.2 <;> simp [e]
  rw [e]
  show (if decide (a.1 = b.1) = true then _ else decide (a.1 < b.1)) = _
  by_cases h1 : a.1 = b.1
  · rw [decide_eq_true h1, if_pos rfl, h1]
    have h2 : decide (b.1 < b.1) = false := decide_eq_false (List.lt_irrefl _)
    rw [h2]
    by_cases h3 : a.2 = b.2
    · simp [h3]
    · simp [h3]
  · rw [decide_eq_false h1, if_neg Bool.false_ne_true]
    simp
theorem minSI_D (a : List Nat × Int) : ∀ l : List (List Nat × Int), PySem.W.minD (toSI a) (l.map toSI) = toSI (minSI a l) := by
  intro l
  unfold PySem.W.minD minSI
  induction l generalizing a with
  | nil => rfl
  | cons b l ih =>
    rw [List.map_cons, List.foldl_cons, List.foldl_cons, dataLtSI]
    by_cases h : ltSI b a = true
    · rw [if_pos h, if_pos h]; exact ih b
    · rw [if_neg h, if_neg h]; exact ih a
theorem canSI (a : List Nat × Int) (h : OkW a.1) : (toSI a).canLay0 = true := by
  show (PyData.canLay0 (.str (S a.1)) && (PyData.canLay0 (.int a.2) && true)) = true
  rw [canStr h]; rfl
theorem canAllSI : ∀ l : List (List Nat × Int), (∀ a ∈ l, OkW a.1) → PyData.canLayAll0 (l.map toSI) = true
  | [], _ => rfl
  | a :: l, h => by
    show (PyData.canLay0 (toSI a) && PyData.canLayAll0 (l.map toSI)) = true
    rw [canAllSI l fun b hb => h b (List.mem_cons_of_mem _ hb), canSI a (h a List.mem_cons_self)]; rfl
theorem depAllSI : ∀ l : List (List Nat × Int), PyData.depthAll (l.map toSI) ≤ 1
  | [] => Nat.zero_le _
  | a :: l => by
    show max (PyData.depth (toSI a)) (PyData.depthAll (l.map toSI)) ≤ 1
    have h1 : PyData.depth (toSI a) = 1 := rfl
    have := depAllSI l
    omega
theorem toSI_inj {a b : List Nat × Int} (h : toSI a = toSI b) : a = b := by
  unfold toSI dSI at h
  injection h with h
  injection h with h1 h2
  injection h2 with h2 _
  injection h1 with h1
  injection h2 with h2
  exact Prod.ext (S_inj h1) h2
/-- the list's items: new tuples, as they stand -/
def TupsAt (H : Hp) : List V → List (List Nat × Int) → Prop := Paired fun v a => ∃ t, v = .ref t ∧ H t = some (.tup [.str (S a.1), .int a.2])
theorem dpTups : ∀ {vs : List V} {l : List (List Nat × Int)}, TupsAt H vs l → DpAll K H vs (l.map toSI)
  | _, _, .nil => .nil
  | _, _, .cons ⟨t, e, h⟩ r => by
    subst e
    exact .cons (dpSI (SqT.of h)) (dpTups r)
theorem tups_at {vs : List V} {l : List (List Nat × Int)} (h : TupsAt H vs l) {i : Nat} {v : V} {a : List Nat × Int} (hv : vs[i]? = some v) (ha : l[i]? = some a) : ∃ t, v = .ref t ∧ H t = some (.tup [.str (S a.1), .int a.2]) := by
  induction h generalizing i with
  | nil => simp at hv
  | cons r _ ih =>
    cases i with
    | zero =>
      simp at hv ha
      subst hv ha
      exact r
    | succ i => exact ih (by simpa using hv) (by simpa using ha)
theorem rd_minSI {p : Addr} {vs : List V} {a : List Nat × Int} {l : List (List Nat × Int)} (hs : SqL K H p vs) (ht : TupsAt H vs (a :: l)) (ho : ∀ b ∈ a :: l, OkW b.1)
    (q : ∀ t, H t = some (.tup [.str (S (minSI a l).1), .int (minSI a l).2]) → Q (.ref t) H) : rMinD K [.ref p] H Q := by
  refine ⟨p, vs, toSI a, l.map toSI, rfl, hs, dpTups ht, ⟨?_, ?_⟩, ?_, fun i v hv hd => ?_⟩
  · intro x hx y hy
    have hx2 : x ∈ (a :: l).map toSI := hx
    have hy2 : y ∈ (a :: l).map toSI := hy
    obtain ⟨b, _, rfl⟩ := List.mem_map.mp hx2
    obtain ⟨c, _, rfl⟩ := List.mem_map.mp hy2
    exact alikeSI b c
  · intro x hx
    have hx2 : x ∈ (a :: l).map toSI := hx
    obtain ⟨b, _, rfl⟩ := List.mem_map.mp hx2
    exact fun z => nomatch z
  · unfold SeqAt.shaped
    have h1 : PyData.canLay0 (.list ((a :: l).map toSI)) = true := canAllSI _ ho
    have h2 : PyData.depth (.list ((a :: l).map toSI)) ≤ 64 := by
      show PyData.depthAll ((a :: l).map toSI) + 1 ≤ 64
      have := depAllSI (a :: l)
      omega
    rw [Bool.and_eq_true]
    exact ⟨h1, decide_eq_true h2⟩
  · rw [minSI_D] at hd
    have hd2 : ((a :: l).map toSI)[i]? = some (toSI (minSI a l)) := hd
    rw [List.getElem?_map] at hd2
    cases e : (a :: l)[i]? with
    | none => rw [e] at hd2; cases hd2
    | some b =>
      rw [e] at hd2
      have e2 := toSI_inj (Option.some.inj hd2)
      subst e2
      obtain ⟨t, rfl, hst⟩ := tups_at ht hv e
      exact q t hst

/-! ### comprehensions over zip -/
variable {σ : St} {te : TE} {vs : List Nat} {R : It → Hp → Prop}
/-- the target (a, b) of names -/
abbrev g2 (K : PySem.W.Frag) (i j : Nat) : TG := gTup K 2 (gCons (gName i) (gCons (gName j) gNil))
theorem lcZ {J : It} {n : Nat} {G : Hp → Prop} {A B : Nat → Option V} (w : Walk J n G (YPair A B)) (hG : ∀ H', Same H H' → G H') {i j : Nat} (f : Nat → V) (hn : n ≤ 50000)
    (hw : ∀ x y, wipe (((wipe σ vs).set i (some x)).set j (some y)) vs = wipe σ vs)
    (he : ∀ k x y, k < n → A k = some x → B k = some y → PE0 te (((wipe σ vs).set i (some x)).set j (some y)) H (f k))
    (q : ∀ D H', H D = none → Same H H' → H' D = some (.lst ((List.range n).map f)) → Q (.ref D) H') : LcG J (g2 K i j) tYes te vs σ Q H := by
  intro D hD
  refine lc_it w (fun k H' => Same H H' ∧ H' D = some (.lst ((List.range k).map f))) ⟨Same.new hD, upd_same⟩ (fun k H' _ p => hG H' p.1) ?_ ?_
  · rintro k x H1 H1' hk ⟨s1, hd⟩ ⟨T, x, y, rfl, hT, rfl, ha, hb⟩
    refine ⟨T, [x, y], rfl, SqT.of upd_same, rfl, x, [y], rfl, y, [], rfl, rfl, hw x y, ?_⟩
    unfold tYes; dsimp only
    rw [if_pos rfl]
    have s2 : Same H (upd H1 T (.tup [x, y])) := fun b o e => by rw [upd_ne (ne_of_none (s1 b o e) hT)]; exact s1 b o e
    refine he k x y hk ha hb _ s2 _ fun H3 s3 => ?_
    have hDT : D ≠ T := ne_of_none hd hT
    refine ⟨_, s3 _ _ (by rw [upd_ne hDT]; exact hd), ?_, Same.mut (s2.trans s3) hD, ?_⟩
    · rw [List.length_map, List.length_range]
      exact szlt (by omega)
    · rw [upd_same, List.range_succ, List.map_append]
      rfl
  · rintro H1 ⟨s1, hd⟩
    exact q D H1 hD s1 hd
theorem walk_zipT {a b : Addr} {xs ys : List V} (hl : xs.length = ys.length) : Walk (RZ.ItzT K a b) xs.length (fun H => SqT K H a xs ∧ SqT K H b ys) (YPair (fun i => xs[i]?) (fun i => ys[i]?)) := by
  refine ⟨fun i _ hi q => ?_, fun _ q => ⟨xs, ys, q.1, q.2, .inl (Nat.le_refl _)⟩, fun i H v H' _ q y => ?_⟩
  · have h2 : i < ys.length := by omega
    exact ⟨xs, ys, xs[i], ys[i], q.1, q.2, by simp [hi], by simp [h2]⟩
  · obtain ⟨T, x, z, h1, h2, h3, h4, h5⟩ := y
    exact ⟨T, x, z, h1, h2, h3, h4 xs q.1, h5 ys q.2⟩
def qZip (K : PySem.W.Frag) (vs : List V) (H1 : Hp) (R : It → Hp → Prop) : Prop := ∃ a b xs ys, vs = [.ref a, .ref b] ∧ ((SqL K H1 a xs ∧ SqL K H1 b ys ∧ R (Itz K a b) H1) ∨ (SqT K H1 a xs ∧ SqT K H1 b ys ∧ R (RZ.ItzT K a b) H1))
theorem rd_iZip {ta : TA} (h : ta σ H fun vs H1 => qZip K vs H1 R) : RZ.iZipA K ta σ H R := h
theorem rd_zipL {a b : Addr} {xs ys : List V} (h1 : SqL K H a xs) (h2 : SqL K H b ys) (q : R (Itz K a b) H) : qZip K [.ref a, .ref b] H R := ⟨a, b, xs, ys, rfl, .inl ⟨h1, h2, q⟩⟩
theorem rd_zipT {a b : Addr} {xs ys : List V} (h1 : SqT K H a xs) (h2 : SqT K H b ys) (q : R (RZ.ItzT K a b) H) : qZip K [.ref a, .ref b] H R := ⟨a, b, xs, ys, rfl, .inr ⟨h1, h2, q⟩⟩
/-- all, any -/
theorem rd_all {p : Addr} {bs : List Bool} (h : SqL K H p (bs.map V.bl)) (q : Q (.bl (bs.all id)) H) : rAll K [.ref p] H Q := ⟨p, bs, rfl, h, q⟩
theorem rd_any {p : Addr} {bs : List Bool} (h : SqL K H p (bs.map V.bl)) (q : Q (.bl (bs.any id)) H) : rAny K [.ref p] H Q := ⟨p, bs, rfl, h, q⟩
/-- isinstance with a tuple of types just made -/
theorem rd_isiT {x : V} {t : Value} {tp : Addr} {cs : List V} {us : List Value} {b : Bool} (h : H tp = some (.tup cs)) (p : Paired ClsV cs us) (ty : TyX K H x t) (k : PySem.W.kitAny K t us = some b) (q : Q (.bl b) H) : rIsiT K [x, .ref tp] H Q := ⟨x, tp, cs, t, us, b, rfl, h, p, ty, k, q⟩
theorem rd_isiTL {x : V} {a : String} {tp : Addr} {r1 r2 : Bool} (h : H tp = some (.tup [.ty "tuple", .ty "list"])) (ty : TyX K H x (.type a)) (k1 : kitB a "tuple" = some r1) (k2 : kitB a "list" = some r2) (q : Q (.bl (r1 || r2)) H) : rIsiT K [x, .ref tp] H Q := by
  refine rd_isiT h (.cons (.ty _) (.cons (.ty _) .nil)) ty ?_ q
  cases r1 with
  | true => exact kitAny_cons (kit_ty k1) (fun z => nomatch z) fun _ => rfl
  | false =>
    refine kitAny_cons (b := false) (kit_ty k1) (fun _ => ?_) fun z => nomatch z
    cases r2 with
    | true => exact kitAny_cons (kit_ty k2) (fun z => nomatch z) fun _ => rfl
    | false => exact kitAny_cons (b := false) (kit_ty k2) (fun _ => kitAny_nil) fun z => nomatch z
end
end My
/-! Small rules: replace of written texts, room. -/
namespace My
open PySem PySem.Spec L2 SX
open PyProof.Rows hiding St
section
variable {X : Cx} {x y z : Str} {i j k : Nat} {cx c0 c1 apos pos : Pos}
theorem pe_replLit (l : List Nat) (hl : Txt.replace x y z = S l) (hb : x.length + (x.length + 1) * z.length ≤ 16777216) (hyz : (y == z) = false := by decide)
    (hst : starEach [.Constant (.str y) j c0, .Constant (.str z) k c1] X.env = [(false, eval (.Constant (.str y) j c0) X.env), (false, eval (.Constant (.str z) k c1) X.env)] := by rfl)
    (hbase : attributeBase (.Constant (.str x) i cx) "replace" X.env (eval (.Constant (.str x) i cx) X.env) = eval (.Constant (.str x) i cx) X.env := by rfl) (hline : (apos.endLine == pos.line) = true := by rfl) :
    PE X (.Call (.Attribute (.Constant (.str x) i cx) "replace" apos) [.Constant (.str y) j c0, .Constant (.str z) k c1] [] pos) (tC (.str (S l))) := by
  refine ⟨fun pins s σ H Q I h => ?_⟩
  refine PySem.Call_method2 hbase hst hline (Calls.Constant_str ?_)
  refine ⟨"str", _, PySem.F.plainAttrs_str, PySem.F.slot_str_replace, PySem.F.type_str_replace, typeIs_str _ _ _, (fun _ e => nomatch e), Calls.callWith_builtin rfl (Calls.evalArgs_plain (Calls.spliced_cons ?_))⟩
  refine Calls.Constant_str (Calls.spliced_cons (Calls.Constant_str (Calls.spliced_nil ?_)))
  refine PySem.SC.replace (by show s.toks + 1 ≠ 0; omega) (by show s.toks + 1 + 1 ≠ 0; omega) (by show s.toks + 1 ≠ s.toks + 1 + 1; omega) hyz hb fun t' hk => ⟨.str (S l), H, (I.tok _).tok hk, ⟨t', by rw [hl]⟩, h⟩
end
theorem pg_two {X : Cx} {i j k : Nat} {x y : Str} {p q pos : Pos} (K : PySem.W.Frag) (hK : X.K = K) (hc : X.calm = true) (hN : X.N.Nodup) (hi : X.N[i]? = some x) (hx : Loc X.env.scope x) (hj : X.N[j]? = some y) (hy : Loc X.env.scope y)
    (h1 : X.fn x = true ∨ X.env.scope.names.lookup x = some .local := by first | exact .inl rfl | exact .inr rfl | assumption)
    (h2 : X.fn y = true ∨ X.env.scope.names.lookup y = some .local := by first | exact .inl rfl | exact .inr rfl | assumption) :
    PG X (.Tuple [.Name x p, .Name y q] k pos) (gTup K 2 (gCons (gName i) (gCons (gName j) gNil))) := by
  subst hK
  exact pg_tup hc (pgs_cons (pg_name hN hi hx h1) (pgs_cons (pg_name hN hj hy h2) pgs_nil))
theorem rd_slS_mid {H : Hp} {Q : VK} {l : List Nat} {i j : Int} (hl : l.length ≤ 100000) (h0 : 0 ≤ i) (h1 : i ≤ j) (h2 : j ≤ (l.length : Int)) (q : Q (.str (S ((l.drop i.toNat).take (j - i).toNat))) H) : C8.rSlX (.str (S l)) (some i) (some j) H Q := by
  refine ⟨S l, rfl, by rw [S_len]; exact sz hl, ?_⟩
  have e : Txt.slice (S l) (some i) (some j) = S ((l.drop i.toNat).take (j - i).toNat) :=
    (beq_iff_eq.mp (PyProof.Rows.slice_closesL (x := S l) h0 h1 (by rw [S_len]; exact h2))).trans (TL.ext_tl rfl)
  rw [e]
  exact q
theorem one_lt {x y : Nat} : [x] < [y] ↔ x < y := by
  rw [List.cons_lt_cons_iff]
  simp
theorem paired_snoc {α β : Type} {R : α → β → Prop} {as : List α} {bs : List β} {a : α} {b : β} (h : Paired R as bs) (r : R a b) : Paired R (as ++ [a]) (bs ++ [b]) := by
  induction h with
  | nil => exact .cons r .nil
  | cons x _ ih => exact .cons x ih
/-- a while with what holds behind it said once -/
theorem rd_whileX {σ : St} {H : Hp} {tt : TT} {tb : TS} {nx : St → Hp → Prop} {rt : VK} {bk ct : St → Hp → Prop} (W : Nat → St → Hp → Prop) (Ex : St → Hp → Prop) (m0 : Nat) (h0 : W m0 σ H) (hx : ∀ σ H, Ex σ H → nx σ H)
    (hs : (∀ σ H, Ex σ H → nx σ H) → ∀ m σ H, W m σ H → tt σ H fun b H1 => if b = true then WhB W m tb rt nx σ H1 else nx σ H1) : tWhile tt tb ⟨nx, rt, bk, ct⟩ σ H :=
  rd_while W m0 h0 (hs hx)
theorem rd_two {a b : V} {R : V → V → Prop} (h : R a b) : ∃ v w, [a, b] = [v, w] ∧ R v w := ⟨a, b, rfl, h⟩
theorem rd_evT {b : Bool} {A B : Prop} (h : b = true) (q : A) : if b = true then A else B := by rw [if_pos h]; exact q
theorem rd_evF {b : Bool} {A B : Prop} (h : b = false) (q : B) : if b = true then A else B := by rw [if_neg (by rw [h]; exact Bool.false_ne_true)]; exact q
theorem Room.u100 {k : Nat} {A : Around} (r : Room k A) : A.units + 100 < cLine := by have := r.un; omega
theorem Room.u65 {k : Nat} {A : Around} (r : Room k A) : A.units + 65 < cLine := by have := r.un; omega
end My
/-! zip of two texts. -/
namespace My
open PySem PySem.Spec L2 SX
open PyProof.Rows hiding St
/-- the signs of two texts, in new pairs -/
def ItzS (x y : Str) : It :=
  ⟨fun i _ => i < min x.cps.size y.cps.size, fun i H v H' => ∃ T c d, v = .ref T ∧ H T = none ∧ H' = upd H T (.tup [.str ⟨#[c]⟩, .str ⟨#[d]⟩]) ∧ x.cps[i]? = some c ∧ y.cps[i]? = some d, fun i _ => i = min x.cps.size y.cps.size⟩
theorem turn_zipS {P : Program} {w : World} {K : PySem.W.Frag} {elts : List Expr} {kk : Nat} {tpos : Pos} {z TI TO i1 i2 : Addr} {x y : Str} {t u : Tok} (D : ZipSep2 z TI TO i1 i2 [i1] [i2]) :
    Turn P w K (.Tuple elts kk tpos) (ItzS x y) [z, TI, TO, i1, i2] z (fun i h => IsZip h z TI TO .none ∧ IsTupOf2 h TI (.ref i1) (.ref i2) ∧ (∃ a b, IsTupOf2 h TO a b) ∧ h.IsStrIter i1 (strIterType x) x t i ∧ h.IsStrIter i2 (strIterType y) y u i) where
  mem := by simp
  obj := fun i h st c hc => by
    obtain ⟨hz, hTI, ⟨a, b, hTO⟩, ⟨o1, e1, _, d1⟩, ⟨o2, e2, _, d2⟩⟩ := st
    have e' : c = z ∨ c = TI ∨ c = TO ∨ c = i1 ∨ c = i2 := by simpa using hc
    rcases e' with q | q | q | q | q
    · rw [q]; exact ⟨_, hz, fun v q => nomatch q⟩
    · rw [q]; exact ⟨_, hTI, fun v q => nomatch q⟩
    · rw [q]; exact ⟨_, hTO, fun v q => nomatch q⟩
    · rw [q]; exact ⟨o1, e1, fun v q => by rw [d1] at q; cases q⟩
    · rw [q]; exact ⟨o2, e2, fun v q => by rw [d2] at q; cases q⟩
  keep := fun i h h' st k => by
    obtain ⟨hz, hTI, ⟨a, b, hTO⟩, ⟨o1, e1, r1⟩, ⟨o2, e2, r2⟩⟩ := st
    exact ⟨k z (by simp) _ hz, k TI (by simp) _ hTI, ⟨a, b, k TO (by simp) _ hTO⟩, ⟨o1, k i1 (by simp) _ e1, r1⟩, ⟨o2, k i2 (by simp) _ e2, r2⟩⟩
  item := by
    intro X hP hw hK hc i pins s σ H E I hf st hg
    subst hP hw hK
    obtain ⟨hz, hTI, ⟨x0, y0, hTO⟩, h1, h2⟩ := st
    have hg2 : i < min x.cps.size y.cps.size := hg
    have hzl : z < s.heap.objs.size := Heap.lt_size hz
    have D1 := Draws.text (prog := X.prog) (w := X.w) (A := X.A.in1) (I.ok.hd hc) i1 x t
    have D2 := Draws.text (prog := X.prog) (w := X.w) (A := X.A.in1) (I.ok.hd hc) i2 y u
    refine wpAny_pyNext_zipD2_item (i := i) D D1 D2 hz hTI hTO h1 h2 (by omega) (by omega) fun v1 v2 h' tk p1 p2 z' TO' h1' h2' hT hsz hk => ?_
    obtain ⟨c, t1, hc1, rfl⟩ := p1
    obtain ⟨d, t2, hd2, rfl⟩ := p2
    refine ⟨_, rfl, wpAny_letOwnedTupleGo_zip (s := { s with heap := h', toks := tk }) z' fun h'' z'' sb => ?_⟩
    have hT2 : h''.get? s.heap.objs.size = some { cls := .type "tuple", data := .seq #[.str ⟨#[c]⟩ t1, .str ⟨#[d]⟩ t2] } := (sb.2 _ (Nat.ne_of_gt hzl)).trans hT
    have new : ObjOk X.prog X.w (upd H s.heap.objs.size (.tup [.str ⟨#[c]⟩, .str ⟨#[d]⟩])) h'' s.heap.objs.size (.tup [.str ⟨#[c]⟩, .str ⟨#[d]⟩]) :=
      ⟨by show 2 ≤ sizeLine; decide, [.str ⟨#[c]⟩ t1, .str ⟨#[d]⟩ t2], .cons ⟨t1, rfl⟩ (.cons ⟨t2, rfl⟩ .nil), ⟨_, hT2, rfl, _, rfl⟩⟩
    have I1 : Inv X pins σ (upd H s.heap.objs.size (.tup [.str ⟨#[c]⟩, .str ⟨#[d]⟩])) { s with heap := h'', toks := tk } :=
      I.turnedNew (t' := tk) (ch := [z, TI, TO, i1, i2]) (fun c o hb q => (sb.2 c (fun q' => hb (by simp [q']))).trans (hk c o (fun q' => hb (by simp [q'])) (fun q' => hb (by simp [q'])) (fun q' => hb (by simp [q'])) (fun q' => hb (by simp [q'])) q)) hf (Nat.le_refl _) new
    refine ⟨.ref s.heap.objs.size, _, I1, rfl, ⟨_, c, d, rfl, I.hok.fresh (Nat.le_refl _), rfl, hc1, hd2⟩, ⟨z'', ?_, ⟨.str ⟨#[c]⟩ t1, .str ⟨#[d]⟩ t2, ?_⟩, ?_, ?_⟩, fun b hbm => ?_⟩
    · exact (sb.2 _ D.TIz).trans (hk _ _ D.TIz D.TITO D.TIi1 D.TIi2 hTI)
    · exact (sb.2 _ D.TOz).trans TO'
    · obtain ⟨o, e, r⟩ := h1'
      exact ⟨o, (sb.2 _ (Ne.symm D.zi1)).trans e, r⟩
    · obtain ⟨o, e, r⟩ := h2'
      exact ⟨o, (sb.2 _ (Ne.symm D.zi2)).trans e, r⟩
    · have hlt : b < s.heap.objs.size := by
        have e' : b = z ∨ b = TI ∨ b = TO ∨ b = i1 ∨ b = i2 := by simpa using hbm
        rcases e' with q | q | q | q | q
        · rw [q]; exact hzl
        · rw [q]; exact Heap.lt_size hTI
        · rw [q]; exact Heap.lt_size hTO
        · rw [q]; obtain ⟨_, e1, _⟩ := h1; exact Heap.lt_size e1
        · rw [q]; obtain ⟨_, e2, _⟩ := h2; exact Heap.lt_size e2
      rw [upd_ne (Nat.ne_of_lt hlt)]
      exact (hf b hbm).1
  done := by
    intro X hP hw hK hc i pins s σ H E I hf st hg
    subst hP hw hK
    obtain ⟨hz, hTI, ⟨x0, y0, hTO⟩, h1, h2⟩ := st
    have hg2 : i = min x.cps.size y.cps.size := hg
    have D1 := Draws.text (prog := X.prog) (w := X.w) (A := X.A.in1) (I.ok.hd hc) i1 x t
    have D2 := Draws.text (prog := X.prog) (w := X.w) (A := X.A.in1) (I.ok.hd hc) i2 y u
    exact wpAny_pyNext_zipD2_end (i := i) D D1 D2 hz hTI hTO h1 h2 (by omega) (by omega) (by omega) fun h' tk hk => ⟨rfl, I.turnedL (t' := tk) (ch := [z, TI, TO, i1, i2]) (fun c o hb q =>
      hk c o (fun q' => hb (by simp [q'])) (fun q' => hb (by simp [q'])) (fun q' => hb (by simp [q'])) (fun q' => hb (by simp [q'])) q) hf⟩
  self := fun A i s Q E st h => wpAny_pyIter_zip st.1 h
def iZipS (ta : TA) : TI := fun σ H R => ta σ H fun vs H1 => ∃ x y, vs = [.str x, .str y] ∧ R (ItzS x y) H1
theorem pi_zipS {X : Cx} {e e2 : Expr} {ta : TA} {p pos tpos : Pos} {elts : List Expr} {kk : Nat} (hg : Gl X "zip") (hm : X.mg "zip" = none) (ha : PA X [e, e2] ta)
    (hs : starEach [e, e2] X.env = (false, eval e X.env) :: starEach [e2] X.env := by rfl) (hpl : (backTo pos (starEach [e2] X.env)).any (·.1) = false := by rfl) :
    PI X (.Tuple elts kk tpos) (.Call (.Name "zip" p) [e, e2] [] pos) (iZipS ta) := by
  refine ⟨fun pins s σ H R I h => ?_⟩
  refine Call_ (ld_blt I hg hm PyProof.Rows.boot_zip (PyProof.Rows.callWith_type1 (thn (ha.run pos pins s σ H _ I h) fun us s1 ⟨vs, H1, I1, r1, q1⟩ => ?_) hs hpl))
  obtain ⟨x, y, ex, q⟩ := q1
  subst ex
  cases r1 with
  | cons r rr =>
    cases rr with
    | cons r' rr =>
      cases rr
      obtain ⟨t, rfl⟩ := r
      obtain ⟨u, rfl⟩ := r'
      have fresh5 : ∀ c, c ∈ [s1.heap.objs.size + 4, s1.heap.objs.size + 2, s1.heap.objs.size + 3, s1.heap.objs.size, s1.heap.objs.size + 1] → FpOk X pins H1 c := fun c hcm => by
        have e' : c = s1.heap.objs.size + 4 ∨ c = s1.heap.objs.size + 2 ∨ c = s1.heap.objs.size + 3 ∨ c = s1.heap.objs.size ∨ c = s1.heap.objs.size + 1 := by simpa using hcm
        have hle : s1.heap.objs.size ≤ c := by omega
        exact I1.fpOk hle (I1.hok.fresh hle)
      refine zip_begins2 (begins_text x t) (begins_text y u) trivial trivial fun h' hz hTI hTO h1 h2 hsz hk => wpAny_pyIter_zip hz ?_
      have I2 : Inv X pins σ H1 { s1 with heap := h' } := I1.kept (t' := s1.toks) hk
      refine ⟨s1.heap.objs.size + 4, [s1.heap.objs.size + 4, s1.heap.objs.size + 2, s1.heap.objs.size + 3, s1.heap.objs.size, s1.heap.objs.size + 1], _, _, H1, rfl, I2, turn_zipS (t := t) (u := u) ?_, ⟨hz, hTI, ⟨_, _, hTO⟩, ⟨_, h1, rfl, rfl⟩, ⟨_, h2, rfl, rfl⟩⟩, fresh5, q⟩
      constructor <;> first | omega | simp
section
variable {σ : St} {H : Hp} {te : TE} {ta : TA} {vs : List Nat} {Q : VK} {R : It → Hp → Prop}
def qZipS (vs : List V) (H1 : Hp) (R : It → Hp → Prop) : Prop := ∃ x y, vs = [.str x, .str y] ∧ R (ItzS x y) H1
theorem rd_iZipS (h : ta σ H fun vs H1 => qZipS vs H1 R) : iZipS ta σ H R := h
theorem rd_zipS {l m : List Nat} (q : R (ItzS (S l) (S m)) H) : qZipS [.str (S l), .str (S m)] H R := ⟨S l, S m, rfl, q⟩
theorem walk_zipS {l m : List Nat} (hl : m.length ≤ l.length) : Walk (ItzS (S l) (S m)) m.length (fun _ => True) (YPair (fun i => l[i]?.map fun c => V.str (S [c])) (fun i => m[i]?.map fun c => V.str (S [c]))) := by
  have e1 : (S l).cps.size = l.length := by simp
  have e2 : (S m).cps.size = m.length := by simp
  refine ⟨fun i _ hi _ => ?_, fun _ _ => ?_, fun i H v H' _ _ y => ?_⟩
  · show i < min _ _
    omega
  · show m.length = min _ _
    omega
  · obtain ⟨T, c, d, h1, h2, h3, h4, h5⟩ := y
    refine ⟨T, .str ⟨#[c]⟩, .str ⟨#[d]⟩, h1, h2, h3, ?_, ?_⟩
    · have : l[i]? = some c := by simpa using h4
      dsimp only
      rw [this]
      rfl
    · have : m[i]? = some d := by simpa using h5
      dsimp only
      rw [this]
      rfl
end
end My
/-! x in a tuple of lists, list(range), dicts of ints, unpacking of lists, max. -/
namespace My
open PySem PySem.Spec L2 SX
open PyProof.Rows hiding St
section
variable {X : Cx} {K : PySem.W.Frag} {H : Hp} {Q : VK} {σ : St}
def rInT (K : PySem.W.Frag) (neg : Bool) : R2 := fun x y H Q => ∃ d ds, Dp K H x d ∧ Dp K H y (.tuple ds) ∧ SeqAt.shaped d = true ∧ SeqAt.shaped (.tuple ds) = true ∧ Q (.bl (if neg then !(ds.any fun z => PyData.eqv z d) else ds.any fun z => PyData.eqv z d)) H
theorem op_inT (K : PySem.W.Frag) (hK : X.K = K) (hu : X.A.units + 65 < cLine) : OpR X (compareOp .In) (rInT K false) := by
  subst hK
  intro pins s σ H x y v u Q I rx ry h
  obtain ⟨d, ds, hd, he, sd, se, q⟩ := h
  obtain ⟨as, r1⟩ := Dp.reads I d x v hd rx
  obtain ⟨bs, r2⟩ := Dp.reads I (.tuple ds) y u he ry
  exact SeqAt.in_tuple_reads r2 r1 (SeqAt.canLay_of_shaped se) (SeqAt.canLay_of_shaped sd) (room_in_shaped sd hu) ⟨.bl _, H, I, rfl, q⟩
theorem op_notInT (K : PySem.W.Frag) (hK : X.K = K) (hu : X.A.units + 65 < cLine) : OpR X (compareOp .NotIn) (rInT K true) := by
  subst hK
  intro pins s σ H x y v u Q I rx ry h
  obtain ⟨d, ds, hd, he, sd, se, q⟩ := h
  obtain ⟨as, r1⟩ := Dp.reads I d x v hd rx
  obtain ⟨bs, r2⟩ := Dp.reads I (.tuple ds) y u he ry
  exact SeqAt.notIn_tuple_reads r2 r1 (SeqAt.canLay_of_shaped se) (SeqAt.canLay_of_shaped sd) (room_in_shaped sd hu) ⟨.bl _, H, I, rfl, q⟩
/-- a list of ints not in a tuple of two such lists -/
theorem rd_notInT2 {p t q r : Addr} {a b c : List Int} (hp : SqL K H p (a.map V.int)) (ht : SqT K H t [.ref q, .ref r]) (hq : SqL K H q (b.map V.int)) (hr : SqL K H r (c.map V.int))
    (k : Q (.bl (!(decide (b = a) || decide (c = a)))) H) : rInT K true (.ref p) (.ref t) H Q := by
  refine ⟨dI a, [dI b, dI c], dpI hp, .tup ht (.cons (dpI hq) (.cons (dpI hr) .nil)), shI _, ?_, ?_⟩
  · have h1 := shI b
    have h2 := shI c
    unfold SeqAt.shaped at h1 h2 ⊢
    rw [Bool.and_eq_true] at h1 h2 ⊢
    have e1 : PyData.canLay0 (.tuple [dI b, dI c]) = (PyData.canLay0 (dI b) && (PyData.canLay0 (dI c) && true)) := rfl
    have e2 : PyData.depth (.tuple [dI b, dI c]) = max (PyData.depth (dI b)) (max (PyData.depth (dI c)) 0) + 1 := rfl
    have e3 : ∀ ns : List Int, PyData.depth (dI ns) = 1 := fun ns => by
      show PyData.depthAll (ns.map PyData.int) + 1 = 1
      rw [depI]
    refine ⟨by rw [e1, h1.1, h2.1]; rfl, decide_eq_true ?_⟩
    rw [e2, e3, e3]
    decide
  · show Q (.bl (!(PyData.eqv (dI b) (dI a) || (PyData.eqv (dI c) (dI a) || false)))) H
    rw [eqI, eqI, Bool.or_false]
    exact k
theorem op_inQ (K : PySem.W.Frag) (hK : X.K = K) : OpR X (compareOp .In) (rIn K false) := by
  subst hK
  exact op_in_seq
theorem op_notInQ (K : PySem.W.Frag) (hK : X.K = K) : OpR X (compareOp .NotIn) (rIn K true) := by
  subst hK
  exact op_notIn_seq
theorem cr_allK (K : PySem.W.Frag) (hK : X.K = K) (hc : X.calm = true) : CallR X (.builtin "all") (rAll K) := by
  subst hK
  exact cr_all hc
/-! list(range(..)) -/
def qRg (a b : Int) (H1 : Hp) (Q : VK) : Prop := RgOk a b ∧ ∀ q, H1 q = none → Q (.ref q) (upd H1 q (.lst (rgV a b)))
theorem rd_lstRg {te : St → Hp → (Int → Int → Hp → Prop) → Prop} (h : te σ H fun a b H1 => qRg a b H1 Q) : tLstRg te σ H Q := h
theorem rd_tRg1 {ta : TE} {R : Int → Int → Hp → Prop} (h : ta σ H fun x H1 => ∃ n, x = .int n ∧ R 0 n H1) : tRg1 ta σ H R := h
theorem rd_tRg2 {ta tb : TE} {R : Int → Int → Hp → Prop} (h : ta σ H fun x H1 => tb σ H1 fun y H2 => ∃ i j, x = .int i ∧ y = .int j ∧ R i j H2) : tRg2 ta tb σ H R := h
theorem rd_rg1 {n : Int} {R : Int → Prop} (h : R n) : ∃ m, V.int n = V.int m ∧ R m := ⟨n, rfl, h⟩
theorem rd_rg2 {i j : Int} {R : Int → Int → Prop} (h : R i j) : ∃ m k, V.int i = V.int m ∧ V.int j = V.int k ∧ R m k := ⟨i, j, rfl, rfl, h⟩
theorem rd_qRg {a b : Int} (h : 0 ≤ a ∧ a ≤ 100000 ∧ 0 ≤ b ∧ b ≤ 100000) (q : ∀ p, H p = none → Q (.ref p) (upd H p (.lst (rgV a b)))) : qRg a b H Q := ⟨RgOk.of_le (by omega) (by omega) (by omega) (by omega), q⟩
/-! dicts whose keys are ints -/
def qDGet (x y : V) (H2 : Hp) (Q : VK) : Prop := ∃ a v, x = .ref a ∧ DGet H2 a y (some v) ∧ Q v H2
theorem rd_tDGet {td ty : TE} (h : td σ H fun x H1 => ty σ H1 fun y H2 => qDGet x y H2 Q) : tDGet td ty σ H Q := h
theorem rd_dget {a : Addr} {kvs : List (Key × V)} {i : Int} {v : V} (h : H a = some (.dK kvs)) (e : valV kvs (.inl i) = some v) (q : Q v H) : qDGet (.ref a) (.int i) H Q := ⟨a, v, rfl, by
  have := DGet.k (k := Sum.inl i) h
  rw [e] at this
  exact this, q⟩
def qDPut (x y v : V) (H3 : Hp) (R : Hp → Prop) : Prop := ∃ a H4, x = .ref a ∧ DPut H3 a y v H4 ∧ R H4
theorem rd_sDPut {td ty tv : TE} {D : Ends} (h : tv σ H fun v H1 => td σ H1 fun x H2 => ty σ H2 fun y H3 => qDPut x y v H3 fun H4 => D.nx σ H4) : sDPut td ty tv D σ H := h
theorem rd_dput {a : Addr} {kvs : List (Key × V)} {i : Int} {v : V} {R : Hp → Prop} (h : H a = some (.dK kvs)) (hl : kvs.length < 100000) (q : R (upd H a (.dK (putK kvs (.inl i) v)))) : qDPut (.ref a) (.int i) v H R :=
  ⟨a, _, rfl, DPut.k (k := Sum.inl i) h (szlt hl), q⟩
theorem putK_len {kvs : List (Key × V)} {k : Key} {v : V} : (putK kvs k v).length ≤ kvs.length + 1 := by
  unfold putK
  split
  · rw [List.length_map]; omega
  · rw [List.length_append]; exact Nat.le_refl _
theorem rd_dnew (h : ∀ p, H p = none → Q (.ref p) (upd H p (.dK []))) : tDNewK σ H Q := h
/-! unpacking a list of three -/
theorem pg_unl3 {i j l k : Nat} {x y z : Str} {p q r pos : Pos} (K : PySem.W.Frag) (hK : X.K = K) (hc : X.calm = true) (hN : X.N.Nodup) (hi : X.N[i]? = some x) (hx : Loc X.env.scope x) (hj : X.N[j]? = some y) (hy : Loc X.env.scope y) (hl : X.N[l]? = some z) (hz : Loc X.env.scope z)
    (h1 : X.fn x = true ∨ X.env.scope.names.lookup x = some .local := by first | exact .inl rfl | exact .inr rfl | assumption)
    (h2 : X.fn y = true ∨ X.env.scope.names.lookup y = some .local := by first | exact .inl rfl | exact .inr rfl | assumption)
    (h3 : X.fn z = true ∨ X.env.scope.names.lookup z = some .local := by first | exact .inl rfl | exact .inr rfl | assumption) :
    PG X (.Tuple [.Name x p, .Name y q, .Name z r] k pos) (gUnl K 3 (gCons (gName i) (gCons (gName j) (gCons (gName l) gNil)))) := by
  subst hK
  exact pg_unl hc (pgs_cons (pg_name hN hi hx h1) (pgs_cons (pg_name hN hj hy h2) (pgs_cons (pg_name hN hl hz h3) pgs_nil)))
theorem rd_unl3 {a : Addr} {u v w : V} {i j l : Nat} {R : St → Hp → Prop} (h : SqL K H a [u, v, w]) (q : R (((σ.set i (some u)).set j (some v)).set l (some w)) H) : gUnl K 3 (gCons (gName i) (gCons (gName j) (gCons (gName l) gNil))) (.ref a) σ H R :=
  ⟨a, _, rfl, h, rfl, _, _, rfl, _, _, rfl, _, _, rfl, rfl, q⟩
/-! max of a list of ints -/
theorem rd_max {p : Addr} {ns : List Int} {m : Int} (h : SqL K H p (ns.map V.int)) (hm : m ∈ ns) (hle : ∀ y ∈ ns, y ≤ m) (q : Q (.int m) H) : rMax K [.ref p] H Q :=
  ⟨p, ns, rfl, h, List.length_pos_of_mem hm, fun m2 hm2 hle2 => by
    have e : m2 = m := Int.le_antisymm (hle m2 hm2) (hle2 m hm)
    rw [e]
    exact q⟩
/-! x in a list of ints -/
theorem inV_int {x : Int} : ∀ ns : List Int, inV (.int x) (ns.map V.int) = decide (x ∈ ns)
  | [] => rfl
  | n :: ns => by
    show (eqV (.int n) (.int x) || inV (.int x) (ns.map V.int)) = _
    rw [inV_int ns]
    have e : eqV (.int n) (.int x) = decide (n = x) := by
      first | rfl | (unfold eqV; simp) | simp [eqV]
    rw [e]
    by_cases h : x = n
    · subst h; simp
    · have h2 : ¬ n = x := fun z => h z.symm
      simp [h, h2]
theorem flat_ints (ns : List Int) : (ns.map V.int).all flatV = true := by
  rw [List.all_eq_true]
  intro v hv
  obtain ⟨n, _, rfl⟩ := List.mem_map.mp hv
  rfl
theorem rd_inI {p : Addr} {x : Int} {ns : List Int} (h : SqL K H p (ns.map V.int)) (q : Q (.bl (decide (x ∈ ns))) H) : rIn K false (.int x) (.ref p) H Q := ⟨p, _, rfl, .inl h, rfl, flat_ints ns, by rw [if_neg Bool.false_ne_true, inV_int]; exact q⟩
theorem rd_notInI {p : Addr} {x : Int} {ns : List Int} (h : SqL K H p (ns.map V.int)) (q : Q (.bl (!decide (x ∈ ns))) H) : rIn K true (.int x) (.ref p) H Q := ⟨p, _, rfl, .inl h, rfl, flat_ints ns, by rw [if_pos rfl, inV_int]; exact q⟩
theorem rd_chain {r r' : R2} {ta tb tc : TE} (h : ta σ H fun x H1 => tb σ H1 fun y H2 => r x y H2 fun z H3 => ∃ k, z = .bl k ∧ (if k = true then tc σ H3 fun w' H4 => r' y w' H4 Q else Q (.bl false) H3)) : tChain r r' ta tb tc σ H Q := h
theorem rd_g2 {T : Addr} {u v : V} {i j : Nat} {R : St → Hp → Prop} (h : SqT K H T [u, v]) (q : R ((σ.set i (some u)).set j (some v)) H) : gTup K 2 (gCons (gName i) (gCons (gName j) gNil)) (.ref T) σ H R :=
  ⟨T, _, rfl, h, rfl, _, _, rfl, _, _, rfl, rfl, q⟩
theorem at_int {hs : List Int} {i : Int} (h0 : 0 ≤ i) (h : i < (hs.length : Int)) : atI (hs.map V.int) i = some (.int (hs.getD i.toNat 0)) := by
  refine at_of h0 ?_
  have h2 : i.toNat < hs.length := by omega
  rw [List.getElem?_map, List.getElem?_eq_getElem h2, List.getD_eq_getElem?_getD, List.getElem?_eq_getElem h2]
  rfl
theorem forT {α : Type} (ls : List α) (e : α → V) {p : Addr} {j : Nat} {tb : TS} {nx : St → Hp → Prop} {rt : VK} {bk ct : St → Hp → Prop} (Pv : Nat → St → Hp → Prop) (h0 : Pv 0 σ H) (hG : ∀ i σ H, i ≤ ls.length → Pv i σ H → SqT K H p (ls.map e))
    (hs : ∀ i y σ H, ls[i]? = some y → Pv i σ H → tb ⟨Pv (i + 1), rt, nx, Pv (i + 1)⟩ (σ.set j (some (e y))) H) (hd : ∀ σ H, Pv ls.length σ H → nx σ H) : ForG (Itt K p) (gName j) tb ⟨nx, rt, bk, ct⟩ σ H := by
  have w := walk_tup (K := K) (a := p) (xs := ls.map e)
  rw [List.length_map] at w
  refine for_map ls e w (fun i H x H' hi y => ⟨y.1, ?_⟩) Pv h0 hG hs hd
  have h2 := y.2
  rw [List.getElem?_map] at h2
  cases h3 : ls[i]? with
  | none => rw [h3] at h2; cases h2
  | some z =>
    rw [h3] at h2
    exact ⟨z, rfl, (Option.some.inj h2).symm⟩
end
theorem ix_listK {X : Cx} (K : PySem.W.Frag) (hK : X.K = K) : IxR X (rIxL K) := by subst hK; exact ix_list
theorem ix_tupK {X : Cx} (K : PySem.W.Frag) (hK : X.K = K) : IxR X (rIxT K) := by subst hK; exact ix_tup
end My
/-! zip of a text and a list. -/
namespace My
open PySem PySem.Spec L2 SX
open PyProof.Rows hiding St
/-- the signs of a text and the items of the list at b, in new pairs -/
def ItzSL (K : PySem.W.Frag) (x : Str) (b : Addr) : It where
  go := fun i H => ∃ ys, SqL K H b ys ∧ i < min x.cps.size ys.length
  yld := fun i H v H' => ∃ T c d, v = .ref T ∧ H T = none ∧ H' = upd H T (.tup [.str ⟨#[c]⟩, d]) ∧ x.cps[i]? = some c ∧ ∀ ys, SqL K H b ys → ys[i]? = some d
  stop := fun i H => ∃ ys, SqL K H b ys ∧ i = min x.cps.size ys.length
theorem turn_zipSL {P : Program} {w : World} {K : PySem.W.Frag} {elts : List Expr} {kk : Nat} {tpos : Pos} {z TI TO i1 i2 b : Addr} {x : Str} {t : Tok} (D : ZipSep2 z TI TO i1 i2 [i1] [i2, b]) (hb2 : b ≠ i2) :
    Turn P w K (.Tuple elts kk tpos) (ItzSL K x b) [z, TI, TO, i1, i2] z (fun i h => IsZip h z TI TO .none ∧ IsTupOf2 h TI (.ref i1) (.ref i2) ∧ (∃ p q, IsTupOf2 h TO p q) ∧ h.IsStrIter i1 (strIterType x) x t i ∧ h.IsListIter i2 b i) := by
  have five : ∀ {c : Addr} {G : Addr → Prop}, c ∈ [z, TI, TO, i1, i2] → G z → G TI → G TO → G i1 → G i2 → G c := fun {c G} hc a1 a2 a3 a4 a5 => by
    rcases List.mem_cons.mp hc with q | hc
    · rw [q]; exact a1
    rcases List.mem_cons.mp hc with q | hc
    · rw [q]; exact a2
    rcases List.mem_cons.mp hc with q | hc
    · rw [q]; exact a3
    rcases List.mem_cons.mp hc with q | hc
    · rw [q]; exact a4
    · rw [List.mem_singleton.mp hc]; exact a5
  refine { mem := by simp, obj := ?_, keep := ?_, item := ?_, done := ?_, self := fun A i s Q E st h => wpAny_pyIter_zip st.1 h }
  · rintro i h ⟨hz, hTI, ⟨p, q, hTO⟩, ⟨o1, e1, _, d1⟩, ⟨o2, e2, _, d2⟩⟩ c hc
    refine five (G := fun c => ∃ o, h.get? c = some o ∧ ∀ v, o.data ≠ .cell v) hc ⟨_, hz, fun v q => (nomatch q)⟩ ⟨_, hTI, fun v q => (nomatch q)⟩ ⟨_, hTO, fun v q => (nomatch q)⟩ ⟨o1, e1, fun v q => ?_⟩ ⟨o2, e2, fun v q => ?_⟩
    · rw [d1] at q; cases q
    · rw [d2] at q; cases q
  · rintro i h h' ⟨hz, hTI, ⟨p, q, hTO⟩, ⟨o1, e1, r1⟩, h2⟩ k
    exact ⟨k z (by simp) _ hz, k TI (by simp) _ hTI, ⟨p, q, k TO (by simp) _ hTO⟩, ⟨o1, k i1 (by simp) _ e1, r1⟩, h2.at fun o e => k i2 (by simp) o e⟩
  · intro X hP hw hK hc i pins s σ H E I hf st hg
    subst hP hw hK
    obtain ⟨hz, hTI, ⟨p0, q0, hTO⟩, h1, h2⟩ := st
    obtain ⟨ys, hq, hlt⟩ := hg
    obtain ⟨its, rv, pl, _⟩ := I.list hq
    have len := rv.length
    have hzl : z < s.heap.objs.size := Heap.lt_size hz
    have D1 := Draws.text (prog := X.prog) (w := X.w) (A := X.A.in1) (I.ok.hd hc) i1 x t
    have D2 := Draws.list (prog := X.prog) (w := X.w) (A := X.A.in1) (I.ok.hd hc) i2 b hb2 its.toArray
    refine wpAny_pyNext_zipD2_item (i := i) D D1 D2 hz hTI hTO h1 ⟨h2, pl.isList⟩ (by omega) (by rw [List.size_toArray]; omega) fun v1 v2 h' tk p1 p2 z' TO' h1' h2' hT hsz hk => ?_
    obtain ⟨c, t1, hc1, rfl⟩ := p1
    have p3 : its[i]? = some v2 := by simpa using p2
    have hil : i < ys.length := by omega
    obtain ⟨u, hu, ru⟩ := rv.get (List.getElem?_eq_getElem hil)
    rw [p3] at hu
    cases hu
    refine ⟨_, rfl, wpAny_letOwnedTupleGo_zip (s := { s with heap := h', toks := tk }) z' fun h'' z'' sb => ?_⟩
    have hT2 : h''.get? s.heap.objs.size = some { cls := .type "tuple", data := .seq #[.str ⟨#[c]⟩ t1, v2] } := (sb.2 _ (Nat.ne_of_gt hzl)).trans hT
    have new : ObjOk X.prog X.w (upd H s.heap.objs.size (.tup [.str ⟨#[c]⟩, ys[i]])) h'' s.heap.objs.size (.tup [.str ⟨#[c]⟩, ys[i]]) :=
      ⟨by show 2 ≤ sizeLine; decide, [.str ⟨#[c]⟩ t1, v2], .cons ⟨t1, rfl⟩ (.cons ru .nil), ⟨_, hT2, rfl, _, rfl⟩⟩
    have old : ∀ c o, c ∉ [z, TI, TO, i1, i2] → s.heap.get? c = some o → h''.get? c = some o := fun c o hb q => by
      simp only [List.mem_cons, List.not_mem_nil, or_false, not_or] at hb
      obtain ⟨b1, b2, b3, b4, b5⟩ := hb
      exact (sb.2 c b1).trans (hk c o b1 b3 b4 b5 q)
    have I1 : Inv X pins σ (upd H s.heap.objs.size (.tup [.str ⟨#[c]⟩, ys[i]])) { s with heap := h'', toks := tk } := I.turnedNew (t' := tk) (ch := [z, TI, TO, i1, i2]) old hf (Nat.le_refl _) new
    refine ⟨.ref s.heap.objs.size, _, I1, rfl, ⟨_, c, ys[i], rfl, I.hok.fresh (Nat.le_refl _), rfl, hc1, fun l hl => by rw [I.list_inj hl hq]; exact List.getElem?_eq_getElem hil⟩, ⟨z'', ?_, ⟨.str ⟨#[c]⟩ t1, v2, ?_⟩, ?_, ?_⟩, fun b hbm => ?_⟩
    · exact (sb.2 _ D.TIz).trans (hk _ _ D.TIz D.TITO D.TIi1 D.TIi2 hTI)
    · exact (sb.2 _ D.TOz).trans TO'
    · obtain ⟨o, e, r⟩ := h1'
      exact ⟨o, (sb.2 _ (Ne.symm D.zi1)).trans e, r⟩
    · exact h2'.1.at fun o e => (sb.2 _ (Ne.symm D.zi2)).trans e
    · have lt : b < s.heap.objs.size := by
        obtain ⟨o1, e1, _⟩ := h1
        obtain ⟨o2, e2, _⟩ := h2
        exact five (G := fun c => c < s.heap.objs.size) hbm hzl (Heap.lt_size hTI) (Heap.lt_size hTO) (Heap.lt_size e1) (Heap.lt_size e2)
      rw [upd_ne (Nat.ne_of_lt lt)]
      exact (hf b hbm).1
  · intro X hP hw hK hc i pins s σ H E I hf st hg
    subst hP hw hK
    obtain ⟨hz, hTI, ⟨p0, q0, hTO⟩, h1, h2⟩ := st
    obtain ⟨ys, hq, hend⟩ := hg
    obtain ⟨its, rv, pl, _⟩ := I.list hq
    have len := rv.length
    have D1 := Draws.text (prog := X.prog) (w := X.w) (A := X.A.in1) (I.ok.hd hc) i1 x t
    have D2 := Draws.list (prog := X.prog) (w := X.w) (A := X.A.in1) (I.ok.hd hc) i2 b hb2 its.toArray
    have sz2 : its.toArray.size = ys.length := by rw [List.size_toArray]; omega
    refine wpAny_pyNext_zipD2_end (i := i) D D1 D2 hz hTI hTO h1 ⟨h2, pl.isList⟩ (by omega) (by omega) (by omega) fun h' tk hk => ⟨rfl, I.turnedL (t' := tk) (ch := [z, TI, TO, i1, i2]) (fun c o hb q => ?_) hf⟩
    simp only [List.mem_cons, List.not_mem_nil, or_false, not_or] at hb
    obtain ⟨b1, b2, b3, b4, b5⟩ := hb
    exact hk c o b1 b3 b4 b5 q
def iZipSL (K : PySem.W.Frag) (ta : TA) : TI := fun σ H R => ta σ H fun vs H1 => ∃ x b ys, vs = [.str x, .ref b] ∧ SqL K H1 b ys ∧ R (ItzSL K x b) H1
theorem pi_zipSL {X : Cx} {e e2 : Expr} {ta : TA} {p pos tpos : Pos} {elts : List Expr} {kk : Nat} (hg : Gl X "zip") (hm : X.mg "zip" = none) (ha : PA X [e, e2] ta)
    (ns : starEach [e, e2] X.env = (false, eval e X.env) :: starEach [e2] X.env := by rfl) (np : (backTo pos (starEach [e2] X.env)).any (·.1) = false := by rfl) : PI X (.Tuple elts kk tpos) (.Call (.Name "zip" p) [e, e2] [] pos) (iZipSL X.K ta) := by
  refine ⟨fun pins s σ H R I h => Call_ (ld_blt I hg hm PyProof.Rows.boot_zip (PyProof.Rows.callWith_type1 (thn (ha.run pos pins s σ H _ I h) fun us s1 ⟨vs, H1, I1, r1, q1⟩ => ?_) ns np))⟩
  obtain ⟨x, b, ys, ex, hq, q⟩ := q1
  subst ex
  cases r1 with
  | cons r rr =>
    cases rr with
    | cons r' rr =>
      cases rr
      obtain ⟨t, rfl⟩ := r
      cases r'
      obtain ⟨its, rv, pl, _⟩ := I1.list hq
      have hb : b < s1.heap.objs.size := pl.lt
      have big : ∀ c, c ∈ [s1.heap.objs.size + 4, s1.heap.objs.size + 2, s1.heap.objs.size + 3, s1.heap.objs.size, s1.heap.objs.size + 1] → s1.heap.objs.size ≤ c := fun c hc => by
        simp only [List.mem_cons, List.not_mem_nil, or_false] at hc
        rcases hc with z | z | z | z | z <;> rw [z] <;> first | exact Nat.le_add_right _ _ | exact Nat.le_refl _
      refine zip_begins2 (begins_text x t) (begins_list b its.toArray) trivial pl.isList fun h' hz hTI hTO h1 h2 hsz hk => wpAny_pyIter_zip hz ?_
      have I2 : Inv X pins σ H1 { s1 with heap := h' } := I1.kept (t' := s1.toks) hk
      refine ⟨s1.heap.objs.size + 4, [s1.heap.objs.size + 4, s1.heap.objs.size + 2, s1.heap.objs.size + 3, s1.heap.objs.size, s1.heap.objs.size + 1], _, _, H1, rfl, I2, turn_zipSL (t := t) ?_ ?_, ⟨hz, hTI, ⟨_, _, hTO⟩, ⟨_, h1, rfl, rfl⟩, ⟨_, h2, rfl, rfl⟩⟩, fun c hc => I1.fpOk (big c hc) (I1.hok.fresh (big c hc)), q⟩
      · have nb : ∀ k, s1.heap.objs.size + k ≠ b := fun k e => by
          have : b < s1.heap.objs.size := hb
          rw [← e] at this
          exact absurd this (Nat.not_lt_of_le (Nat.le_add_right _ _))
        have nb0 : s1.heap.objs.size ≠ b := nb 0
        constructor <;> first | omega | (simp; done) | (simp [nb, nb0]; done) | (simp only [List.mem_cons, List.not_mem_nil, or_false, not_or]; exact ⟨by omega, nb _⟩) | (simp only [List.mem_cons, List.not_mem_nil, or_false, not_or]; exact ⟨by omega, nb0⟩)
      · intro e
        exact absurd hb (by rw [e]; exact Nat.not_lt_of_le (Nat.le_add_right _ _))
section
variable {σ : St} {H : Hp} {ta : TA} {R : It → Hp → Prop} {K : PySem.W.Frag}
def qZipSL (K : PySem.W.Frag) (vs : List V) (H1 : Hp) (R : It → Hp → Prop) : Prop := ∃ x b ys, vs = [.str x, .ref b] ∧ SqL K H1 b ys ∧ R (ItzSL K x b) H1
theorem rd_iZipSL (h : ta σ H fun vs H1 => qZipSL K vs H1 R) : iZipSL K ta σ H R := h
theorem rd_zipSL {l : List Nat} {b : Addr} {ys : List V} (h : SqL K H b ys) (q : R (ItzSL K (S l) b) H) : qZipSL K [.str (S l), .ref b] H R := ⟨S l, b, ys, rfl, h, q⟩
theorem walk_zipSL {l : List Nat} {b : Addr} {ys : List V} (hl : ys.length ≤ l.length) : Walk (ItzSL K (S l) b) ys.length (fun H => SqL K H b ys) (YPair (fun i => l[i]?.map fun c => V.str (S [c])) (fun i => ys[i]?)) := by
  have e1 : (S l).cps.size = l.length := by simp
  refine ⟨fun i H hi h => ⟨ys, h, by omega⟩, fun H h => ⟨ys, h, by omega⟩, fun i H v H' _ hq y => ?_⟩
  obtain ⟨T, c, d, h1, h2, h3, h4, h5⟩ := y
  refine ⟨T, .str ⟨#[c]⟩, d, h1, h2, h3, ?_, h5 ys hq⟩
  have : l[i]? = some c := by simpa using h4
  dsimp only
  rw [this]
  rfl
end
end My
/-! enumerate of a tuple; dict(zip(a list, a range)) with tuples as keys. -/
namespace My
open PySem PySem.Spec L2 SX
open PyProof.Rows hiding St
theorem enT_new {v : Value} {o : Obj} {G : Heap → Prop} (B : Begins v o G) : Meets (Builtin.«enumerate.__new__» ⟨[.type "enumerate", v], []⟩) (fun _ R s => G s.heap ∧
    R (.ok (.ret (.ref (s.heap.push o).objs.size))) { s with heap := (s.heap.push o).push { cls := .type "enumerate", data := .fields #[.none, .bool false, .ref s.heap.objs.size, rawInt 0, .none, .none] } }) :=
  .of_wp fun prog w A R s hh => by
    obtain ⟨hp, ge, dr, tk, os⟩ := s
    obtain ⟨h1, h2⟩ := hh
    have hsub := sub_enumerate
    have it : ∀ {A' : Around} {E Q : Value → Shared → Prop}, Q (.ref hp.objs.size) ⟨hp.push o, ge, dr, tk, os⟩ → wpAny (model prog w) A' (pyIter v) Q E ⟨hp, ge, dr, tk, os⟩ := fun q => B.iter prog w _ _ ⟨hp, ge, dr, tk, os⟩ _ h1 q
    wp_walk using it
    refine wpAny_stack_any fun st => wpAny_pure ?_
    split
    · rename_i c _ _ _ _ _
      cases (c == Value.type "enumerate")
      · wp_walk using it
        exact ⟨_, rfl, h2⟩
      · wp_walk using it
        exact ⟨_, rfl, h2⟩
    · wp_walk using it
      exact ⟨_, rfl, h2⟩
section
variable {prog : Program} {w : World} {A : Around} {E : Value → Shared → Prop} {s : Shared}
theorem enT_begins {v : Value} {o : Obj} {G : Heap → Prop} {Q : Value → Shared → Prop} (B : Begins v o G) (h1 : G s.heap)
    (h : ∀ h', IsEnum h' (s.heap.objs.size + 1) s.heap.objs.size 0 .none → h'.get? s.heap.objs.size = some o → h'.objs.size = s.heap.objs.size + 2 → (∀ b u, s.heap.get? b = some u → h'.get? b = some u) → Q (.ref (s.heap.objs.size + 1)) { s with heap := h' }) :
    wpAny (model prog w) A (call (.type "enumerate") [v]) Q E s := by
  refine callType_new F.called_enumerate (by decide) (F.typeCall_enumerate_1 _) (F.newCall_enumerate_1 _) (fun obj => F.args_object_init_2 obj _) F.entry_enumerate_new (enT_new B) ⟨h1, ?_⟩
  have sz : (s.heap.push o).objs.size = s.heap.objs.size + 1 := Heap.size_push ..
  show _ ∧ _
  rw [sz]
  have e1 : ((s.heap.push o).push { cls := .type "enumerate", data := .fields #[.none, .bool false, .ref s.heap.objs.size, rawInt 0, .none, .none] }).get? (s.heap.objs.size + 1) = some { cls := .type "enumerate", data := .fields #[.none, .bool false, .ref s.heap.objs.size, rawInt 0, .none, .none] } := by
    have := Heap.get?_push_size (s.heap.push o) (o := { cls := .type "enumerate", data := .fields #[.none, .bool false, .ref s.heap.objs.size, rawInt 0, .none, .none] }) rfl
    rwa [sz] at this
  exact ⟨⟨_, e1, rfl⟩, h _ e1 (Heap.get?_push_of_some _ (Heap.get?_push_size _ B.free)) (by rw [Heap.size_push, sz]) fun b u x => Heap.get?_push_of_some _ (Heap.get?_push_of_some _ x)⟩
end
/-- the items of the tuple at a, numbered, in new pairs -/
def IteT (K : PySem.W.Frag) (a : Addr) : It where
  go := fun i H => ∃ ys, SqT K H a ys ∧ i < ys.length
  yld := fun i H v H' => ∃ T x, v = .ref T ∧ H T = none ∧ H' = upd H T (.tup [.int (i : Nat), x]) ∧ ∀ ys, SqT K H a ys → ys[i]? = some x
  stop := fun i H => ∃ ys, SqT K H a ys ∧ i = ys.length
theorem tup_inj {X : Cx} {pins : List (Addr × Obj)} {σ : L2.St} {H : Hp} {s : Shared} {a : Addr} {xs ys : List V} (I : Inv X pins σ H s) (h1 : SqT X.K H a xs) (h2 : SqT X.K H a ys) : xs = ys := by
  exact I.tuple_inj h1 h2
theorem turn_enT {P : Program} {w : World} {K : PySem.W.Frag} {elts : List Expr} {kk : Nat} {tpos : Pos} (a e it : Addr) (hae : a ≠ it) :
    Turn P w K (.Tuple elts kk tpos) (IteT K a) [e, it] e (fun i h => (∃ old, IsEnum h e it ((i : Nat) : Int) old) ∧ h.IsTupleIter it a i ∧ e ≠ it ∧ e ≠ a) := by
  have two : ∀ {b : Addr} {G : Addr → Prop}, b ∈ [e, it] → G e → G it → G b := fun {b G} hb g1 g2 => by
    rcases List.mem_cons.mp hb with z | z
    · rw [z]; exact g1
    · rw [List.mem_singleton.mp z]; exact g2
  refine { mem := by simp, obj := ?_, keep := ?_, item := ?_, done := ?_, self := fun A i s Q E st h => let ⟨⟨_, he⟩, _⟩ := st; wpAny_pyIter_enum he h }
  · rintro i h ⟨⟨old, he⟩, ⟨o, ho, hc, hd⟩, _⟩ b hb
    refine two (G := fun b => ∃ o, h.get? b = some o ∧ ∀ v, o.data ≠ .cell v) hb ⟨_, he, fun v q => (nomatch q)⟩ ⟨o, ho, fun v q => ?_⟩
    rw [hd] at q; cases q
  · rintro i h h' ⟨⟨old, he⟩, hi, hne⟩ k
    exact ⟨⟨old, k e (by simp) _ he⟩, hi.at fun o q => k it (by simp) o q, hne⟩
  · intro X hP hw hK hc i pins s σ H E I hf st hg
    subst hP hw hK
    obtain ⟨⟨old, he⟩, hit, hne, hea⟩ := st
    obtain ⟨ys, hq, hlt⟩ := hg
    obtain ⟨its, rv, pl, hz⟩ := I.tuple hq
    have len := rv.length
    have hel : e < s.heap.objs.size := Heap.lt_size he
    have hil : it < s.heap.objs.size := by obtain ⟨_, q, _⟩ := hit; exact Heap.lt_size q
    have D := Draws.tuple (prog := X.prog) (w := X.w) (A := X.A.in1) (I.ok.hd hc) it a hae its.toArray
    refine wpAny_pyNext_enum_itemD (n := its.toArray.size) D he ⟨hit, pl⟩ (by rw [List.size_toArray]; omega) hne (by simp only [List.mem_cons, List.not_mem_nil, or_false, not_or]; exact ⟨hne, hea⟩) fun u h' tk hu ho hit' hT hsz hk => ?_
    obtain ⟨w1, hw1, rw1⟩ := rv.get (List.getElem?_eq_getElem hlt)
    have hu2 : its[i]? = some u := by simpa using hu
    rw [hw1] at hu2
    cases hu2
    refine ⟨_, rfl, wpAny_letOwnedTupleGo_enum (s := { s with heap := h', toks := tk + 1 }) ho fun h'' he' sb => ?_⟩
    have hT2 : h''.get? s.heap.objs.size = some { cls := .type "tuple", data := .seq #[.int i tk, u] } := (sb.2 _ (Nat.ne_of_gt hel)).trans hT
    have new : ObjOk X.prog X.w (upd H s.heap.objs.size (.tup [.int (i : Nat), ys[i]])) h'' s.heap.objs.size (.tup [.int (i : Nat), ys[i]]) :=
      ⟨by show 2 ≤ sizeLine; decide, [.int i tk, u], .cons ⟨_, rfl⟩ (.cons rw1 .nil), ⟨_, hT2, rfl, _, rfl⟩⟩
    have I1 : Inv X pins σ (upd H s.heap.objs.size (.tup [.int (i : Nat), ys[i]])) { s with heap := h'', toks := tk + 1 } := by
      refine I.turnedNew (t' := tk + 1) (ch := [e, it]) (fun b ob hb q => ?_) hf (Nat.le_refl _) new
      simp only [List.mem_cons, List.not_mem_nil, or_false, not_or] at hb
      exact (sb.2 b hb.1).trans (hk b ob hb.1 hb.2 q)
    refine ⟨.ref s.heap.objs.size, _, I1, rfl, ⟨_, ys[i], rfl, I.hok.fresh (Nat.le_refl _), rfl, fun zs hz2 => by rw [tup_inj I hz2 hq]; exact List.getElem?_eq_getElem hlt⟩, ⟨⟨u, ?_⟩, hit'.1.at fun o q => (sb.2 it (Ne.symm hne)).trans q, hne, hea⟩, fun b hb => ?_⟩
    · have e1 : ((i + 1 : Nat) : Int) = (i : Int) + 1 := by omega
      rw [e1]; exact he'
    · have hb' : b < s.heap.objs.size := two (G := fun b => b < s.heap.objs.size) hb hel hil
      rw [upd_ne (Nat.ne_of_lt hb')]
      exact (hf b hb).1
  · intro X hP hw hK hc i pins s σ H E I hf st hg
    subst hP hw hK
    obtain ⟨⟨old, he⟩, hit, hne, hea⟩ := st
    obtain ⟨ys, hq, hend⟩ := hg
    obtain ⟨its, rv, pl, hz⟩ := I.tuple hq
    have len := rv.length
    have ei : its.toArray.size = i := by rw [List.size_toArray]; omega
    have D := Draws.tuple (prog := X.prog) (w := X.w) (A := X.A.in1) (I.ok.hd hc) it a hae its.toArray
    refine wpAny_pyNext_enum_endD (n := its.toArray.size) D he (by rw [ei]; exact ⟨hit, pl⟩) fun h' eb => ⟨rfl, I.turnedL (t' := s.toks) (ch := [e, it]) (fun b o hb q => eb b o ?_ q) hf⟩
    simp only [List.mem_cons, List.not_mem_nil, or_false, not_or] at hb
    exact hb.2
def iEnT (K : PySem.W.Frag) (ta : TA) : TI := fun σ H R => ta σ H fun vs H1 => ∃ a ys, vs = [.ref a] ∧ SqT K H1 a ys ∧ R (IteT K a) H1
theorem pi_enT {X : Cx} {e : Expr} {ta : TA} {p pos tpos : Pos} {elts : List Expr} {kk : Nat} (hg : Gl X "enumerate") (hm : X.mg "enumerate" = none) (ha : PA X [e] ta) (hs : starEach [e] X.env = [(false, eval e X.env)] := by rfl) :
    PI X (.Tuple elts kk tpos) (.Call (.Name "enumerate" p) [e] [] pos) (iEnT X.K ta) := by
  refine ⟨fun pins s σ H R I h => Call_ (ld_blt I hg hm boot_enumerate (PyProof.Rows.callWith_type1 (thn (ha.run pos pins s σ H _ I h) fun us s1 ⟨vs, H1, I1, r1, q1⟩ => ?_) hs rfl))⟩
  obtain ⟨a, ys, ex, hq, q⟩ := q1
  subst ex
  obtain rfl := Vals.ref1 r1
  obtain ⟨its, rv, pl, hz⟩ := I1.tuple hq
  have hal : a < s1.heap.objs.size := by obtain ⟨o, e, _⟩ := pl; exact Heap.lt_size e
  refine enT_begins (begins_tuple a its.toArray) pl fun h' he hit hsz hk => wpAny_pyIter_enum he ?_
  have I2 : Inv X pins σ H1 { s1 with heap := h' } := I1.kept (t' := s1.toks) hk
  have nb : ∀ k, s1.heap.objs.size + k ≠ a := fun k z => by
    rw [← z] at hal
    exact absurd hal (Nat.not_lt_of_le (Nat.le_add_right _ _))
  refine ⟨s1.heap.objs.size + 1, [s1.heap.objs.size + 1, s1.heap.objs.size], _, _, H1, rfl, I2, turn_enT a (s1.heap.objs.size + 1) s1.heap.objs.size (Ne.symm (nb 0)), ⟨⟨.none, he⟩, ⟨_, hit, rfl, rfl⟩, Nat.succ_ne_self _, nb 1⟩, fun b hb => ?_, q⟩
  have hle : s1.heap.objs.size ≤ b := by
    rcases List.mem_cons.mp hb with z | z
    · rw [z]; exact Nat.le_add_right _ _
    · rw [List.mem_singleton.mp z]; exact Nat.le_refl _
  exact I1.fpOk hle (I1.hok.fresh hle)
section
variable {σ : St} {H : Hp} {ta : TA} {R : It → Hp → Prop} {K : PySem.W.Frag}
def qEnT (K : PySem.W.Frag) (vs : List V) (H1 : Hp) (R : It → Hp → Prop) : Prop := ∃ a ys, vs = [.ref a] ∧ SqT K H1 a ys ∧ R (IteT K a) H1
theorem rd_iEnT (h : ta σ H fun vs H1 => qEnT K vs H1 R) : iEnT K ta σ H R := h
theorem rd_enT {a : Addr} {ys : List V} (h : SqT K H a ys) (q : R (IteT K a) H) : qEnT K [.ref a] H R := ⟨a, ys, rfl, h, q⟩
def qEnL (K : PySem.W.Frag) (vs : List V) (H1 : Hp) (R : It → Hp → Prop) : Prop := ∃ a ys, vs = [.ref a] ∧ SqL K H1 a ys ∧ R (Ite K a) H1
theorem rd_iEnL (h : ta σ H fun vs H1 => qEnL K vs H1 R) : iEnum K ta σ H R := h
theorem rd_enL {a : Addr} {ys : List V} (h : SqL K H a ys) (q : R (Ite K a) H) : qEnL K [.ref a] H R := ⟨a, ys, rfl, h, q⟩
theorem walk_enT {a : Addr} {ys : List V} : Walk (IteT K a) ys.length (fun H => SqT K H a ys) (YPair (fun i => some (.int (i : Nat))) (fun i => ys[i]?)) := by
  refine ⟨fun i H hi q => ⟨ys, q, hi⟩, fun H q => ⟨ys, q, rfl⟩, fun i H v H' _ q y => ?_⟩
  obtain ⟨T, x, h1, h2, h3, h4⟩ := y
  exact ⟨T, .int (i : Nat), x, h1, h2, h3, rfl, h4 ys q⟩
end
end My
/-! dict(zip(a list of tuples, range(n))). -/
namespace My
open PySem PySem.Spec L2 SX
open PyProof.Rows hiding St
section
variable {prog : Program} {w : World} {A : Around} {E : Value → Shared → Prop} {s : Shared}
theorem next_rg {it : Addr} {x left : Int} {Q : Value → Shared → Prop} (hit : IsRangeIter s.heap it x left 1) (hleft : 0 < left)
    (hQ : ∀ h', IsRangeIter h' it (x + 1) (left - 1) 1 → Heap.SameBut it s.heap h' → Q (.int x s.toks) { s with heap := h', toks := s.toks + 1 }) : wpAny (model prog w) A (Builtin.SmallTypes.nextOf (.ref it)) Q E s := by
  have hT : s.TypeIs (.ref it) "range_iterator" := ⟨_, hit, rfl⟩
  unfold Builtin.SmallTypes.nextOf
  refine wpAny_bind (wpAny_callSpecial?_slot (name := Str.ofString "__next__") hT F.slot_range_iterator_next
    (call_meets F.slot_range_iterator_next hT F.entry_range_iterator_next (F.args_range_iterator_next_1 _) (AutoRange.range_iterator___next___range_iterator_1 it x left 1 (by omega)) ⟨hit, ?_⟩))
  exact wpAny_pure (hQ _ (Heap.get?_update_self _ (Heap.get?_update_self _ hit rfl) rfl) ((Heap.SameBut.update ..).trans (Heap.SameBut.update ..)))
theorem end_rg {it : Addr} {x left : Int} {Q : Value → Shared → Prop} (hh : A.handled = none) (hit : IsRangeIter s.heap it x left 1) (hleft : left ≤ 0)
    (hE : ∀ h' e, Heap.ExtBut it s.heap h' → (∃ o, h'.get? e = some o ∧ o.cls = .type "StopIteration") → E (.ref e) { s with heap := h' }) : wpAny (model prog w) A (Builtin.SmallTypes.nextOf (.ref it)) Q E s := by
  have hT : s.TypeIs (.ref it) "range_iterator" := ⟨_, hit, rfl⟩
  unfold Builtin.SmallTypes.nextOf
  refine wpAny_bind (wpAny_callSpecial?_slot (name := Str.ofString "__next__") hT F.slot_range_iterator_next
    (wpAny_call_entry F.slot_range_iterator_next hT F.entry_range_iterator_next ?_ (F.args_range_iterator_next_1 _)))
  show wpAny _ _ (field (.ref it) 0 >>= _) _ _ s
  refine wpAny_bind (wpAny_field hit rfl (x := rawInt x) rfl ?_)
  show wpAny _ _ (field (.ref it) 1 >>= _) _ _ s
  refine wpAny_bind (wpAny_field hit rfl (x := rawInt left) rfl ?_)
  show wpAny _ _ (field (.ref it) 2 >>= _) _ _ s
  refine wpAny_bind (wpAny_field hit rfl (x := rawInt 1) rfl ?_)
  show wpAny _ _ (if left ≤ 0 then _ else _) _ _ s
  rw [if_pos hleft]
  refine wpAny_bind (wpAny_rule ?_)
  refine wpAny_bind ?_
  show wpAny _ _ (newExc (.type "StopIteration") [] >>= _) _ _ _
  refine wpAny_bind ?_
  simp only [newExc, newTuple]
  refine wpAny_bind (wpAny_newObj_type ?_ (by size_fits))
  refine wpAny_bind (m := firstArgMember _ _) (wpAny_of_eq (a := Value.none) (by first | rfl | (simp only [firstArgMember]; rfl)) ?_)
  refine wpAny_newObj_type ?_ (by size_fits)
  simp only [raiseNew]
  refine wpAny_bind (wpAny_handled ?_)
  first | rw [show A.in1.handled = none from hh] | rw [hh]
  refine wpAny_bind (wpAny_pure (wpAny_throw ?_))
  exact hE _ _ (((Heap.ExtBut.refl it s.heap).push _).push _) ⟨_, Heap.get?_push_size _ rfl, rfl⟩
theorem draws_rg (hh : A.handled = none) (it : Addr) (n : Nat) : Draws prog w A it [it] n (fun i v => ∃ t, v = .int (i : Nat) t) (fun i h => IsRangeIter h it (i : Nat) ((n : Int) - (i : Nat)) 1) where
  live := fun _ _ st => ⟨_, st⟩
  frame := fun _ _ _ st hk => hk it (by simp) _ st
  item := fun i s Q E hi st hQ => by
    refine next_rg st (by omega) fun h' a b => ?_
    refine hQ _ h' _ ⟨_, rfl⟩ ?_ b
    rw [show ((i + 1 : Nat) : Int) = (i : Nat) + 1 by omega, show (n : Int) - ((i : Nat) + 1) = (n : Int) - (i : Nat) - 1 by omega]
    exact a
  done := fun s Q E st hE => end_rg hh st (by omega) hE
theorem begins_rg (r : Addr) (n : Nat) (t u v : Tok) (hn : n ≤ 100000) : Begins (.ref r) { cls := .type "range_iterator", data := .fields #[rawInt 0, rawInt (n : Nat), rawInt 1] } fun h => IsRange h r 0 n 1 t u v where
  iter := fun prog w A E s Q hl h => by
    refine wpAny_pyIter_range hl (small_one (by omega) (by omega) (by omega) (by omega)) ?_
    rw [rangeSize_nat 0 n, show (((n : Int) - 0).toNat) = n by omega]
    exact h
  keeps := fun h h' x hk => hk _ _ x
  free := rfl
variable {z TI TO T i1 i2 : Addr} {fp1 fp2 : List Addr} {n1 n2 i : Nat} {P1 P2 : Nat → Value → Prop} {St1 St2 : Nat → Heap → Prop} {f : Bool} {oT : Obj}
theorem zipH_item {Q : Value → Shared → Prop} (S : ZipSep2 z TI TO i1 i2 fp1 fp2) (D1 : Draws prog w A i1 fp1 n1 P1 St1) (D2 : Draws prog w A i2 fp2 n2 P2 St2) (hz : IsZipHeld s.heap z TI TO T f) (hT : s.heap.get? T = some oT) (hTI : IsTupOf2 s.heap TI (.ref i1) (.ref i2))
    (st1 : St1 i s.heap) (st2 : St2 i s.heap) (l1 : i < n1) (l2 : i < n2)
    (hQ : ∀ x1 x2 h' tk, P1 i x1 → P2 i x2 → IsZipHeld h' z TI TO T true → St1 (i + 1) h' → St2 (i + 1) h' → IsTupOf2 h' s.heap.objs.size x1 x2 → h'.objs.size = s.heap.objs.size + 1 → (∀ c o, c ≠ z → c ≠ i1 → c ≠ i2 → s.heap.get? c = some o → h'.get? c = some o) →
      Q (.ref s.heap.objs.size) { s with heap := h', toks := tk }) :
    wpAny (model prog w) A (Builtin.«zip.__next__» ⟨[.ref z], []⟩) (fun fin s' => ∃ v, fin = .done (.ret v) ∧ Q v s') E s := by
  obtain ⟨hp, g, d, tk0, os⟩ := s
  show wpAny _ _ (field (.ref z) 2 >>= _) _ _ _
  refine wpAny_bind (wpAny_field hz rfl (x := .bool false) rfl ?_)
  show wpAny _ _ (field (.ref z) 3 >>= _) _ _ _
  refine wpAny_bind (wpAny_field hz rfl (x := .ref TI) rfl ?_)
  refine wpAny_bind (wpAny_seqItems hTI rfl ?_)
  show wpAny _ _ (Builtin.SmallTypes.ownedTupleIsFree (.ref z) >>= _) _ _ _
  refine wpAny_bind (wpAny_tupleHeld_zip hz hT fun g0 hz0 hs0 => ?_)
  replace hs0 : Heap.SameBut z hp g0 := hs0
  simp only [Bool.false_eq_true, if_false]
  refine wpAny_bind ?_
  rw [← Array.forIn_toList]
  simp only [List.forIn_cons, List.forIn_nil]
  refine wpAny_bind (wpAny_bind (wpAny_holding ?_))
  show wpAny _ _ (Builtin.SmallTypes.nextOf (.ref i1) >>= _) _ _ ⟨g0, g, d, tk0, os⟩
  refine wpAny_bind (D1.item i _ _ _ l1 (D1.over st1 hs0 S.zf1) fun x1 p1 tk1 hx1 sn1 hp1 => wpAny_pure ?_)
  replace hp1 : Heap.SameBut i1 g0 p1 := hp1
  refine wpAny_pure ?_
  refine wpAny_bind (wpAny_bind (wpAny_holding ?_))
  show wpAny _ _ (Builtin.SmallTypes.nextOf (.ref i2) >>= _) _ _ ⟨p1, g, d, tk1, os⟩
  refine wpAny_bind (D2.item i _ _ _ l2 (D2.over (D2.over st2 hs0 S.zf2) hp1 S.sep1_2) fun x2 p2 tk2 hx2 sn2 hp2 => wpAny_pure ?_)
  replace hp2 : Heap.SameBut i2 p1 p2 := hp2
  refine wpAny_pure (wpAny_pure ?_)
  show wpAny _ _ (newTuple [x1, x2] >>= _) _ _ _
  refine wpAny_bind (wpAny_newTuple ?_)
  have hsz : p2.objs.size = hp.objs.size := by rw [hp2.1, hp1.1, hs0.1]
  have hz2 : IsZipHeld p2 z TI TO T true := hp2.extBut _ _ S.zi2 (hp1.extBut _ _ S.zi1 hz0)
  have hk : ∀ c o, c ≠ z → c ≠ i1 → c ≠ i2 → hp.get? c = some o → p2.get? c = some o := fun c o c1 c2 c3 e => hp2.extBut _ _ c3 (hp1.extBut _ _ c2 (hs0.extBut _ _ c1 e))
  have up : ∀ c o, p2.get? c = some o → (p2.push { cls := .type "tuple", data := .seq #[x1, x2] }).get? c = some o := fun c o e => Heap.get?_push_of_some _ e
  have q1 : St1 (i + 1) p2 := D1.over sn1 hp2 S.sep2_1
  have hp3 : IsTupOf2 (p2.push { cls := .type "tuple", data := .seq #[x1, x2] }) p2.objs.size x1 x2 := Heap.get?_push_size _ rfl
  have hz4 : (p2.push { cls := .type "tuple", data := .seq #[x1, x2] }).objs.size = p2.objs.size + 1 := Heap.size_push ..
  refine wpAny_pure ⟨_, rfl, ?_⟩
  show Q (.ref p2.objs.size) _
  rw [hsz] at hp3 hz4 ⊢
  exact hQ x1 x2 _ tk2 hx1 hx2 (up _ _ hz2) (D1.frame _ _ _ q1 fun b hb o e => up b o e) (D2.frame _ _ _ sn2 fun b hb o e => up b o e) hp3 hz4 fun c o c1 c2 c3 e => up c o (hk c o c1 c2 c3 e)
theorem zipH_end {Q : Fin → Shared → Prop} (S : ZipSep2 z TI TO i1 i2 fp1 fp2) (D1 : Draws prog w A i1 fp1 n1 P1 St1) (hz : IsZipHeld s.heap z TI TO T f) (hT : s.heap.get? T = some oT) (hTI : IsTupOf2 s.heap TI (.ref i1) (.ref i2))
    (st1 : St1 n1 s.heap) (hE : ∀ h' tk e, (∀ c o, c ≠ z → c ≠ i1 → s.heap.get? c = some o → h'.get? c = some o) → (∃ o, h'.get? e = some o ∧ o.cls = .type "StopIteration") → E (.ref e) { s with heap := h', toks := tk }) :
    wpAny (model prog w) A (Builtin.«zip.__next__» ⟨[.ref z], []⟩) Q E s := by
  obtain ⟨hp, g, d, tk0, os⟩ := s
  show wpAny _ _ (field (.ref z) 2 >>= _) _ _ _
  refine wpAny_bind (wpAny_field hz rfl (x := .bool false) rfl ?_)
  show wpAny _ _ (field (.ref z) 3 >>= _) _ _ _
  refine wpAny_bind (wpAny_field hz rfl (x := .ref TI) rfl ?_)
  refine wpAny_bind (wpAny_seqItems hTI rfl ?_)
  show wpAny _ _ (Builtin.SmallTypes.ownedTupleIsFree (.ref z) >>= _) _ _ _
  refine wpAny_bind (wpAny_tupleHeld_zip hz hT fun g0 hz0 hs0 => ?_)
  replace hs0 : Heap.SameBut z hp g0 := hs0
  simp only [Bool.false_eq_true, if_false]
  refine wpAny_bind ?_
  rw [← Array.forIn_toList]
  simp only [List.forIn_cons, List.forIn_nil]
  refine wpAny_bind (wpAny_bind (wpAny_holding ?_))
  show wpAny _ _ (Builtin.SmallTypes.nextOf (.ref i1) >>= _) _ _ ⟨g0, g, d, tk0, os⟩
  refine wpAny_bind (D1.done ⟨g0, g, d, tk0, os⟩ _ _ (D1.over st1 hs0 S.zf1) fun q e hq he => ?_)
  replace hq : Heap.ExtBut i1 g0 q := hq
  exact hE q tk0 e (fun c o c1 c2 x => hq _ _ c2 (hs0.extBut _ _ c1 x)) he
end
section
variable {prog : Program} {w : World}
/-- dict's argument: zip of two things that are told by what they draw, of one length -/
theorem arg_zipD {z TI TO i1 i2 : Addr} {fp1 fp2 : List Addr} {n : Nat} {P1 P2 : Nat → Value → Prop} {St1 St2 : Nat → Heap → Prop} (S : ZipSep2 z TI TO i1 i2 fp1 fp2) (D1 : ∀ A : Around, A.handled = none → Draws prog w A i1 fp1 n P1 St1) (D2 : ∀ A : Around, A.handled = none → Draws prog w A i2 fp2 n P2 St2)
    (th : ∀ h, St1 0 h → St2 0 h → ∀ b, b ∈ fp1 ∨ b ∈ fp2 → ∃ o, h.get? b = some o) :
    PairArg prog w "zip" z (z :: TI :: TO :: (fp1 ++ fp2)) [z, TO, i1, i2] n (fun i k v => P1 i k ∧ P2 i v)
      (fun h => IsZip h z TI TO .none ∧ IsTupOf2 h TI (.ref i1) (.ref i2) ∧ (∃ a b, IsTupOf2 h TO a b) ∧ St1 0 h ∧ St2 0 h) where
  type := fun s ok => ⟨_, ok.1, rfl⟩
  notDict := by decide
  keep := fun h h' ⟨hz, hTI, ⟨a, b, hTO⟩, h1, h2⟩ hk => by
    have A0 : callerA.handled = none := rfl
    exact ⟨hk _ _ hz, hk _ _ hTI, ⟨a, b, hk _ _ hTO⟩, (D1 callerA A0).frame _ _ _ h1 fun b _ o e => hk b o e, (D2 callerA A0).frame _ _ _ h2 fun b _ o e => hk b o e⟩
  there := fun h ⟨hz, hTI, ⟨a, c, hTO⟩, h1, h2⟩ b hb => by
    rcases List.mem_cons.mp hb with e | hb
    · rw [e]; exact ⟨_, hz⟩
    rcases List.mem_cons.mp hb with e | hb
    · rw [e]; exact ⟨_, hTI⟩
    rcases List.mem_cons.mp hb with e | hb
    · rw [e]; exact ⟨_, hTO⟩
    · exact th h h1 h2 b (List.mem_append.mp hb)
  sub := fun b hb => by
    simp only [List.mem_cons, List.not_mem_nil, or_false] at hb
    rcases hb with e | e | e | e
    · rw [e]; exact List.mem_cons_self
    · rw [e]; simp
    · rw [e]; exact List.mem_cons_of_mem _ (List.mem_cons_of_mem _ (List.mem_cons_of_mem _ (List.mem_append_left _ S.mem1)))
    · rw [e]; exact List.mem_cons_of_mem _ (List.mem_cons_of_mem _ (List.mem_cons_of_mem _ (List.mem_append_right _ S.mem2)))
  noKeys := fun A s Q E hA ok h => getAttrOr_miss_zip ok.1 rfl rfl rfl zip_no_keys (by decide +kernel) hA h
  iter := fun A s d Q E hA ⟨hz, hTI, ⟨a, b, hTO⟩, h1, h2⟩ hd hdf h => by
    have dz : d ≠ z := fun e => hdf (by rw [e]; exact List.mem_cons_self)
    have dTI : d ≠ TI := fun e => hdf (by rw [e]; simp)
    have dTO : d ≠ TO := fun e => hdf (by rw [e]; simp)
    have d1 : d ∉ fp1 := fun e => hdf (List.mem_cons_of_mem _ (List.mem_cons_of_mem _ (List.mem_cons_of_mem _ (List.mem_append_left _ e))))
    have d2 : d ∉ fp2 := fun e => hdf (List.mem_cons_of_mem _ (List.mem_cons_of_mem _ (List.mem_cons_of_mem _ (List.mem_append_right _ e))))
    have di1 : d ≠ i1 := fun e => d1 (by rw [e]; exact S.mem1)
    have di2 : d ≠ i2 := fun e => d2 (by rw [e]; exact S.mem2)
    refine wpAny_pyIter_zip hz (h z [z, TO, i1, i2] (fun i h => IsTupOf2 h TI (.ref i1) (.ref i2) ∧ St1 i h ∧ St2 i h ∧ ((IsZip h z TI TO .none ∧ ∃ a b, IsTupOf2 h TO a b) ∨ ∃ T f oT, IsZipHeld h z TI TO T f ∧ h.get? T = some oT ∧ T ≠ z ∧ T ≠ i1 ∧ T ≠ i2 ∧ T ≠ d)) s.heap s.toks ?_
      ⟨hTI, h1, h2, .inl ⟨hz, a, b, hTO⟩⟩ (fun _ _ e => e) fun b hb => .inl hb)
    have E1 := D1 A.in1 hA
    have E2 := D2 A.in1 hA
    refine { off := fun hm => ?_, frame := fun i h₁ h₂ st hk => ?_, item := fun i s₁ Q₁ E₁ hi st hds hQ => ?_, done := fun s₁ Q₁ E₁ st hQ => ?_ }
    · simp only [List.mem_cons, List.not_mem_nil, or_false] at hm
      rcases hm with e | e | e | e
      · exact dz e
      · exact dTO e
      · exact di1 e
      · exact di2 e
    · obtain ⟨hTI, h1, h2, hz⟩ := st
      refine ⟨hk _ _ (Ne.symm dTI) hTI, E1.frame _ _ _ h1 fun b hb o e => hk b o (fun q => d1 (q ▸ hb)) e, E2.frame _ _ _ h2 fun b hb o e => hk b o (fun q => d2 (q ▸ hb)) e, ?_⟩
      rcases hz with ⟨hz, a, b, hTO⟩ | ⟨T, f, oT, hz, hT, r1, r2, r3, r4⟩
      · exact .inl ⟨hk _ _ (Ne.symm dz) hz, a, b, hk _ _ (Ne.symm dTO) hTO⟩
      · exact .inr ⟨T, f, oT, hk _ _ (Ne.symm dz) hz, hk _ _ r4 hT, r1, r2, r3, r4⟩
    · obtain ⟨hTI, h1, h2, hz⟩ := st
      have lt : ∀ {c o}, s₁.heap.get? c = some o → s₁.heap.objs.size ≠ c := fun e => Nat.ne_of_gt (Heap.lt_size e)
      have m1 : s₁.heap.objs.size ≠ i1 := let ⟨_, e⟩ := E1.live _ _ h1; lt e
      have m2 : s₁.heap.objs.size ≠ i2 := let ⟨_, e⟩ := E2.live _ _ h2; lt e
      rcases hz with ⟨hz, a, b, hTO⟩ | ⟨T, f, oT, hz, hT, r1, r2, r3, r4⟩
      · refine wpAny_pyNext_zipD2_item S E1 E2 hz hTI hTO h1 h2 hi hi fun x1 x2 h' tk y1 y2 b1 b2 e1 e2 b5 b6 hk => ?_
        exact hQ s₁.heap.objs.size _ _ h' tk ⟨y1, y2⟩ (.inl ⟨_, b5, rfl, _, rfl⟩)
          ⟨hk _ _ S.TIz S.TITO S.TIi1 S.TIi2 hTI, e1, e2, .inr ⟨s₁.heap.objs.size, false, _, b1, b5, lt hz, m1, m2, Nat.ne_of_gt hds⟩⟩
          fun c o hc e => by
            simp only [List.mem_cons, List.not_mem_nil, or_false, not_or] at hc
            exact hk c o hc.1 hc.2.1 hc.2.2.1 hc.2.2.2 e
      · have hTy : s₁.TypeIs (.ref z) "zip" := ⟨_, hz, rfl⟩
        unfold pyNext
        refine wpAny_bind (wpAny_attempt (wpAny_callSpecial?_slot (name := Str.ofString "__next__") hTy F.slot_zip_next (wpAny_call_entry F.slot_zip_next hTy F.entry_zip_next
          (zipH_item S E1 E2 hz hT hTI h1 h2 hi hi fun x1 x2 h' tk y1 y2 b1 e1 e2 b5 b6 hk => wpAny_pure ?_) (F.args_zip_next_1 _))))
        exact hQ s₁.heap.objs.size _ _ h' tk ⟨y1, y2⟩ (.inl ⟨_, b5, rfl, _, rfl⟩)
          ⟨hk _ _ S.TIz S.TIi1 S.TIi2 hTI, e1, e2, .inr ⟨T, true, oT, b1, hk _ _ r1 r2 r3 hT, r1, r2, r3, r4⟩⟩
          fun c o hc e => by
            simp only [List.mem_cons, List.not_mem_nil, or_false, not_or] at hc
            exact hk c o hc.1 hc.2.2.1 hc.2.2.2 e
    · obtain ⟨hTI, h1, h2, hz⟩ := st
      rcases hz with ⟨hz, a, b, hTO⟩ | ⟨T, f, oT, hz, hT, r1, r2, r3, r4⟩
      · refine wpAny_pyNext_zipD2_end S E1 E2 hz hTI hTO h1 h2 (Nat.le_refl _) (Nat.le_refl _) (.inl rfl) fun h' tk hk => hQ h' tk fun c o hc e => ?_
        simp only [List.mem_cons, List.not_mem_nil, or_false, not_or] at hc
        exact hk c o hc.1 hc.2.1 hc.2.2.1 hc.2.2.2 e
      · have hTy : s₁.TypeIs (.ref z) "zip" := ⟨_, hz, rfl⟩
        unfold pyNext
        refine wpAny_bind (wpAny_attempt (wpAny_callSpecial?_slot (name := Str.ofString "__next__") hTy F.slot_zip_next
          (wpAny_call_entry F.slot_zip_next hTy F.entry_zip_next (zipH_end S E1 hz hT hTI h1 fun h' tk e hk he => ?_) (F.args_zip_next_1 _))))
        obtain ⟨o, ho, hc⟩ := he
        refine wpAny_bind (wpAny_isInstance (T := "StopIteration") (b := true) ⟨o, ho, hc⟩ isSubtype_stop ?_)
        refine wpAny_pure (hQ _ _ fun c o hc e => ?_)
        simp only [List.mem_cons, List.not_mem_nil, or_false, not_or] at hc
        exact hk c o hc.1 hc.2.2.1 e
end
end My
/-! The rule for dict(zip(xs, range(n))), xs a list of tuples. -/
namespace My
open PySem PySem.Spec L2 SX
open PyProof.Rows hiding St
/-- the tuples at the addresses, told by their items -/
def KeysAt (H : Hp) (ka : List (List Key × Addr)) : Prop := ∀ p ∈ ka, H p.2 = some (.tup (p.1.map kV))
/-- numbered keys -/
def numK (n : Nat) (ks : List (List Key)) : List (List Key × V) := (ks.zipIdx n).map fun p => (p.1, V.int ((p.2 : Nat) : Int))
theorem numK_len (n : Nat) (ks : List (List Key)) : (numK n ks).length = ks.length := by unfold numK; simp
/-- what stands in the dict so far -/
def Filled (ka : List (List Key × Addr)) (i : Nat) (ps : List (List Key × Addr × Value)) : Prop := ps.length = i ∧ ∀ (j : Nat) (p : List Key × Addr), j < i → ka[j]? = some p → ∃ t, ps[j]? = some (p.1, p.2, Value.int ((j : Nat) : Int) t)
theorem Filled.keys {ka : List (List Key × Addr)} {i : Nat} {ps : List (List Key × Addr × Value)} (f : Filled ka i ps) (hi : i ≤ ka.length) : ps.map (·.1) = (ka.take i).map (·.1) := by
  refine List.ext_getElem? fun j => ?_
  rw [List.getElem?_map, List.getElem?_map]
  by_cases hj : j < i
  · have h1 : j < ka.length := by omega
    obtain ⟨t, e⟩ := f.2 j _ hj (List.getElem?_eq_getElem h1)
    rw [e, List.getElem?_take_of_lt hj, List.getElem?_eq_getElem h1]; rfl
  · rw [List.getElem?_eq_none (by rw [f.1]; omega), List.getElem?_eq_none (by rw [List.length_take]; omega)]; rfl
theorem paired_num {H : Hp} : ∀ (n : Nat) (ka : List (List Key × Addr)) (ps : List (List Key × Addr × Value)), KeysAt H ka → ps.length = ka.length → (∀ (j : Nat) (p : List Key × Addr), ka[j]? = some p → ∃ t, ps[j]? = some (p.1, p.2, Value.int ((n + j : Nat) : Int) t)) →
    Paired (fun (p : List Key × V) (q : List Key × Addr × Value) => p.1 = q.1 ∧ H q.2.1 = some (.tup (p.1.map kV)) ∧ RelV p.2 q.2.2) (numK n (ka.map (·.1))) ps
  | _, [], [], _, _, _ => .nil
  | _, [], _ :: _, _, h, _ => by cases h
  | _, _ :: _, [], _, h, _ => by cases h
  | n, a :: ka, p :: ps, hk, hl, h => by
    obtain ⟨t, e⟩ := h 0 a rfl
    have e2 : p = (a.1, a.2, .int ((n : Nat) : Int) t) := Option.some.inj e
    have ih := paired_num (n + 1) ka ps (fun q hq => hk q (List.mem_cons_of_mem _ hq)) (by simpa using hl) fun j q hq => by
      have := h (j + 1) q hq
      rwa [show n + (j + 1) = n + 1 + j by omega] at this
    subst e2
    exact .cons ⟨rfl, hk a List.mem_cons_self, ⟨_, rfl⟩⟩ ih
def tDictZR (K : PySem.W.Frag) (te : TE) (tr : St → Hp → (Int → Int → Hp → Prop) → Prop) : TE := fun σ H Q => te σ H fun x H1 => ∃ a, x = .ref a ∧ tr σ H1 fun lo hi H2 => lo = 0 ∧ ∃ ka : List (List Key × Addr), SqL K H2 a (ka.map fun p => V.ref p.2) ∧ hi = ((ka.length : Nat) : Int) ∧ ka.length ≤ 100000 ∧ KeysAt H2 ka ∧ (ka.map (·.1)).Nodup ∧
  ∀ p, H2 p = none → Q (.ref p) (upd H2 p (.dT (numK 0 (ka.map (·.1)))))
section
variable {X : Cx} {e e2 : Expr} {te : TE} {tr : St → Hp → (Int → Int → Hp → Prop) → Prop} {p1 p2 pos1 pos2 : Pos}
theorem pe_dictZR (hc : X.calm = true) (hu : X.A.units + 65 < cLine) (hgd : Gl X "dict") (hmd : X.mg "dict" = none) (hgz : Gl X "zip") (hmz : X.mg "zip" = none) (he : PE X e te) (hr : PRg X e2 tr)
    (n1 : starEach [.Call (.Name "zip" p2) [e, e2] [] pos2] X.env = (false, eval (.Call (.Name "zip" p2) [e, e2] [] pos2) X.env) :: starEach [] X.env := by rfl)
    (n2 : starEach [e, e2] X.env = (false, eval e X.env) :: starEach [e2] X.env := by rfl) (n3 : starEach [e2] X.env = (false, eval e2 X.env) :: starEach [] X.env := by rfl) (np : (backTo pos2 (starEach [e2] X.env)).any (·.1) = false := by rfl) :
    PE X (.Call (.Name "dict" p1) [.Call (.Name "zip" p2) [e, e2] [] pos2] [] pos1) (tDictZR X.K te tr) := by
  refine ⟨fun pins s σ H Q I h => ?_⟩
  refine Call_ (ld_blt I hgd hmd boot_dict (PyProof.Rows.callWith_type1 (args_cons (Call_ (ld_blt I hgz hmz boot_zip (PyProof.Rows.callWith_type1 (args_cons (thn (he.run pins s σ H _ I h) fun v s1 ⟨x, H1, I1, r1, q1⟩ => ?_) n2) n2 np))) n1) n1))
  obtain ⟨a, rfl, q1⟩ := q1
  obtain rfl : v = Value.ref a := r1
  refine args_cons (thn (hr pins s1 σ H1 _ I1 q1) fun v2 s2 ⟨r, lo, hi, t, u, w0, H2, ev, hrg, I2, elo, ka, hs, ehi, hl, hk, hn, q⟩ => args_nil ?_) n3
  subst ev
  subst elo
  subst ehi
  obtain ⟨its, rv, pl, hz⟩ := I2.list hs
  have hlen : its.length = ka.length := by rw [← rv.length, List.length_map]
  have hal : a < s2.heap.objs.size := pl.lt
  have hrl : r < s2.heap.objs.size := Heap.lt_size hrg
  refine zip_begins2 (begins_list a its.toArray) (begins_rg r ka.length t u w0 hl) pl.isList hrg fun h' g1 g2 g3 g4 g5 g6 g7 => args_nil ?_
  have nb : ∀ k, s2.heap.objs.size + k ≠ a := fun k z => by
    rw [← z] at hal
    exact absurd hal (Nat.not_lt_of_le (Nat.le_add_right _ _))
  have nb0 : s2.heap.objs.size ≠ a := nb 0
  have S : ZipSep2 (s2.heap.objs.size + 4) (s2.heap.objs.size + 2) (s2.heap.objs.size + 3) s2.heap.objs.size (s2.heap.objs.size + 1) [s2.heap.objs.size, a] [s2.heap.objs.size + 1] := by
    refine zip_sep2 (fp1 := [a]) (fp2 := []) (fun b hb => ?_) (fun b hb => nomatch hb)
    rw [List.mem_singleton.mp hb]; exact hal
  have P := arg_zipD (prog := X.prog) (w := X.w) (n := ka.length) S (fun A hA => by
      have := Draws.list (prog := X.prog) (w := X.w) hA s2.heap.objs.size a (Ne.symm nb0) its.toArray
      have ez : its.toArray.size = ka.length := by simp [hlen]
      rw [ez] at this
      exact this) (fun A hA => draws_rg hA (s2.heap.objs.size + 1) ka.length) (fun h0 st1 st2 b hb => by
      rcases hb with hb | hb
      · rcases List.mem_cons.mp hb with z | z
        · rw [z]; obtain ⟨⟨o, e, _⟩, _⟩ := st1; exact ⟨o, e⟩
        · rw [List.mem_singleton.mp z]; obtain ⟨_, ⟨o, e, _⟩⟩ := st1; exact ⟨o, e⟩
      · rw [List.mem_singleton.mp hb]; exact ⟨_, st2⟩)
  have ok : IsZip h' (s2.heap.objs.size + 4) (s2.heap.objs.size + 2) (s2.heap.objs.size + 3) .none ∧ IsTupOf2 h' (s2.heap.objs.size + 2) (.ref s2.heap.objs.size) (.ref (s2.heap.objs.size + 1)) ∧ (∃ b c, IsTupOf2 h' (s2.heap.objs.size + 3) b c) ∧
      (h'.IsListIter s2.heap.objs.size a 0 ∧ h'.IsList a its.toArray) ∧ IsRangeIter h' (s2.heap.objs.size + 1) ((0 : Nat) : Int) ((ka.length : Int) - ((0 : Nat) : Int)) 1 := by
    refine ⟨g1, g2, ⟨_, _, g3⟩, ⟨⟨_, g4, rfl, rfl⟩, pl.isList.at fun o e => g7 _ _ e⟩, ?_⟩
    rw [show ((ka.length : Int) - ((0 : Nat) : Int)) = (ka.length : Nat) by omega]
    exact g5
  have hh : X.A.handled = none := I2.ok.hd hc
  have I3 : Inv X pins σ H2 { s2 with heap := h' } := I2.kept (t' := s2.toks) g7
  refine call_dict_arg P ok fun s₃ hs₃ hdf ok₃ => ?_
  subst hs₃
  have up : ∀ b o, s2.heap.get? b = some o → (h'.push { cls := .type "dict", data := .dict #[] }).get? b = some o := fun b o e => Heap.get?_push_of_some _ (g7 b o e)
  have hlt2 : ∀ b o, s2.heap.get? b = some o → b ≠ h'.objs.size ∧ b ∉ [s2.heap.objs.size + 4, s2.heap.objs.size + 3, s2.heap.objs.size, s2.heap.objs.size + 1] := fun b o e => by
    have h1 : b < s2.heap.objs.size := Heap.lt_size e
    refine ⟨fun z => ?_, fun z => ?_⟩
    · rw [z, g6] at h1
      exact absurd h1 (Nat.not_lt_of_le (Nat.le_add_right _ _))
    · simp only [List.mem_cons, List.not_mem_nil, or_false] at z
      rcases z with z | z | z | z
      · rw [z] at h1; exact absurd h1 (Nat.not_lt_of_le (Nat.le_add_right _ _))
      · rw [z] at h1; exact absurd h1 (Nat.not_lt_of_le (Nat.le_add_right _ _))
      · rw [z] at h1; exact absurd h1 (Nat.lt_irrefl _)
      · rw [z] at h1; exact absurd h1 (Nat.not_lt_of_le (Nat.le_add_right _ _))
  refine updateFrom_arg (A := X.A.in1) (Tab := fun i h => (∀ b o, s2.heap.get? b = some o → h.get? b = some o) ∧ i ≤ ka.length ∧ ∃ ps, Filled ka i ps ∧ h.DictOfH (tupleKind (mixKind X.prog X.w)) h'.objs.size ps) P .none hh ok₃ hdf
    ⟨up, Nat.zero_le _, [], ⟨rfl, fun j p hj => absurd hj (Nat.not_lt_zero _)⟩, Heap.DictOfH.new h'⟩ (fun i h0 tb => let ⟨_, _, ps, _, dd⟩ := tb; dd.lt_size) ?_ ?_ ?_
  · rintro i h1 h2 wr' hd hw ⟨k1, hle, ps, f, dd⟩ hkp
    have k2 : ∀ b o, s2.heap.get? b = some o → h2.get? b = some o := fun b o e => hkp b o (fun hm => by
      rcases hw b hm with z | z
      · exact (hlt2 b o e).2 z
      · have := up b o e
        have z' : (h'.push { cls := .type "dict", data := .dict #[] }).get? b = none := z
        rw [z'] at this; cases this) (k1 b o e)
    have ok2 := I2.hok.kept k2
    refine ⟨k2, hle, ps, f, dd.at' (fun o e => hkp _ o hd e) fun y hy => ?_⟩
    obtain ⟨j, hj⟩ := List.mem_iff_getElem?.mp hy
    have hj2 : j < i := by rw [← f.1]; exact (List.getElem?_eq_some_iff.mp hj).1
    have hja : j < ka.length := by omega
    obtain ⟨tt, e⟩ := f.2 j _ hj2 (List.getElem?_eq_getElem hja)
    rw [hj] at e
    cases e
    exact key_of ok2 (hk _ (List.getElem_mem hja))
  · rintro i key v s' Q' E' hi ⟨hk1, hk2⟩ ⟨k1, hle, ps, f, dd⟩ _ hQ
    obtain ⟨tt, rfl⟩ := hk2
    have hik : its[i]? = some key := by simpa using hk1
    obtain ⟨w1, hw1, rw1⟩ := rv.get (i := i) (x := .ref (ka[i]).2) (by rw [List.getElem?_map, List.getElem?_eq_getElem hi]; rfl)
    rw [hik] at hw1
    cases hw1
    obtain rfl : key = Value.ref (ka[i]).2 := rw1
    have ok2 := I2.hok.kept k1
    have hnew : atKey ps (ka[i]).1 = none := by
      unfold atKey
      rw [Option.map_eq_none_iff, List.find?_eq_none]
      intro y hy
      have hkeys := f.keys (Nat.le_of_lt hi)
      have h2 : y.1 ∈ (ka.take i).map (·.1) := by rw [← hkeys]; exact List.mem_map.mpr ⟨y, hy, rfl⟩
      have h3 : (ka.map (·.1)) = (ka.take i).map (·.1) ++ (ka.drop i).map (·.1) := by rw [← List.map_append, List.take_append_drop]
      rw [h3, List.nodup_append] at hn
      have h4 : (ka[i]).1 ∈ (ka.drop i).map (·.1) := List.mem_map.mpr ⟨ka[i], by rw [List.drop_eq_getElem_cons hi]; exact List.mem_cons_self, rfl⟩
      have h5 := hn.2.2 _ h2 _ h4
      simpa using h5
    have hpl : ps.length ≤ sizeLine := by rw [f.1]; exact Nat.le_of_lt (Nat.lt_of_lt_of_le hi (sz hl))
    refine wpAny_dictSet_heap (hsz := hpl) (tupleKind_room_in1 (by show X.A.units + 1 + 1 < cLine; omega)) (key_of ok2 (hk _ (List.getElem_mem hi))) dd fun h2 dd2 sb => ?_
    refine hQ h2 _ ⟨fun b o e => sb.extBut b o (hlt2 b o e).1 (k1 b o e), hi, _, ?_, dd2⟩ sb
    rw [storedH_new hnew]
    refine ⟨by rw [List.length_append, f.1]; rfl, fun j p hj hp => ?_⟩
    by_cases hji : j < i
    · obtain ⟨t5, e5⟩ := f.2 j p hji hp
      exact ⟨t5, by rw [List.getElem?_append_left (by rw [f.1]; exact hji)]; exact e5⟩
    · have ej : j = i := by omega
      subst ej
      rw [List.getElem?_eq_getElem hi] at hp
      cases hp
      exact ⟨tt, by rw [List.getElem?_append_right (by rw [f.1]; exact Nat.le_refl _), f.1]; simp⟩
  · rintro h2 tk ⟨k1, hle, ps, f, dd⟩ hkp
    have hq := q h'.objs.size (I2.hok.fresh (by rw [g6]; exact Nat.le_add_right _ _))
    refine ⟨rfl, ?_⟩
    obtain ⟨o, es, ep, e1, e2, e3, e4, e5, e6⟩ := dd
    have hfr : H2 h'.objs.size = none := I2.hok.fresh (by rw [g6]; exact Nat.le_add_right _ _)
    refine ⟨.ref h'.objs.size, _, I2.laid (t' := tk) k1 (by rw [g6]; exact Nat.le_add_right _ _) ?_, rfl, hq⟩
    refine ⟨by rw [numK_len, List.length_map]; exact sz hl, ?_, ps, ?_, o, es, ep, e1, e2, e3, e4, e6⟩
    · have h8 := I3.big
      have h9 : h'.objs.size ≠ sysModules := Nat.ne_of_gt h8
      simpa using h9
    · refine paired_num 0 ka ps (fun p hp => ?_) f.1 fun j p hp => ?_
      · rw [upd_ne (ne_of_none (hk p hp) hfr)]; exact hk p hp
      · rw [Nat.zero_add]
        exact f.2 j p (List.getElem?_eq_some_iff.mp hp).1 hp
end
end My
/-! Tables of monoids, their trees, least words, rules. Plain. -/
namespace Mon
abbrev Tab := List (List Nat)
def at2 (T : Tab) (n l : Nat) : Nat := (T.getD n []).getD l 0
/-- where a word leads; its signs are codes of letters -/
def run (T : Tab) (n : Nat) (w : List Nat) : Nat := w.foldl (fun n c => at2 T n (c - 97)) n
theorem run_snoc (T : Tab) (n : Nat) (w : List Nat) (c : Nat) : run T n (w ++ [c]) = at2 T (run T n w) (c - 97) := by
  unfold run; rw [List.foldl_append]; rfl
/-- the pairs at which a new number comes -/
def trR (T : Tab) (n : Nat) : Nat → List (Nat × Nat) → List (Nat × Nat)
  | 0, a => a
  | j + 1, a => if at2 T n j = (trR T n j a).length then trR T n j a ++ [(n, j)] else trR T n j a
def trT (T : Tab) (m : Nat) : Nat → List (Nat × Nat)
  | 0 => [(0, 0)]
  | n + 1 => trR T n m (trT T m n)
/-- numbers come in order -/
def Ord (T : Tab) (m N : Nat) : Prop := ∀ n, n < N → n < (trT T m n).length ∧ ∀ j, j < m → at2 T n j ≤ (trR T n j (trT T m n)).length
/-- a list built along a tree -/
def along {α : Type} (x0 : α) (g : List α → Nat × Nat → α) (tr : List (Nat × Nat)) : List α := tr.tail.foldl (fun a p => a ++ [g a p]) [x0]

theorem rev_ind {α : Type} {P : List α → Prop} (h0 : P []) (hs : ∀ l p, P l → P (l ++ [p])) (l : List α) : P l := by
  have key : ∀ r : List α, P r.reverse := fun r => by
    induction r with
    | nil => exact h0
    | cons a r ih => rw [List.reverse_cons]; exact hs _ _ ih
  have := key l.reverse
  rwa [List.reverse_reverse] at this
/-! ### lists built along -/
section
variable {α : Type} {x0 : α} {g : List α → Nat × Nat → α}
theorem fold_len (l : List (Nat × Nat)) : ∀ a : List α, (l.foldl (fun a p => a ++ [g a p]) a).length = a.length + l.length := by
  induction l with
  | nil => intro a; rfl
  | cons p l ih => intro a; rw [List.foldl_cons, ih]; simp; omega
theorem fold_pre (l : List (Nat × Nat)) : ∀ a : List α, ∃ b, l.foldl (fun a p => a ++ [g a p]) a = a ++ b := by
  induction l with
  | nil => intro a; exact ⟨[], by simp⟩
  | cons p l ih =>
    intro a
    obtain ⟨b, h⟩ := ih (a ++ [g a p])
    exact ⟨g a p :: b, by rw [List.foldl_cons, h]; simp⟩
theorem along_len {tr : List (Nat × Nat)} (h : tr ≠ []) : (along x0 g tr).length = tr.length := by
  unfold along
  rw [fold_len]
  cases tr with
  | nil => exact absurd rfl h
  | cons p l => simp; omega
theorem along_snoc {tr : List (Nat × Nat)} (h : tr ≠ []) (p : Nat × Nat) : along x0 g (tr ++ [p]) = along x0 g tr ++ [g (along x0 g tr) p] := by
  unfold along
  cases tr with
  | nil => exact absurd rfl h
  | cons q l => simp [List.foldl_append]
/-- the k-th item by what stands ahead -/
theorem along_get {tr : List (Nat × Nat)} {k : Nat} (hk : 0 < k) (h : k < tr.length) (d : α) : (along x0 g tr).getD k d = g ((along x0 g tr).take k) (tr.getD k (0, 0)) := by
  revert k
  refine rev_ind (P := fun tr => ∀ {k : Nat}, 0 < k → k < tr.length → (along x0 g tr).getD k d = g ((along x0 g tr).take k) (tr.getD k (0, 0))) ?_ ?_ tr
  · intro k hk h; simp at h
  · intro l p ih k hk h
    by_cases hl : l = []
    · subst hl; simp at h; omega
    · rw [along_snoc hl]
      have ll := along_len (x0 := x0) (g := g) hl
      by_cases hk2 : k < l.length
      · have e1 : (along x0 g l ++ [g (along x0 g l) p]).getD k d = (along x0 g l).getD k d := by
          rw [List.getD_eq_getElem?_getD, List.getD_eq_getElem?_getD, List.getElem?_append_left (by omega)]
        have e2 : (l ++ [p]).getD k (0, 0) = l.getD k (0, 0) := by
          rw [List.getD_eq_getElem?_getD, List.getD_eq_getElem?_getD, List.getElem?_append_left (by omega)]
        rw [e1, e2, List.take_append_of_le_length (by omega)]
        exact ih hk hk2
      · have ek : k = l.length := by simp at h; omega
        subst ek
        have e1 : (along x0 g l ++ [g (along x0 g l) p]).getD l.length d = g (along x0 g l) p := by
          rw [List.getD_eq_getElem?_getD, List.getElem?_append_right (by omega), ll]; simp
        have e2 : (l ++ [p]).getD l.length (0, 0) = p := by
          rw [List.getD_eq_getElem?_getD, List.getElem?_append_right (by omega)]; simp
        rw [e1, e2, List.take_append_of_le_length (by omega), List.take_of_length_le (by omega)]
theorem along_zero {tr : List (Nat × Nat)} (d : α) : (along x0 g tr).getD 0 d = x0 := by
  unfold along
  obtain ⟨b, h⟩ := fold_pre (g := g) tr.tail [x0]
  rw [h]; rfl
end

/-! ### the tree -/
def lx (p q : Nat × Nat) : Prop := p.1 < q.1 ∨ (p.1 = q.1 ∧ p.2 < q.2)
theorem getD_left {α : Type} {a b : List α} {k : Nat} {d : α} (h : k < a.length) : (a ++ b).getD k d = a.getD k d := by
  rw [List.getD_eq_getElem?_getD, List.getD_eq_getElem?_getD, List.getElem?_append_left h]
theorem getD_at {α : Type} {a : List α} {x d : α} {k : Nat} (h : k = a.length) : (a ++ [x]).getD k d = x := by
  subst h; rw [List.getD_eq_getElem?_getD, List.getElem?_append_right (Nat.le_refl _)]; simp
structure TI (T : Tab) (m n j : Nat) (b : List (Nat × Nat)) : Prop where
  ne : 0 < b.length
  fst : ∀ k, 0 < k → k < b.length → (b.getD k (0, 0)).1 < k ∧ (b.getD k (0, 0)).2 < m ∧ at2 T (b.getD k (0, 0)).1 (b.getD k (0, 0)).2 = k ∧ lx (b.getD k (0, 0)) (n, j)
  inc : ∀ k k', 0 < k → k < k' → k' < b.length → lx (b.getD k (0, 0)) (b.getD k' (0, 0))
  seen : ∀ n' j', lx (n', j') (n, j) → j' < m → at2 T n' j' < b.length
  ear : ∀ n' j', lx (n', j') (n, j) → j' < m → 0 < at2 T n' j' → b.getD (at2 T n' j') (0, 0) = (n', j') ∨ lx (b.getD (at2 T n' j') (0, 0)) (n', j')
theorem lx_step {p : Nat × Nat} {n j : Nat} (h : lx p (n, j)) : lx p (n, j + 1) := by
  unfold lx at *; dsimp only at *; omega
theorem lx_split {n' j' n j : Nat} (h : lx (n', j') (n, j + 1)) : lx (n', j') (n, j) ∨ (n' = n ∧ j' = j) := by
  unfold lx at *; dsimp only at *; omega
theorem TI.zero {T : Tab} {m : Nat} : TI T m 0 0 [(0, 0)] :=
  ⟨by decide, fun k h1 h2 => by simp at h2; omega, fun k k' h1 h2 h3 => by simp at h3; omega, fun n' j' h => by unfold lx at h; dsimp only at h; omega, fun n' j' h => by unfold lx at h; dsimp only at h; omega⟩
theorem TI.step {T : Tab} {m n j : Nat} {b : List (Nat × Nat)} (t : TI T m n j b) (hj : j < m) (hn : n < b.length) (hv : at2 T n j ≤ b.length) : TI T m n (j + 1) (if at2 T n j = b.length then b ++ [(n, j)] else b) := by
  by_cases h : at2 T n j = b.length
  · rw [if_pos h]
    have hl : (b ++ [(n, j)]).length = b.length + 1 := by simp
    refine ⟨by omega, fun k h1 h2 => ?_, fun k k' h1 h2 h3 => ?_, fun n' j' hx hj' => ?_, fun n' j' hx hj' h0 => ?_⟩
    · by_cases hk : k < b.length
      · rw [getD_left hk]
        obtain ⟨a1, a2, a3, a4⟩ := t.fst k h1 hk
        exact ⟨a1, a2, a3, lx_step a4⟩
      · have hk : k = b.length := by omega
        rw [getD_at hk]
        exact ⟨by dsimp only; omega, hj, by dsimp only; omega, .inr ⟨rfl, Nat.lt_succ_self _⟩⟩
    · by_cases hk : k' < b.length
      · rw [getD_left hk, getD_left (by omega)]
        exact t.inc k k' h1 h2 hk
      · rw [getD_at (k := k') (by omega), getD_left (by omega)]
        exact (t.fst k h1 (by omega)).2.2.2
    · rcases lx_split hx with hx | ⟨rfl, rfl⟩
      · have := t.seen n' j' hx hj'; omega
      · omega
    · rcases lx_split hx with hx | ⟨rfl, rfl⟩
      · rw [getD_left (t.seen n' j' hx hj')]
        exact t.ear n' j' hx hj' h0
      · exact .inl (getD_at h)
  · rw [if_neg h]
    refine ⟨t.ne, fun k h1 h2 => ?_, t.inc, fun n' j' hx hj' => ?_, fun n' j' hx hj' h0 => ?_⟩
    · obtain ⟨a1, a2, a3, a4⟩ := t.fst k h1 h2
      exact ⟨a1, a2, a3, lx_step a4⟩
    · rcases lx_split hx with hx | ⟨rfl, rfl⟩
      · exact t.seen n' j' hx hj'
      · omega
    · rcases lx_split hx with hx | ⟨rfl, rfl⟩
      · exact t.ear n' j' hx hj' h0
      · have h2 := (t.fst (at2 T n' j') h0 (by omega)).2.2.2
        exact .inr h2
theorem TI.row {T : Tab} {m n : Nat} {b : List (Nat × Nat)} (t : TI T m n m b) : TI T m (n + 1) 0 b := by
  have up : ∀ {p : Nat × Nat}, lx p (n, m) → lx p (n + 1, 0) := fun {p} h => by unfold lx at *; dsimp only at *; omega
  have dn : ∀ {n' j' : Nat}, j' < m → lx (n', j') (n + 1, 0) → lx (n', j') (n, m) := fun {n' j'} hj h => by unfold lx at *; dsimp only at *; omega
  exact ⟨t.ne, fun k h1 h2 => let ⟨a1, a2, a3, a4⟩ := t.fst k h1 h2; ⟨a1, a2, a3, up a4⟩, t.inc, fun n' j' hx hj => t.seen n' j' (dn hj hx) hj, fun n' j' hx hj h0 => t.ear n' j' (dn hj hx) hj h0⟩
theorem trR_mono {T : Tab} {n : Nat} {a : List (Nat × Nat)} : ∀ j, a.length ≤ (trR T n j a).length
  | 0 => Nat.le_refl _
  | j + 1 => by
    have := trR_mono (T := T) (n := n) (a := a) j
    unfold trR
    split
    · simp; omega
    · exact this
theorem TI.rowj {T : Tab} {m n : Nat} {a : List (Nat × Nat)} (t : TI T m n 0 a) (hn : n < a.length) : ∀ j, j ≤ m → (∀ i, i < j → at2 T n i ≤ (trR T n i a).length) → TI T m n j (trR T n j a)
  | 0, _, _ => t
  | j + 1, h, hv => by
    have ih := TI.rowj t hn j (by omega) (fun i hi => hv i (by omega))
    exact ih.step (by omega) (Nat.lt_of_lt_of_le hn (trR_mono j)) (hv j (by omega))
theorem TI.all {T : Tab} {m N : Nat} (hO : Ord T m N) : ∀ n, n ≤ N → TI T m n 0 (trT T m n)
  | 0, _ => TI.zero
  | n + 1, h => by
    have o := hO n (by omega)
    exact ((TI.all hO n (by omega)).rowj o.1 m (Nat.le_refl _) o.2).row
/-- what a table must be -/
structure Good (T : Tab) (m N : Nat) : Prop where
  pos : 0 < N
  ord : Ord T m N
  lt : ∀ n l, n < N → l < m → at2 T n l < N
  row : ∀ n, n < N → (T.getD n []).length = m
def tree (T : Tab) (m N : Nat) : List (Nat × Nat) := trT T m N
section
variable {T : Tab} {m N : Nat}
theorem trR_le {n B : Nat} {a : List (Nat × Nat)} (ha : a.length ≤ B) : ∀ j, (∀ i, i < j → at2 T n i < B) → (trR T n j a).length ≤ B
  | 0, _ => ha
  | j + 1, h => by
    have ih := trR_le ha j (fun i hi => h i (by omega))
    have := h j (Nat.lt_succ_self _)
    unfold trR
    split
    · simp; omega
    · exact ih
theorem trT_le {B : Nat} (h1 : 1 ≤ B) : ∀ n, (∀ i l, i < n → l < m → at2 T i l < B) → (trT T m n).length ≤ B
  | 0, _ => h1
  | n + 1, h => trR_le (trT_le h1 n fun i l hi hl => h i l (by omega) hl) m fun i hi => h n i (Nat.lt_succ_self _) hi
theorem trT_mono {n : Nat} : (trT T m n).length ≤ (trT T m (n + 1)).length := trR_mono m
theorem Good.len (g : Good T m N) : (tree T m N).length = N := by
  have h1 : (tree T m N).length ≤ N := trT_le g.pos N g.lt
  obtain ⟨n, rfl⟩ : ∃ n, N = n + 1 := ⟨N - 1, by have := g.pos; omega⟩
  have h2 := (g.ord n (Nat.lt_succ_self _)).1
  have h3 := trT_mono (T := T) (m := m) (n := n)
  unfold tree at *
  omega
theorem Good.ti (g : Good T m N) : TI T m N 0 (tree T m N) := TI.all g.ord N (Nat.le_refl _)
end
end Mon
namespace Mon
/-! ### shorter first, then by letters -/
def slt (u v : List Nat) : Prop := u.length < v.length ∨ (u.length = v.length ∧ u < v)
theorem lt_app : ∀ {u v : List Nat} (x y : List Nat), u.length = v.length → u < v → u ++ x < v ++ y
  | [], [], _, _, _, h => absurd h (List.lt_irrefl _)
  | [], _ :: _, _, _, h, _ => by cases h
  | _ :: _, [], _, _, h, _ => by cases h
  | a :: u, b :: v, x, y, hl, h => by
    rw [List.cons_append, List.cons_append]
    rcases List.cons_lt_cons_iff.mp h with h2 | ⟨h3, h2⟩
    · exact List.cons_lt_cons_iff.mpr (.inl h2)
    · exact List.cons_lt_cons_iff.mpr (.inr ⟨h3, lt_app x y (by simpa using hl) h2⟩)
theorem app_lt {c d : Nat} (h : c < d) : ∀ u : List Nat, u ++ [c] < u ++ [d]
  | [] => List.cons_lt_cons_iff.mpr (.inl h)
  | a :: u => List.cons_lt_cons_iff.mpr (.inr ⟨rfl, app_lt h u⟩)
theorem slt_app {u v : List Nat} (c d : Nat) (h : slt u v) : slt (u ++ [c]) (v ++ [d]) := by
  rcases h with h | ⟨h1, h2⟩
  · exact .inl (by simp; omega)
  · exact .inr ⟨by simp; omega, lt_app _ _ h1 h2⟩
theorem slt_last (u : List Nat) {c d : Nat} (h : c < d) : slt (u ++ [c]) (u ++ [d]) := .inr ⟨by simp, app_lt h u⟩
theorem slt_cons {u v : List Nat} (c : Nat) (h : slt u v) : slt (c :: u) (c :: v) := by
  rcases h with h | ⟨h1, h2⟩
  · exact .inl (by simp; omega)
  · exact .inr ⟨by simp; omega, List.cons_lt_cons_iff.mpr (.inr ⟨rfl, h2⟩)⟩
theorem slt_irr (u : List Nat) : ¬ slt u u := fun h => by
  rcases h with h | ⟨_, h⟩
  · omega
  · exact List.lt_irrefl _ h
theorem slt_trans {u v w : List Nat} (h : slt u v) (h' : slt v w) : slt u w := by
  rcases h with h | ⟨h1, h2⟩
  · rcases h' with h' | ⟨h3, h4⟩
    · exact .inl (by omega)
    · exact .inl (by omega)
  · rcases h' with h' | ⟨h3, h4⟩
    · exact .inl (by omega)
    · exact .inr ⟨by omega, List.lt_trans h2 h4⟩
theorem slt_snoc (u : List Nat) (c : Nat) : slt u (u ++ [c]) := .inl (by simp)

section
variable {T : Tab} {m N : Nat}
/-- the least words, by the tree -/
def wds (tr : List (Nat × Nat)) : List (List Nat) := along [] (fun ws p => ws.getD p.1 [] ++ [97 + p.2]) tr
def W (T : Tab) (m N k : Nat) : List Nat := (wds (tree T m N)).getD k []
theorem getD_take {α : Type} {l : List α} {i k : Nat} {d : α} (h : i < k) : (l.take k).getD i d = l.getD i d := by
  rw [List.getD_eq_getElem?_getD, List.getD_eq_getElem?_getD, List.getElem?_take_of_lt h]
abbrev P1 (T : Tab) (m N k : Nat) : Nat := ((tree T m N).getD k (0, 0)).1
abbrev P2 (T : Tab) (m N k : Nat) : Nat := ((tree T m N).getD k (0, 0)).2
theorem Good.ne (g : Good T m N) : tree T m N ≠ [] := fun h => by have := g.len; rw [h] at this; have := g.pos; simp at *; omega
theorem Good.fst (g : Good T m N) {k : Nat} (h0 : 0 < k) (h : k < N) : P1 T m N k < k ∧ P2 T m N k < m ∧ at2 T (P1 T m N k) (P2 T m N k) = k ∧ P1 T m N k < N := by
  obtain ⟨a1, a2, a3, a4⟩ := g.ti.fst k h0 (by rw [g.len]; exact h)
  exact ⟨a1, a2, a3, Nat.lt_trans a1 h⟩
theorem Good.W0 (g : Good T m N) : W T m N 0 = [] := along_zero _
theorem Good.Wk (g : Good T m N) {k : Nat} (h0 : 0 < k) (h : k < N) : W T m N k = W T m N (P1 T m N k) ++ [97 + P2 T m N k] := by
  show (along _ _ _).getD k [] = _
  rw [along_get h0 (by rw [g.len]; exact h), getD_take (g.fst h0 h).1]
  rfl
theorem Good.wlen (g : Good T m N) : (wds (tree T m N)).length = N := by
  show (along _ _ _).length = N
  rw [along_len g.ne, g.len]
theorem run_nil (n : Nat) : run T n [] = n := rfl
theorem Good.runW (g : Good T m N) : ∀ k, k < N → run T 0 (W T m N k) = k := fun k => by
  induction k using Nat.strongRecOn with
  | _ k ih =>
    intro h
    by_cases h0 : k = 0
    · subst h0; rw [g.W0]; rfl
    · have f := g.fst (by omega) h
      rw [g.Wk (by omega) h, run_snoc, ih _ f.1 f.2.2.2, show 97 + P2 T m N k - 97 = P2 T m N k by omega]
      exact f.2.2.1
theorem slt_lx (g : Good T m N) {n l i j : Nat} (hn : n < N) (hi : i < N) (ih : ∀ a b, a < b → b ≤ i → slt (W T m N a) (W T m N b)) (h : lx (n, l) (i, j)) : slt (W T m N n ++ [97 + l]) (W T m N i ++ [97 + j]) := by
  rcases h with h | ⟨h1, h2⟩
  · exact slt_app _ _ (ih n i h (Nat.le_refl _))
  · dsimp only at h1 h2
    subst h1
    exact slt_last _ (by omega)
theorem Good.mono (g : Good T m N) : ∀ b, b < N → ∀ a, a < b → slt (W T m N a) (W T m N b) := fun b => by
  induction b using Nat.strongRecOn with
  | _ b ih =>
    intro hb a hab
    have fb := g.fst (k := b) (by omega) hb
    by_cases h0 : a = 0
    · subst h0
      rw [g.W0, g.Wk (by omega) hb]
      exact .inl (by simp)
    · have fa := g.fst (k := a) (by omega) (by omega)
      rw [g.Wk (k := a) (by omega) (by omega), g.Wk (k := b) (by omega) hb]
      have hx := g.ti.inc a b (by omega) hab (by rw [g.len]; exact hb)
      exact slt_lx g fa.2.2.2 fb.2.2.2 (fun x y hxy hy => ih y (by omega) (by omega) x hxy) hx
theorem Good.inj (g : Good T m N) {a b : Nat} (ha : a < N) (hb : b < N) (h : W T m N a = W T m N b) : a = b := by
  have := g.runW a ha
  rw [h, g.runW b hb] at this
  exact this.symm
/-- the first pair that leads to a number -/
def least (T : Tab) (m N n l : Nat) : Bool := decide (0 < at2 T n l ∧ (tree T m N).getD (at2 T n l) (0, 0) = (n, l))
theorem Good.least_eq (g : Good T m N) {n l : Nat} (hn : n < N) (hl : l < m) (h : least T m N n l = true) : W T m N (at2 T n l) = W T m N n ++ [97 + l] := by
  obtain ⟨h0, he⟩ := of_decide_eq_true h
  rw [g.Wk h0 (g.lt n l hn hl)]
  unfold P1 P2
  rw [he]
theorem Good.not_least (g : Good T m N) {n l : Nat} (hn : n < N) (hl : l < m) (h : least T m N n l = false) : slt (W T m N (at2 T n l)) (W T m N n ++ [97 + l]) := by
  have h2 := of_decide_eq_false h
  by_cases h0 : 0 < at2 T n l
  · have hv := g.lt n l hn hl
    have f := g.fst h0 hv
    rcases g.ti.ear n l (by unfold lx; dsimp only; omega) hl h0 with e | e
    · exact absurd ⟨h0, e⟩ h2
    · rw [g.Wk h0 hv]
      exact slt_lx g (i := n) f.2.2.2 hn (fun a b hab hb => g.mono b (by omega) a hab) e
  · rw [show at2 T n l = 0 by omega, g.W0]
    exact .inl (by simp)
theorem Good.least_iff (g : Good T m N) {n l : Nat} (hn : n < N) (hl : l < m) : least T m N n l = true ↔ W T m N (at2 T n l) = W T m N n ++ [97 + l] := by
  constructor
  · exact g.least_eq hn hl
  · intro h
    cases e : least T m N n l with
    | true => rfl
    | false =>
      have := g.not_least hn hl e
      rw [h] at this
      exact absurd this (slt_irr _)
/-- its signs are letters -/
def Lt (m : Nat) (w : List Nat) : Prop := ∀ c ∈ w, 97 ≤ c ∧ c < 97 + m
theorem Good.ltW (g : Good T m N) : ∀ k, k < N → Lt m (W T m N k) := fun k => by
  induction k using Nat.strongRecOn with
  | _ k ih =>
    intro h
    by_cases h0 : k = 0
    · subst h0; rw [g.W0]; intro c hc; cases hc
    · have f := g.fst (by omega) h
      rw [g.Wk (by omega) h]
      intro c hc
      rcases List.mem_append.mp hc with hc | hc
      · exact ih _ f.1 f.2.2.2 c hc
      · rw [List.mem_singleton.mp hc]
        have := f.2.1
        omega
theorem Good.run_lt (g : Good T m N) : ∀ w, Lt m w → run T 0 w < N := by
  refine rev_ind (by intro _; exact g.pos) fun w c ih h => ?_
  rw [run_snoc]
  have hc := h c (by simp)
  exact g.lt _ _ (ih fun d hd => h d (by simp [hd])) (by omega)
/-- the least word of a number is least -/
theorem Good.le (g : Good T m N) : ∀ w, Lt m w → W T m N (run T 0 w) = w ∨ slt (W T m N (run T 0 w)) w := by
  refine rev_ind (by intro _; exact .inl g.W0) fun w c ih h => ?_
  rw [run_snoc]
  have hc := h c (by simp)
  have hw : Lt m w := fun d hd => h d (by simp [hd])
  have hr := g.run_lt w hw
  have e : 97 + (c - 97) = c := by omega
  have h1 : W T m N (at2 T (run T 0 w) (c - 97)) = W T m N (run T 0 w) ++ [c] ∨ slt (W T m N (at2 T (run T 0 w) (c - 97))) (W T m N (run T 0 w) ++ [c]) := by
    cases hL : least T m N (run T 0 w) (c - 97) with
    | true => left; rw [g.least_eq hr (by omega) hL, e]
    | false => right; have := g.not_least hr (by omega) hL; rwa [e] at this
  rcases ih hw with i | i
  · rw [i] at h1
    exact h1
  · right
    have h2 := slt_app c c i
    rcases h1 with h1 | h1
    · rw [h1]; exact h2
    · exact slt_trans h1 h2
end
end Mon
namespace Mon
section
variable {T : Tab} {m N : Nat}
/-! ### the word without its first letter -/
def ends (T : Tab) (tr : List (Nat × Nat)) : List Nat := along 0 (fun es p => if p.1 = 0 then 0 else at2 T (es.getD p.1 0) p.2) tr
def E (T : Tab) (m N k : Nat) : Nat := (ends T (tree T m N)).getD k 0
theorem Good.E_eq (g : Good T m N) : ∀ k, k < N → E T m N k = run T 0 (W T m N k).tail := fun k => by
  induction k using Nat.strongRecOn with
  | _ k ih =>
    intro h
    by_cases h0 : k = 0
    · subst h0
      rw [g.W0]
      exact along_zero _
    · have f := g.fst (by omega) h
      have e : E T m N k = if P1 T m N k = 0 then 0 else at2 T (E T m N (P1 T m N k)) (P2 T m N k) := by
        show (along _ _ _).getD k 0 = _
        rw [along_get (by omega) (by rw [g.len]; exact h), getD_take f.1]
        rfl
      rw [e, g.Wk (by omega) h]
      by_cases h1 : P1 T m N k = 0
      · rw [if_pos h1, h1, g.W0]; rfl
      · rw [if_neg h1, ih _ f.1 f.2.2.2]
        have hne : W T m N (P1 T m N k) ≠ [] := by rw [g.Wk (by omega) f.2.2.2]; simp
        rw [List.tail_append_of_ne_nil hne, run_snoc, show 97 + P2 T m N k - 97 = P2 T m N k by omega]
theorem Good.E0 (g : Good T m N) : E T m N 0 = 0 := along_zero _
theorem Good.Ek (g : Good T m N) {k : Nat} (h0 : 0 < k) (h : k < N) : E T m N k = if P1 T m N k = 0 then 0 else at2 T (E T m N (P1 T m N k)) (P2 T m N k) := by
  have f := g.fst h0 h
  show (along _ _ _).getD k 0 = _
  rw [along_get h0 (by rw [g.len]; exact h), getD_take f.1]
  rfl
theorem Good.E_lt (g : Good T m N) {k : Nat} (h : k < N) : E T m N k < N := by
  rw [g.E_eq k h]
  exact g.run_lt _ fun c hc => g.ltW k h c (List.mem_of_mem_tail hc)
theorem Good.elen (g : Good T m N) : (ends T (tree T m N)).length = N := by
  show (along _ _ _).length = N
  rw [along_len g.ne, g.len]
/-! ### multiplied from the left -/
def lefts (T : Tab) (tr : List (Nat × Nat)) : Tab := along (T.getD 0 []) (fun ls p => (ls.getD p.1 []).map fun n => at2 T n p.2) tr
theorem Good.llen (g : Good T m N) : (lefts T (tree T m N)).length = N := by
  show (along _ _ _).length = N
  rw [along_len g.ne, g.len]
def Lf (T : Tab) (m N k : Nat) : List Nat := (lefts T (tree T m N)).getD k []
theorem Good.Lfk (g : Good T m N) {k : Nat} (h0 : 0 < k) (h : k < N) : Lf T m N k = (Lf T m N (P1 T m N k)).map fun n => at2 T n (P2 T m N k) := by
  show (along _ _ _).getD k [] = _
  rw [along_get h0 (by rw [g.len]; exact h), getD_take (g.fst h0 h).1]
  rfl
theorem Good.Lf0 (g : Good T m N) : Lf T m N 0 = T.getD 0 [] := along_zero _
theorem Good.Lf_len (g : Good T m N) : ∀ k, k < N → (Lf T m N k).length = m := fun k => by
  induction k using Nat.strongRecOn with
  | _ k ih =>
    intro h
    by_cases h0 : k = 0
    · subst h0; rw [g.Lf0]; exact g.row 0 h
    · have f := g.fst (by omega) h
      rw [g.Lfk (by omega) h, List.length_map]
      exact ih _ f.1 f.2.2.2
theorem getD_map {α β : Type} {l : List α} {f : α → β} {a : Nat} {d : α} {e : β} (h : a < l.length) : (l.map f).getD a e = f (l.getD a d) := by
  rw [List.getD_eq_getElem?_getD, List.getD_eq_getElem?_getD, List.getElem?_map, List.getElem?_eq_getElem h]; rfl
theorem Good.Lf_run (g : Good T m N) : ∀ k, k < N → ∀ a, a < m → (Lf T m N k).getD a 0 = run T 0 ((97 + a) :: W T m N k) := fun k => by
  induction k using Nat.strongRecOn with
  | _ k ih =>
    intro h a ha
    by_cases h0 : k = 0
    · subst h0
      rw [g.Lf0, g.W0]
      show _ = at2 T 0 (97 + a - 97)
      rw [show 97 + a - 97 = a by omega]; rfl
    · have f := g.fst (by omega) h
      rw [g.Lfk (by omega) h, getD_map (d := 0) (by rw [g.Lf_len _ f.2.2.2]; exact ha), ih _ f.1 f.2.2.2 a ha, g.Wk (by omega) h]
      rw [← List.cons_append, run_snoc, show 97 + P2 T m N k - 97 = P2 T m N k by omega]
theorem list_ext0 {u v : List Nat} (h : u.length = v.length) (k : ∀ a, a < u.length → u.getD a 0 = v.getD a 0) : u = v := by
  refine List.ext_getElem h fun i h1 h2 => ?_
  have := k i h1
  rw [List.getD_eq_getElem?_getD, List.getD_eq_getElem?_getD, List.getElem?_eq_getElem h1, List.getElem?_eq_getElem h2] at this
  exact this
/-- products are those of a monoid -/
def Prod (T : Tab) (m N : Nat) : Prop := ∀ n l, n < N → l < m → Lf T m N (at2 T n l) = (Lf T m N n).map fun k => at2 T k l
/-- it is so if what words do tells their numbers -/
theorem Good.prod_of (g : Good T m N) (h : ∀ a n l, a < m → n < N → l < m → run T 0 ((97 + a) :: W T m N (at2 T n l)) = at2 T (run T 0 ((97 + a) :: W T m N n)) l) : Prod T m N := by
  intro n l hn hl
  have hv := g.lt n l hn hl
  refine list_ext0 (by rw [List.length_map, g.Lf_len _ hv, g.Lf_len _ hn]) fun a ha => ?_
  rw [g.Lf_len _ hv] at ha
  rw [getD_map (d := 0) (by rw [g.Lf_len _ hn]; exact ha), g.Lf_run _ hv a ha, g.Lf_run _ hn a ha]
  exact h a n l ha hn hl
theorem Good.cong (g : Good T m N) (p : Prod T m N) {a : Nat} (ha : a < m) : ∀ w, Lt m w → run T 0 ((97 + a) :: w) = (Lf T m N (run T 0 w)).getD a 0 := by
  refine rev_ind (fun _ => ?_) fun w c ih h => ?_
  · rw [run_nil, g.Lf_run 0 g.pos a ha, g.W0]
  · have hc := h c (by simp)
    have hw : Lt m w := fun d hd => h d (by simp [hd])
    have hr := g.run_lt w hw
    rw [← List.cons_append, run_snoc, run_snoc, ih hw, p _ _ hr (by omega), getD_map (d := 0) (by rw [g.Lf_len _ hr]; exact ha)]
/-- a least word without its first letter is least -/
theorem Good.tail (g : Good T m N) (p : Prod T m N) {k c : Nat} {v : List Nat} (hk : k < N) (h : W T m N k = c :: v) : W T m N (run T 0 v) = v := by
  have hl := g.ltW k hk
  rw [h] at hl
  have hv : Lt m v := fun d hd => hl d (List.mem_cons_of_mem _ hd)
  have hc := hl c List.mem_cons_self
  have hr := g.run_lt v hv
  rcases g.le v hv with e | e
  · exact e
  · exfalso
    obtain ⟨a, rfl⟩ : ∃ a, c = 97 + a := ⟨c - 97, by omega⟩
    have h2 := slt_cons (97 + a) e
    rw [← h] at h2
    have hw : Lt m ((97 + a) :: W T m N (run T 0 v)) := fun d hd => by
      rcases List.mem_cons.mp hd with q | q
      · rw [q]; exact hc
      · exact g.ltW _ hr d q
    have e3 : run T 0 ((97 + a) :: W T m N (run T 0 v)) = k := by
      rw [g.cong p (by omega) _ (g.ltW _ hr), g.runW _ hr, ← g.cong p (by omega) v hv, ← h, g.runW k hk]
    have h3 := g.le _ hw
    rw [e3] at h3
    rcases h3 with h3 | h3
    · rw [← h3] at h2; exact slt_irr _ h2
    · exact slt_irr _ (slt_trans h2 h3)
/-! ### rules -/
def rule (T : Tab) (m N n l : Nat) : Bool := !least T m N n l && (decide (n = 0) || least T m N (E T m N n) l)
def rules (T : Tab) (m N : Nat) : List (List Nat × List Nat) := (List.range N).flatMap fun n => ((List.range m).filter (rule T m N n)).map fun l => (W T m N n ++ [97 + l], W T m N (at2 T n l))
/-- a known word is the least of its number -/
def Known (T : Tab) (m N : Nat) (w : List Nat) : Prop := ∃ k, k < N ∧ W T m N k = w
theorem Good.known_iff (g : Good T m N) {w : List Nat} (hw : Lt m w) : Known T m N w ↔ W T m N (run T 0 w) = w := by
  constructor
  · rintro ⟨k, hk, rfl⟩
    rw [g.runW k hk]
  · intro h
    exact ⟨_, g.run_lt w hw, h⟩
theorem Good.Lt_snoc (g : Good T m N) {n l : Nat} (hn : n < N) (hl : l < m) : Lt m (W T m N n ++ [97 + l]) := fun c hc => by
  rcases List.mem_append.mp hc with hc | hc
  · exact g.ltW n hn c hc
  · rw [List.mem_singleton.mp hc]; omega
theorem Good.run_longer (g : Good T m N) {n l : Nat} (hn : n < N) : run T 0 (W T m N n ++ [97 + l]) = at2 T n l := by
  rw [run_snoc, g.runW n hn, show 97 + l - 97 = l by omega]
theorem Good.known_longer (g : Good T m N) {n l : Nat} (hn : n < N) (hl : l < m) : Known T m N (W T m N n ++ [97 + l]) ↔ least T m N n l = true := by
  rw [g.known_iff (g.Lt_snoc hn hl), g.run_longer hn, g.least_iff hn hl]
theorem Good.W_tail (g : Good T m N) (p : Prod T m N) {n : Nat} (hn : n < N) : W T m N (E T m N n) = (W T m N n).tail := by
  rw [g.E_eq n hn]
  cases h : W T m N n with
  | nil => exact g.W0
  | cons c v => exact g.tail p hn h
theorem Good.known_tail (g : Good T m N) (p : Prod T m N) {n l : Nat} (hn : n < N) (hl : l < m) : Known T m N (W T m N n ++ [97 + l]).tail ↔ n = 0 ∨ least T m N (E T m N n) l = true := by
  by_cases h0 : n = 0
  · subst h0
    rw [g.W0]
    exact ⟨fun _ => .inl rfl, fun _ => ⟨0, g.pos, g.W0⟩⟩
  · have hne : W T m N n ≠ [] := by rw [g.Wk (by omega) hn]; simp
    rw [List.tail_append_of_ne_nil hne, ← g.W_tail p hn, g.known_longer (g.E_lt hn) hl]
    exact ⟨fun h => .inr h, fun h => h.resolve_left h0⟩
theorem Good.rule_iff (g : Good T m N) (p : Prod T m N) {n l : Nat} (hn : n < N) (hl : l < m) : rule T m N n l = true ↔ ¬ Known T m N (W T m N n ++ [97 + l]) ∧ Known T m N (W T m N n ++ [97 + l]).tail := by
  rw [g.known_longer hn hl, g.known_tail p hn hl]
  unfold rule
  cases least T m N n l <;> by_cases h : n = 0 <;> simp [h]
/-! ### rules in order -/
theorem Good.rules_sorted (g : Good T m N) : (rules T m N).Pairwise fun a b => slt a.1 b.1 := by
  unfold rules
  rw [List.pairwise_flatMap]
  refine ⟨fun n hn => ?_, ?_⟩
  · rw [List.pairwise_map]
    exact (List.pairwise_lt_range).filter _ |>.imp fun h => slt_last _ (by omega)
  · refine List.pairwise_lt_range.imp_of_mem fun {a b} ha hb hab => ?_
    intro x hx y hy
    obtain ⟨l, _, rfl⟩ := List.mem_map.mp hx
    obtain ⟨l', _, rfl⟩ := List.mem_map.mp hy
    exact slt_app _ _ (g.mono b (List.mem_range.mp hb) a hab)
theorem flat_len {α β : Type} (f : α → List β) (B : Nat) : ∀ l : List α, (∀ a ∈ l, (f a).length ≤ B) → (l.flatMap f).length ≤ l.length * B
  | [], _ => by simp
  | a :: l, h => by
    have h1 := flat_len f B l fun b hb => h b (List.mem_cons_of_mem _ hb)
    have h2 := h a List.mem_cons_self
    rw [List.flatMap_cons, List.length_append, List.length_cons, Nat.add_mul]
    omega
theorem rules_len : (rules T m N).length ≤ N * m := by
  have := flat_len (fun n => ((List.range m).filter (rule T m N n)).map fun l => (W T m N n ++ [97 + l], W T m N (at2 T n l))) m (List.range N) fun n _ => by
    rw [List.length_map]
    exact Nat.le_trans (List.length_filter_le _ _) (by simp)
  rw [List.length_range] at this
  exact this
end
end Mon
namespace Mon
/-! ### maps, listed by multiplying -/
def IsMap (sz : Nat) (f : List Nat) : Prop := f.length = sz ∧ ∀ x ∈ f, x < sz
def mul (f r : List Nat) : List Nat := f.map fun i => r.getD i 0
theorem getD_lt {r : List Nat} {sz i : Nat} (h : IsMap sz r) (hi : i < sz) : r.getD i 0 < sz := by
  have h1 : i < r.length := by rw [h.1]; exact hi
  rw [List.getD_eq_getElem?_getD, List.getElem?_eq_getElem h1]
  exact h.2 _ (List.getElem_mem h1)
theorem mul_map {sz : Nat} {f r : List Nat} (hf : IsMap sz f) (hr : IsMap sz r) : IsMap sz (mul f r) := by
  refine ⟨by unfold mul; rw [List.length_map, hf.1], fun x hx => ?_⟩
  obtain ⟨i, hi, rfl⟩ := List.mem_map.mp hx
  exact getD_lt hr (hf.2 i hi)
theorem mul_assoc {sz : Nat} {f g h : List Nat} (hf : IsMap sz f) (hg : IsMap sz g) : mul (mul f g) h = mul f (mul g h) := by
  unfold mul
  rw [List.map_map]
  refine List.map_congr_left fun i hi => ?_
  have h1 : i < g.length := by rw [hg.1]; exact hf.2 i hi
  rw [getD_map (d := 0) h1]
  rfl
theorem one_map (sz : Nat) : IsMap sz (List.range sz) := ⟨List.length_range, fun x hx => List.mem_range.mp hx⟩
theorem one_mul {sz : Nat} {r : List Nat} (h : IsMap sz r) : mul (List.range sz) r = r := by
  refine list_ext0 (by unfold mul; rw [List.length_map, List.length_range, h.1]) fun a ha => ?_
  unfold mul at *
  rw [List.length_map] at ha
  rw [getD_map (d := 0) ha]
  have : (List.range sz).getD a 0 = a := by
    rw [List.length_range] at ha
    rw [List.getD_eq_getElem?_getD, List.getElem?_range ha]; rfl
  rw [this]
def fdR (rows : Tab) (f : List Nat) : Nat → List (List Nat) → List (List Nat)
  | 0, fd => fd
  | j + 1, fd => if mul f (rows.getD j []) ∈ fdR rows f j fd then fdR rows f j fd else fdR rows f j fd ++ [mul f (rows.getD j [])]
def wsR (rows : Tab) (f w : List Nat) : Nat → List (List Nat) → List (List Nat) → List (List Nat)
  | 0, _, ws => ws
  | j + 1, fd, ws => if mul f (rows.getD j []) ∈ fdR rows f j fd then wsR rows f w j fd ws else wsR rows f w j fd ws ++ [w ++ [97 + j]]
def rowR (rows : Tab) (f : List Nat) (j : Nat) (fd : List (List Nat)) : List Nat := (List.range j).map fun i => (fdR rows f (i + 1) fd).idxOf (mul f (rows.getD i []))
def fdT (rows : Tab) (sz : Nat) : Nat → List (List Nat)
  | 0 => [List.range sz]
  | n + 1 => fdR rows ((fdT rows sz n).getD n []) rows.length (fdT rows sz n)
def wsT (rows : Tab) (sz : Nat) : Nat → List (List Nat)
  | 0 => [[]]
  | n + 1 => wsR rows ((fdT rows sz n).getD n []) ((wsT rows sz n).getD n []) rows.length (fdT rows sz n) (wsT rows sz n)
def tbT (rows : Tab) (sz n : Nat) : Tab := (List.range n).map fun k => rowR rows ((fdT rows sz k).getD k []) rows.length (fdT rows sz k)
theorem tbT_succ (rows : Tab) (sz n : Nat) : tbT rows sz (n + 1) = tbT rows sz n ++ [rowR rows ((fdT rows sz n).getD n []) rows.length (fdT rows sz n)] := by
  unfold tbT; rw [List.range_succ, List.map_append]; rfl
theorem rowR_succ (rows : Tab) (f : List Nat) (j : Nat) (fd : List (List Nat)) : rowR rows f (j + 1) fd = rowR rows f j fd ++ [(fdR rows f (j + 1) fd).idxOf (mul f (rows.getD j []))] := by
  unfold rowR; rw [List.range_succ, List.map_append]; rfl
theorem fdR_succ (rows : Tab) (f : List Nat) (j : Nat) (fd : List (List Nat)) : fdR rows f (j + 1) fd = if mul f (rows.getD j []) ∈ fdR rows f j fd then fdR rows f j fd else fdR rows f j fd ++ [mul f (rows.getD j [])] := rfl
section
variable {rows : Tab} {sz : Nat}
theorem fdR_pre (f : List Nat) (fd : List (List Nat)) (j : Nat) : ∀ i, ∃ b, fdR rows f (j + i) fd = fdR rows f j fd ++ b
  | 0 => ⟨[], by simp⟩
  | i + 1 => by
    obtain ⟨b, h⟩ := fdR_pre f fd j i
    show ∃ b, fdR rows f (j + i + 1) fd = _
    rw [fdR_succ]
    split
    · exact ⟨b, h⟩
    · exact ⟨b ++ [mul f (rows.getD (j + i) [])], by rw [h, List.append_assoc]⟩
theorem fdT_pre (n : Nat) : ∀ i, ∃ b, fdT rows sz (n + i) = fdT rows sz n ++ b
  | 0 => ⟨[], by simp⟩
  | i + 1 => by
    obtain ⟨b, h⟩ := fdT_pre n i
    obtain ⟨c, h2⟩ := fdR_pre (rows := rows) ((fdT rows sz (n + i)).getD (n + i) []) (fdT rows sz (n + i)) 0 rows.length
    rw [Nat.zero_add] at h2
    exact ⟨b ++ c, by rw [← List.append_assoc, ← h]; exact h2⟩
theorem fdR_nodup {f : List Nat} {fd : List (List Nat)} (h : fd.Nodup) : ∀ j, (fdR rows f j fd).Nodup
  | 0 => h
  | j + 1 => by
    have ih := fdR_nodup (f := f) h j
    rw [fdR_succ]
    split
    · exact ih
    · rename_i hn
      rw [List.nodup_append]
      refine ⟨ih, List.pairwise_singleton _ _, fun a ha b hb => ?_⟩
      rw [List.mem_singleton.mp hb]
      intro e
      exact hn (e ▸ ha)
theorem fdT_nodup : ∀ n, (fdT rows sz n).Nodup
  | 0 => List.pairwise_singleton _ _
  | n + 1 => fdR_nodup (fdT_nodup n) _
theorem getD_mem {l : List (List Nat)} {n : Nat} (h : n < l.length) : l.getD n [] ∈ l := by
  rw [List.getD_eq_getElem?_getD, List.getElem?_eq_getElem h]
  exact List.getElem_mem h
theorem fdR_maps {f : List Nat} {fd : List (List Nat)} (hr : ∀ r ∈ rows, IsMap sz r) (hf : IsMap sz f) (h : ∀ g ∈ fd, IsMap sz g) : ∀ j, j ≤ rows.length → ∀ g ∈ fdR rows f j fd, IsMap sz g
  | 0, _ => h
  | j + 1, hj => by
    have ih := fdR_maps hr hf h j (by omega)
    rw [fdR_succ]
    split
    · exact ih
    · intro g hg
      rcases List.mem_append.mp hg with hg | hg
      · exact ih g hg
      · rw [List.mem_singleton.mp hg]
        exact mul_map hf (hr _ (getD_mem (by omega)))
theorem fdT_maps (hr : ∀ r ∈ rows, IsMap sz r) : ∀ n, (∀ k, k < n → k < (fdT rows sz k).length) → ∀ g ∈ fdT rows sz n, IsMap sz g
  | 0, _ => fun g hg => by rw [List.mem_singleton.mp hg]; exact one_map sz
  | n + 1, h => by
    have ih := fdT_maps hr n fun k hk => h k (by omega)
    exact fdR_maps hr (ih _ (getD_mem (h n (Nat.lt_succ_self _)))) ih _ (Nat.le_refl _)
end
/-! ### how many maps there are -/
theorem nodup_le : ∀ (B : Nat) (l : List Nat), l.Nodup → (∀ x ∈ l, x < B) → l.length ≤ B
  | 0, [], _, _ => Nat.le_refl _
  | 0, x :: _, _, h => absurd (h x List.mem_cons_self) (Nat.not_lt_zero _)
  | B + 1, l, hn, h => by
    have h1 := nodup_le B (l.filter fun x => x != B) (hn.filter _) fun x hx => by
      have := List.mem_filter.mp hx
      have h2 := h x this.1
      have h3 : x ≠ B := by simpa using this.2
      omega
    have h2 : (l.filter fun x => x == B).length ≤ 1 := by
      have h4 : (l.filter fun x => x == B).Nodup := hn.filter _
      have h5 : ∀ x ∈ l.filter fun x => x == B, x = B := fun x hx => by simpa using (List.mem_filter.mp hx).2
      match hm : l.filter fun x => x == B, h4, h5 with
      | [], _, _ => simp
      | [_], _, _ => simp
      | x :: y :: r, h4, h5 =>
        have e1 := h5 x (by simp)
        have e2 := h5 y (by simp)
        rw [e1, e2] at h4
        simp at h4
    have h3 : l.length = (l.filter fun x => x == B).length + (l.filter fun x => x != B).length := by
      have key : ∀ l : List Nat, l.length = (l.filter fun x => x == B).length + (l.filter fun x => x != B).length := fun l => by
        induction l with
        | nil => rfl
        | cons a l ih => by_cases e : a = B <;> simp [e] <;> omega
      exact key l
    omega
def code (f : List Nat) : Nat := f.foldr (fun x a => a * 4 + x) 0
theorem code_lt : ∀ f : List Nat, (∀ x ∈ f, x < 4) → code f < 4 ^ f.length
  | [], _ => by decide
  | x :: f, h => by
    have h1 := code_lt f fun y hy => h y (List.mem_cons_of_mem _ hy)
    have h2 := h x List.mem_cons_self
    show code f * 4 + x < 4 ^ (f.length + 1)
    rw [Nat.pow_succ]
    omega
theorem code_inj : ∀ f g : List Nat, f.length = g.length → (∀ x ∈ f, x < 4) → (∀ x ∈ g, x < 4) → code f = code g → f = g
  | [], [], _, _, _, _ => rfl
  | [], _ :: _, h, _, _, _ => by cases h
  | _ :: _, [], h, _, _, _ => by cases h
  | x :: f, y :: g, hl, hf, hg, h => by
    have h2 := hf x List.mem_cons_self
    have h3 := hg y List.mem_cons_self
    have h4 : code f * 4 + x = code g * 4 + y := h
    have e1 : x = y := by omega
    have e2 : code f = code g := by omega
    rw [e1, code_inj f g (by simpa using hl) (fun z hz => hf z (List.mem_cons_of_mem _ hz)) (fun z hz => hg z (List.mem_cons_of_mem _ hz)) e2]
theorem maps_le {sz : Nat} (h4 : sz ≤ 4) {l : List (List Nat)} (hn : l.Nodup) (h : ∀ f ∈ l, IsMap sz f) : l.length ≤ 256 := by
  have h1 := nodup_le 256 (l.map code) ?_ ?_
  · rwa [List.length_map] at h1
  · unfold List.Nodup
    rw [List.pairwise_map]
    refine List.Pairwise.imp_of_mem (fun {a b} ha hb hab e => hab ?_) hn
    exact code_inj a b (by rw [(h a ha).1, (h b hb).1]) (fun x hx => Nat.lt_of_lt_of_le ((h a ha).2 x hx) h4) (fun x hx => Nat.lt_of_lt_of_le ((h b hb).2 x hx) h4) e
  · intro x hx
    obtain ⟨f, hf, rfl⟩ := List.mem_map.mp hx
    have h2 := code_lt f fun y hy => Nat.lt_of_lt_of_le ((h f hf).2 y hy) h4
    rw [(h f hf).1] at h2
    have h3 : 4 ^ sz ≤ 4 ^ 4 := Nat.pow_le_pow_right (by decide) h4
    have h5 : 4 ^ 4 = 256 := by decide
    omega
end Mon
namespace Mon
/-- the listing is over at N -/
structure Done (rows : Tab) (sz N : Nat) : Prop where
  maps : ∀ r ∈ rows, IsMap sz r
  go : ∀ k, k < N → k < (fdT rows sz k).length
  stop : (fdT rows sz N).length = N
theorem idx_app {l b : List (List Nat)} {p : List Nat} (h : p ∈ l) : (l ++ b).idxOf p = l.idxOf p := by
  rw [List.idxOf_append, if_pos h]
theorem idx_new {l : List (List Nat)} {p : List Nat} (h : p ∉ l) : (l ++ [p]).idxOf p = l.length := by
  rw [List.idxOf_append, if_neg h]; simp
theorem getD_idx {l : List (List Nat)} {p : List Nat} (h : p ∈ l) : l.getD (l.idxOf p) [] = p := by
  have h2 := List.idxOf_lt_length_iff.mpr h
  rw [List.getD_eq_getElem?_getD, List.getElem?_eq_getElem h2]
  simp
section
variable {rows : Tab} {sz N : Nat}
theorem fdT_pos (n : Nat) : 0 < (fdT rows sz n).length := by
  obtain ⟨b, h⟩ := fdT_pre (rows := rows) (sz := sz) 0 n
  rw [Nat.zero_add] at h
  rw [h, List.length_append]
  show 0 < 1 + b.length
  omega
namespace Done
variable (d : Done rows sz N)
include d
abbrev F (rows : Tab) (sz N : Nat) : List (List Nat) := fdT rows sz N
theorem pre {n : Nat} (h : n ≤ N) : ∃ b, fdT rows sz N = fdT rows sz n ++ b := by
  obtain ⟨b, e⟩ := fdT_pre (rows := rows) (sz := sz) n (N - n)
  rw [show n + (N - n) = N by omega] at e
  exact ⟨b, e⟩
theorem Fn {n : Nat} (h : n < N) : (fdT rows sz n).getD n [] = (fdT rows sz N).getD n [] := by
  obtain ⟨b, e⟩ := d.pre (Nat.le_of_lt h)
  rw [e, getD_left (d.go n h)]
theorem Fmap : ∀ g ∈ fdT rows sz N, IsMap sz g := fdT_maps d.maps N d.go
theorem Fm {n : Nat} (h : n < N) : IsMap sz ((fdT rows sz N).getD n []) := d.Fmap _ (getD_mem (by rw [d.stop]; exact h))
theorem cell {n j : Nat} (hn : n < N) (hj : j < rows.length) : at2 (tbT rows sz N) n j = (fdR rows ((fdT rows sz n).getD n []) (j + 1) (fdT rows sz n)).idxOf (mul ((fdT rows sz n).getD n []) (rows.getD j [])) := by
  unfold at2 tbT
  rw [getD_map (d := 0) (by rw [List.length_range]; exact hn)]
  have e1 : (List.range N).getD n 0 = n := by rw [List.getD_eq_getElem?_getD, List.getElem?_range hn]; rfl
  rw [e1]
  unfold rowR
  rw [getD_map (d := 0) (by rw [List.length_range]; exact hj)]
  have e2 : (List.range rows.length).getD j 0 = j := by rw [List.getD_eq_getElem?_getD, List.getElem?_range hj]; rfl
  rw [e2]
theorem mem_step (f : List Nat) (fd : List (List Nat)) (j : Nat) : mul f (rows.getD j []) ∈ fdR rows f (j + 1) fd := by
  rw [fdR_succ]
  split
  · assumption
  · exact List.mem_append_right _ (List.mem_singleton.mpr rfl)
theorem pre_row {n j : Nat} (hn : n < N) (hj : j ≤ rows.length) : ∃ b, fdT rows sz N = fdR rows ((fdT rows sz n).getD n []) j (fdT rows sz n) ++ b := by
  obtain ⟨b, e⟩ := d.pre (n := n + 1) hn
  obtain ⟨c, e2⟩ := fdR_pre (rows := rows) ((fdT rows sz n).getD n []) (fdT rows sz n) j (rows.length - j)
  rw [show j + (rows.length - j) = rows.length by omega] at e2
  exact ⟨c ++ b, by rw [e]; show fdR rows _ rows.length _ ++ b = _; rw [e2, List.append_assoc]⟩
theorem cell2 {n j : Nat} (hn : n < N) (hj : j < rows.length) : mul ((fdT rows sz N).getD n []) (rows.getD j []) ∈ fdT rows sz N ∧ at2 (tbT rows sz N) n j = (fdT rows sz N).idxOf (mul ((fdT rows sz N).getD n []) (rows.getD j [])) := by
  have h1 := d.mem_step ((fdT rows sz n).getD n []) (fdT rows sz n) j
  obtain ⟨b, e⟩ := d.pre_row hn (j := j + 1) hj
  rw [d.cell hn hj, ← d.Fn hn]
  refine ⟨?_, ?_⟩
  · rw [e]; exact List.mem_append_left _ h1
  · rw [e, idx_app h1]
theorem cell_lt {n j : Nat} (hn : n < N) (hj : j < rows.length) : at2 (tbT rows sz N) n j < N := by
  obtain ⟨h1, h2⟩ := d.cell2 hn hj
  rw [h2]
  have := List.idxOf_lt_length_iff.mpr h1
  rw [d.stop] at this
  exact this
theorem F_cell {n j : Nat} (hn : n < N) (hj : j < rows.length) : (fdT rows sz N).getD (at2 (tbT rows sz N) n j) [] = mul ((fdT rows sz N).getD n []) (rows.getD j []) := by
  obtain ⟨h1, h2⟩ := d.cell2 hn hj
  rw [h2, getD_idx h1]
/-- one step of a row: the tree grows as the list does -/
theorem step {n j : Nat} (hn : n < N) (hj : j < rows.length) : (mul ((fdT rows sz n).getD n []) (rows.getD j []) ∈ fdR rows ((fdT rows sz n).getD n []) j (fdT rows sz n) → at2 (tbT rows sz N) n j < (fdR rows ((fdT rows sz n).getD n []) j (fdT rows sz n)).length) ∧ (mul ((fdT rows sz n).getD n []) (rows.getD j []) ∉ fdR rows ((fdT rows sz n).getD n []) j (fdT rows sz n) → at2 (tbT rows sz N) n j = (fdR rows ((fdT rows sz n).getD n []) j (fdT rows sz n)).length) := by
  rw [d.cell hn hj, fdR_succ]
  refine ⟨fun h => ?_, fun h => ?_⟩
  · rw [if_pos h]; exact List.idxOf_lt_length_iff.mpr h
  · rw [if_neg h]; exact idx_new h
theorem rowLen {n : Nat} (hn : n < N) (ih : (fdT rows sz n).length = (trT (tbT rows sz N) rows.length n).length) : ∀ j, j ≤ rows.length → (fdR rows ((fdT rows sz n).getD n []) j (fdT rows sz n)).length = (trR (tbT rows sz N) n j (trT (tbT rows sz N) rows.length n)).length
  | 0, _ => ih
  | j + 1, hj => by
    have e := rowLen hn ih j (by omega)
    obtain ⟨s1, s2⟩ := d.step hn (j := j) hj
    rw [fdR_succ]
    unfold trR
    by_cases h : mul ((fdT rows sz n).getD n []) (rows.getD j []) ∈ fdR rows ((fdT rows sz n).getD n []) j (fdT rows sz n)
    · have := s1 h
      rw [if_pos h, if_neg (by omega), e]
    · have := s2 h
      rw [if_neg h, if_pos (by omega), List.length_append, List.length_append, e]
      rfl
theorem lens : ∀ n, n ≤ N → (fdT rows sz n).length = (trT (tbT rows sz N) rows.length n).length
  | 0, _ => rfl
  | n + 1, h => d.rowLen (by omega) (lens n (by omega)) rows.length (Nat.le_refl _)
theorem ord : Ord (tbT rows sz N) rows.length N := fun n hn => by
  have e := d.lens n (Nat.le_of_lt hn)
  refine ⟨by rw [← e]; exact d.go n hn, fun j hj => ?_⟩
  rw [← d.rowLen hn e j (Nat.le_of_lt hj)]
  obtain ⟨s1, s2⟩ := d.step hn (j := j) hj
  by_cases h : mul ((fdT rows sz n).getD n []) (rows.getD j []) ∈ fdR rows ((fdT rows sz n).getD n []) j (fdT rows sz n)
  · exact Nat.le_of_lt (s1 h)
  · exact Nat.le_of_eq (s2 h)
theorem tlen : (tbT rows sz N).length = N := by unfold tbT; simp
theorem good : Good (tbT rows sz N) rows.length N := by
  refine ⟨by have := fdT_pos (rows := rows) (sz := sz) N; rw [d.stop] at this; exact this, d.ord, fun n l hn hl => d.cell_lt hn hl, fun n hn => ?_⟩
  unfold tbT
  rw [getD_map (d := 0) (by rw [List.length_range]; exact hn)]
  unfold rowR
  simp
theorem wsR_pre (f w : List Nat) (fd ws : List (List Nat)) : ∀ j, ∃ b, wsR rows f w j fd ws = ws ++ b
  | 0 => ⟨[], by simp [wsR]⟩
  | j + 1 => by
    obtain ⟨b, h⟩ := wsR_pre f w fd ws j
    unfold wsR
    split
    · exact ⟨b, h⟩
    · exact ⟨b ++ [w ++ [97 + j]], by rw [h, List.append_assoc]⟩
theorem trR_ne {T : Tab} {n j : Nat} {a : List (Nat × Nat)} (h : a ≠ []) : trR T n j a ≠ [] := fun e => by
  have := trR_mono (T := T) (n := n) (a := a) j
  rw [e] at this
  exact h (List.length_eq_zero_iff.mp (by simpa using this))
theorem wsRow {n : Nat} (hn : n < N) (ih : wsT rows sz n = wds (trT (tbT rows sz N) rows.length n)) : ∀ j, j ≤ rows.length →
    wsR rows ((fdT rows sz n).getD n []) ((wsT rows sz n).getD n []) j (fdT rows sz n) (wsT rows sz n) = wds (trR (tbT rows sz N) n j (trT (tbT rows sz N) rows.length n))
  | 0, _ => ih
  | j + 1, hj => by
    have e := wsRow hn ih j (by omega)
    have el := d.rowLen hn (d.lens n (by omega)) j (by omega)
    have hne : trT (tbT rows sz N) rows.length n ≠ [] := fun z => by
      have := d.lens n (by omega)
      rw [z] at this
      have h2 := fdT_pos (rows := rows) (sz := sz) n
      simp at this
      rw [this] at h2
      simp at h2
    obtain ⟨s1, s2⟩ := d.step hn (j := j) hj
    unfold wsR trR
    by_cases h : mul ((fdT rows sz n).getD n []) (rows.getD j []) ∈ fdR rows ((fdT rows sz n).getD n []) j (fdT rows sz n)
    · have := s1 h
      rw [if_pos h, if_neg (by omega), e]
    · have := s2 h
      rw [if_neg h, if_pos (by omega)]
      unfold wds
      rw [along_snoc (d.trR_ne hne)]
      unfold wds at e
      rw [← e]
      obtain ⟨b, hb⟩ := d.wsR_pre ((fdT rows sz n).getD n []) ((wsT rows sz n).getD n []) (fdT rows sz n) (wsT rows sz n) j
      have hl : n < (wsT rows sz n).length := by
        rw [ih]
        unfold wds
        rw [along_len hne, ← d.lens n (by omega)]
        exact d.go n hn
      rw [hb]
      dsimp only
      rw [getD_left hl]
theorem words : ∀ n, n ≤ N → wsT rows sz n = wds (trT (tbT rows sz N) rows.length n)
  | 0, _ => rfl
  | n + 1, h => d.wsRow (by omega) (words n (by omega)) rows.length (Nat.le_refl _)
/-- what a word does -/
def act (rows : Tab) (sz : Nat) (w : List Nat) : List Nat := w.foldl (fun f c => mul f (rows.getD (c - 97) [])) (List.range sz)
theorem act_snoc (w : List Nat) (c : Nat) : act rows sz (w ++ [c]) = mul (act rows sz w) (rows.getD (c - 97) []) := by
  unfold act; rw [List.foldl_append]; rfl
theorem act_map : ∀ w, Lt rows.length w → IsMap sz (act rows sz w) := by
  refine rev_ind (fun _ => one_map sz) fun w c ih h => ?_
  rw [d.act_snoc]
  have hc := h c (by simp)
  exact mul_map (ih fun x hx => h x (by simp [hx])) (d.maps _ (getD_mem (by omega)))
theorem F_run : ∀ w, Lt rows.length w → (fdT rows sz N).getD (run (tbT rows sz N) 0 w) [] = act rows sz w := by
  refine rev_ind (fun _ => ?_) fun w c ih h => ?_
  · have hp := d.good.pos
    show (fdT rows sz N).getD 0 [] = List.range sz
    rw [← d.Fn hp]; rfl
  · have hc := h c (by simp)
    have hw : Lt rows.length w := fun x hx => h x (by simp [hx])
    rw [run_snoc, d.F_cell (d.good.run_lt w hw) (by omega), ih hw, d.act_snoc]
theorem act_cons {a : Nat} (ha : a < rows.length) : ∀ w, Lt rows.length w → act rows sz ((97 + a) :: w) = mul (rows.getD a []) (act rows sz w) := by
  have hm := d.maps _ (getD_mem ha)
  refine rev_ind (fun _ => ?_) fun w c ih h => ?_
  · show mul (List.range sz) (rows.getD (97 + a - 97) []) = mul (rows.getD a []) (List.range sz)
    rw [show 97 + a - 97 = a by omega, one_mul hm]
    refine list_ext0 (by unfold mul; simp) fun i hi => ?_
    unfold mul
    rw [getD_map (d := 0) hi]
    have : (rows.getD a []).getD i 0 < sz := getD_lt hm (by rw [← hm.1]; exact hi)
    generalize (rows.getD a []).getD i 0 = x at this
    rw [List.getD_eq_getElem?_getD, List.getElem?_range this]; rfl
  · have hw : Lt rows.length w := fun x hx => h x (by simp [hx])
    rw [← List.cons_append, d.act_snoc, ih hw, d.act_snoc, mul_assoc hm (d.act_map w hw)]
theorem F_inj {a b : Nat} (ha : a < N) (hb : b < N) (h : (fdT rows sz N).getD a [] = (fdT rows sz N).getD b []) : a = b := by
  have ha' : a < (fdT rows sz N).length := by rw [d.stop]; exact ha
  have hb' : b < (fdT rows sz N).length := by rw [d.stop]; exact hb
  rw [List.getD_eq_getElem?_getD, List.getD_eq_getElem?_getD, List.getElem?_eq_getElem ha', List.getElem?_eq_getElem hb'] at h
  exact (List.getElem_inj (fdT_nodup N)).mp h
theorem prod : Prod (tbT rows sz N) rows.length N := by
  have g := d.good
  refine g.prod_of fun a n l ha hn hl => ?_
  have hv := d.cell_lt hn hl
  have l1 : ∀ k, k < N → Lt rows.length ((97 + a) :: W (tbT rows sz N) rows.length N k) := fun k hk c hc => by
    rcases List.mem_cons.mp hc with hc | hc
    · omega
    · exact g.ltW k hk c hc
  have r1 := g.run_lt _ (l1 n hn)
  refine d.F_inj (g.run_lt _ (l1 _ hv)) (d.cell_lt r1 hl) ?_
  rw [d.F_run _ (l1 _ hv), d.act_cons ha _ (g.ltW _ hv), ← d.F_run _ (g.ltW _ hv), g.runW _ hv, d.F_cell hn hl, d.F_cell r1 hl, d.F_run _ (l1 n hn), d.act_cons ha _ (g.ltW n hn), ← d.F_run _ (g.ltW n hn), g.runW n hn,
    mul_assoc (d.maps _ (getD_mem ha)) (d.Fm hn)]
theorem run_idx {w : List Nat} (hw : Lt rows.length w) : (fdT rows sz N).idxOf (act rows sz w) = run (tbT rows sz N) 0 w := by
  have hr := d.good.run_lt w hw
  have hm : act rows sz w ∈ fdT rows sz N := by
    rw [← d.F_run w hw]; exact getD_mem (by rw [d.stop]; exact hr)
  have h2 := List.idxOf_lt_length_iff.mpr hm
  rw [d.stop] at h2
  refine d.F_inj h2 hr ?_
  rw [getD_idx hm, d.F_run w hw]
end Done
end
end Mon
namespace Mon
theorem sorted_ext {α : Type} {R : α → α → Prop} (irr : ∀ a, ¬ R a a) (tr : ∀ {a b c}, R a b → R b c → R a c) : ∀ {l k : List α}, l.Pairwise R → k.Pairwise R → (∀ x, x ∈ l ↔ x ∈ k) → l = k
  | [], [], _, _, _ => rfl
  | [], b :: k, _, _, h => absurd ((h b).mpr List.mem_cons_self) (by simp)
  | a :: l, [], _, _, h => absurd ((h a).mp List.mem_cons_self) (by simp)
  | a :: l, b :: k, h1, h2, h => by
    rw [List.pairwise_cons] at h1 h2
    have hab : a = b := by
      rcases List.mem_cons.mp ((h a).mp List.mem_cons_self) with e | e
      · exact e
      · rcases List.mem_cons.mp ((h b).mpr List.mem_cons_self) with e2 | e2
        · exact e2.symm
        · exact absurd (tr (h1.1 b e2) (h2.1 a e)) (irr a)
    subst hab
    rw [sorted_ext irr tr h1.2 h2.2 fun x => ?_]
    constructor
    · intro hx
      rcases List.mem_cons.mp ((h x).mp (List.mem_cons_of_mem _ hx)) with e | e
      · subst e; exact absurd (h1.1 x hx) (irr x)
      · exact e
    · intro hx
      rcases List.mem_cons.mp ((h x).mpr (List.mem_cons_of_mem _ hx)) with e | e
      · subst e; exact absurd (h2.1 x hx) (irr x)
      · exact e
/-- all words of t letters, in order -/
def wl (m : Nat) : Nat → List (List Nat)
  | 0 => [[]]
  | t + 1 => (wl m t).flatMap fun w => (List.range m).map fun l => w ++ [97 + l]
theorem mem_wl {m : Nat} : ∀ (t : Nat) (w : List Nat), w ∈ wl m t ↔ Lt m w ∧ w.length = t
  | 0, w => by
    show w ∈ [[]] ↔ _
    rw [List.mem_singleton]
    constructor
    · intro h; subst h; exact ⟨(fun c hc => by cases hc), rfl⟩
    · intro h; exact List.length_eq_zero_iff.mp h.2
  | t + 1, w => by
    unfold wl
    rw [List.mem_flatMap]
    constructor
    · rintro ⟨u, hu, hw⟩
      obtain ⟨l, hl, rfl⟩ := List.mem_map.mp hw
      obtain ⟨h1, h2⟩ := (mem_wl t u).mp hu
      refine ⟨fun c hc => ?_, by simp [h2]⟩
      rcases List.mem_append.mp hc with hc | hc
      · exact h1 c hc
      · rw [List.mem_singleton.mp hc]
        have := List.mem_range.mp hl
        omega
    · rintro ⟨h1, h2⟩
      rcases List.eq_nil_or_concat w with rfl | ⟨u, c, rfl⟩
      · cases h2
      · rw [List.concat_eq_append] at *
        have hc := h1 c (by simp)
        refine ⟨u, (mem_wl t u).mpr ⟨fun d hd => h1 d (by simp [hd]), by simpa using h2⟩, List.mem_map.mpr ⟨c - 97, List.mem_range.mpr (by omega), ?_⟩⟩
        rw [show 97 + (c - 97) = c by omega]
theorem wl_sorted {m : Nat} : ∀ t, (wl m t).Pairwise slt
  | 0 => List.pairwise_singleton _ _
  | t + 1 => by
    unfold wl
    rw [List.pairwise_flatMap]
    refine ⟨fun u hu => ?_, (wl_sorted t).imp fun {a b} hab x hx y hy => ?_⟩
    · rw [List.pairwise_map]
      exact List.pairwise_lt_range.imp fun h => slt_last _ (by omega)
    · obtain ⟨l, _, rfl⟩ := List.mem_map.mp hx
      obtain ⟨l', _, rfl⟩ := List.mem_map.mp hy
      exact slt_app _ _ hab
/-- the parts of a word that are shorter than it -/
def parts (w : List Nat) : List (List Nat) := (List.range w.length).flatMap fun b => ((List.range (w.length + 1 - b)).filter fun i => decide (i < w.length)).map fun i => (w.drop b).take i
theorem mem_parts {w x : List Nat} : x ∈ parts w ↔ ∃ b i, b < w.length ∧ b + i ≤ w.length ∧ i < w.length ∧ x = (w.drop b).take i := by
  unfold parts
  rw [List.mem_flatMap]
  constructor
  · rintro ⟨b, hb, h⟩
    obtain ⟨i, hi, rfl⟩ := List.mem_map.mp h
    have h1 := List.mem_range.mp hb
    have h2 := List.mem_filter.mp hi
    have h3 := List.mem_range.mp h2.1
    exact ⟨b, i, h1, by omega, of_decide_eq_true h2.2, rfl⟩
  · rintro ⟨b, i, h1, h2, h3, rfl⟩
    exact ⟨b, List.mem_range.mpr h1, List.mem_map.mpr ⟨i, List.mem_filter.mpr ⟨List.mem_range.mpr (by omega), decide_eq_true h3⟩, rfl⟩⟩
section
variable {T : Tab} {m N : Nat}
theorem Good.mem_wds (g : Good T m N) {w : List Nat} : w ∈ wds (tree T m N) ↔ Known T m N w := by
  rw [List.mem_iff_getElem?]
  constructor
  · rintro ⟨k, hk⟩
    have h1 : k < N := by
      rw [← g.wlen]
      exact (List.getElem?_eq_some_iff.mp hk).1
    exact ⟨k, h1, by unfold W; rw [List.getD_eq_getElem?_getD, hk]; rfl⟩
  · rintro ⟨k, hk, e⟩
    have h1 : k < (wds (tree T m N)).length := by rw [g.wlen]; exact hk
    refine ⟨k, ?_⟩
    unfold W at e
    rw [List.getD_eq_getElem?_getD, List.getElem?_eq_getElem h1] at e
    rw [List.getElem?_eq_getElem h1]
    exact congrArg some e
theorem Good.known_nil (g : Good T m N) : Known T m N [] := ⟨0, g.pos, g.W0⟩
theorem Good.known_lt (g : Good T m N) {w : List Nat} (h : Known T m N w) : Lt m w := by
  obtain ⟨k, hk, rfl⟩ := h
  exact g.ltW k hk
theorem Good.known_tl (g : Good T m N) (p : Prod T m N) {c : Nat} {w : List Nat} (h : Known T m N (c :: w)) : Known T m N w := by
  have hl := g.known_lt h
  obtain ⟨k, hk, e⟩ := h
  have := g.tail p hk e
  exact ⟨_, g.run_lt w fun d hd => hl d (List.mem_cons_of_mem _ hd), this⟩
theorem Good.known_drop (g : Good T m N) (p : Prod T m N) : ∀ (b : Nat) (w : List Nat), Known T m N w → Known T m N (w.drop b)
  | 0, w, h => by rw [List.drop_zero]; exact h
  | b + 1, [], h => by rw [List.drop_nil]; exact h
  | b + 1, c :: w, h => by rw [List.drop_succ_cons]; exact g.known_drop p b w (g.known_tl p h)
theorem Good.known_init (g : Good T m N) {c : Nat} {w : List Nat} (h : Known T m N (w ++ [c])) : Known T m N w := by
  obtain ⟨k, hk, e⟩ := h
  by_cases h0 : k = 0
  · subst h0; rw [g.W0] at e; exact absurd e.symm (by simp)
  · rw [g.Wk (by omega) hk] at e
    have := (List.append_inj_left' e rfl)
    exact ⟨_, (g.fst (by omega) hk).2.2.2, this⟩
theorem Good.known_pre (g : Good T m N) (u : List Nat) : ∀ v, Known T m N (u ++ v) → Known T m N u := by
  refine rev_ind (fun h => by rwa [List.append_nil] at h) fun v c ih h => ?_
  rw [← List.append_assoc] at h
  exact ih (g.known_init h)
theorem Good.known_take (g : Good T m N) {w : List Nat} (i : Nat) (h : Known T m N w) : Known T m N (w.take i) :=
  g.known_pre _ (w.drop i) (by rw [List.take_append_drop]; exact h)
/-- what the listing by words asks of a word -/
def PP (T : Tab) (m N : Nat) (w : List Nat) : Prop := W T m N (run T 0 w) ≠ w ∧ ∀ x ∈ parts w, x ∈ wds (tree T m N)
instance : Decidable (PP T m N w) := inferInstanceAs (Decidable (_ ∧ _))
theorem Good.pp_of_rule (g : Good T m N) (p : Prod T m N) {n l : Nat} (hn : n < N) (hl : l < m) (h : rule T m N n l = true) : PP T m N (W T m N n ++ [97 + l]) := by
  obtain ⟨h1, h2⟩ := (g.rule_iff p hn hl).mp h
  refine ⟨fun e => h1 ((g.known_iff (g.Lt_snoc hn hl)).mpr e), fun x hx => g.mem_wds.mpr ?_⟩
  obtain ⟨b, i, hb, hbi, hi, rfl⟩ := mem_parts.mp hx
  cases b with
  | zero =>
    rw [List.drop_zero]
    simp at hi
    rw [List.take_append_of_le_length (by omega)]
    exact g.known_take _ ⟨n, hn, rfl⟩
  | succ b =>
    have e : (W T m N n ++ [97 + l]).drop (b + 1) = (W T m N n ++ [97 + l]).tail.drop b := by rw [← List.drop_one, List.drop_drop, Nat.add_comm]
    rw [e]
    exact g.known_take _ (g.known_drop p _ _ h2)
theorem Good.rule_of_pp (g : Good T m N) (p : Prod T m N) {w : List Nat} (hw : Lt m w) (h0 : w ≠ []) (h : PP T m N w) : ∃ n l, n < N ∧ l < m ∧ rule T m N n l = true ∧ w = W T m N n ++ [97 + l] := by
  obtain ⟨h1, h2⟩ := h
  rcases List.eq_nil_or_concat w with rfl | ⟨u, c, rfl⟩
  · exact absurd rfl h0
  · rw [List.concat_eq_append] at *
    have hc := hw c (by simp)
    have hu : Known T m N u := g.mem_wds.mp (h2 u (mem_parts.mpr ⟨0, u.length, by simp, by simp, by simp, by simp⟩))
    obtain ⟨n, hn, rfl⟩ := hu
    have ec : 97 + (c - 97) = c := by omega
    refine ⟨n, c - 97, hn, by omega, (g.rule_iff p hn (by omega)).mpr ?_, by rw [ec]⟩
    rw [ec]
    refine ⟨fun k => h1 ((g.known_iff hw).mp k), ?_⟩
    by_cases hl : (W T m N n ++ [c]).length = 1
    · have e : (W T m N n ++ [c]).tail = [] := by
        have : W T m N n = [] := List.length_eq_zero_iff.mp (by simpa using hl)
        rw [this]; rfl
      rw [e]; exact g.known_nil
    · refine g.mem_wds.mp (h2 _ (mem_parts.mpr ⟨1, (W T m N n ++ [c]).length - 1, ?_, ?_, ?_, ?_⟩))
      · have : 0 < (W T m N n ++ [c]).length := by simp
        omega
      · have : 0 < (W T m N n ++ [c]).length := by simp
        omega
      · have : 0 < (W T m N n ++ [c]).length := by simp
        omega
      · rw [List.drop_one, List.take_of_length_le (by rw [List.length_tail]; exact Nat.le_refl _)]
/-- the rules found by going through all words -/
def byW (T : Tab) (m N most : Nat) : List (List Nat × List Nat) := (List.range most).flatMap fun t => ((wl m (t + 1)).filter fun w => decide (PP T m N w)).map fun w => (w, W T m N (run T 0 w))
theorem Good.byW_eq (g : Good T m N) (p : Prod T m N) (most : Nat) : (rules T m N).filter (fun x => decide (x.1.length ≤ most)) = byW T m N most := by
  refine sorted_ext (R := fun a b => slt a.1 b.1) (fun a => slt_irr a.1) (fun {a b c} h h' => slt_trans (u := a.1) (v := b.1) (w := c.1) h h') (g.rules_sorted.filter _) ?_ fun x => ?_
  · unfold byW
    rw [List.pairwise_flatMap]
    refine ⟨fun t _ => ?_, List.pairwise_lt_range.imp fun {a b} hab x hx y hy => ?_⟩
    · rw [List.pairwise_map]
      exact (wl_sorted _).filter _
    · obtain ⟨u, hu, rfl⟩ := List.mem_map.mp hx
      obtain ⟨v, hv, rfl⟩ := List.mem_map.mp hy
      have h1 := ((mem_wl _ u).mp (List.mem_filter.mp hu).1).2
      have h2 := ((mem_wl _ v).mp (List.mem_filter.mp hv).1).2
      exact .inl (by dsimp only; omega)
  · unfold byW rules
    rw [List.mem_filter, List.mem_flatMap, List.mem_flatMap]
    constructor
    · rintro ⟨⟨n, hn, hx⟩, hlen⟩
      obtain ⟨l, hl, rfl⟩ := List.mem_map.mp hx
      have hn := List.mem_range.mp hn
      obtain ⟨hl, hr⟩ := List.mem_filter.mp hl
      have hl := List.mem_range.mp hl
      have hlen := of_decide_eq_true hlen
      dsimp only at hlen
      have hpos : 0 < (W T m N n ++ [97 + l]).length := by simp
      refine ⟨(W T m N n ++ [97 + l]).length - 1, List.mem_range.mpr (by omega), List.mem_map.mpr ⟨W T m N n ++ [97 + l], List.mem_filter.mpr ⟨(mem_wl _ _).mpr ⟨g.Lt_snoc hn hl, by omega⟩, decide_eq_true (g.pp_of_rule p hn hl hr)⟩, ?_⟩⟩
      rw [g.run_longer hn]
    · rintro ⟨t, ht, hx⟩
      obtain ⟨w, hw, rfl⟩ := List.mem_map.mp hx
      obtain ⟨hw, hp⟩ := List.mem_filter.mp hw
      obtain ⟨hw, hlen⟩ := (mem_wl _ _).mp hw
      have ht := List.mem_range.mp ht
      have h0 : w ≠ [] := fun e => by subst e; cases hlen
      obtain ⟨n, l, hn, hl, hr, rfl⟩ := g.rule_of_pp p hw h0 (of_decide_eq_true hp)
      refine ⟨⟨n, List.mem_range.mpr hn, List.mem_map.mpr ⟨l, List.mem_filter.mpr ⟨List.mem_range.mpr hl, hr⟩, by rw [g.run_longer hn]⟩⟩, decide_eq_true ?_⟩
      dsimp only
      omega
/-- the law's own listing of rules -/
def due (T : Tab) (m N : Nat) (ws : List (List Nat)) : List (List Nat × List Nat) := (List.range N).flatMap fun n => ((List.range m).filter fun l => decide (ws.getD n [] ++ [97 + l] ∉ ws ∧ (ws.getD n [] ++ [97 + l]).tail ∈ ws)).map fun l => (ws.getD n [] ++ [97 + l], ws.getD (at2 T n l) [])
theorem flatMap_congr' {α β : Type} {f h : α → List β} : ∀ l : List α, (∀ a ∈ l, f a = h a) → l.flatMap f = l.flatMap h
  | [], _ => rfl
  | a :: l, e => by rw [List.flatMap_cons, List.flatMap_cons, e a List.mem_cons_self, flatMap_congr' l fun b hb => e b (List.mem_cons_of_mem _ hb)]
theorem Good.due_eq (g : Good T m N) (p : Prod T m N) : due T m N (wds (tree T m N)) = rules T m N := by
  unfold due rules
  refine flatMap_congr' _ fun n hn => ?_
  have hn := List.mem_range.mp hn
  have e : (List.range m).filter (fun l => decide ((wds (tree T m N)).getD n [] ++ [97 + l] ∉ wds (tree T m N) ∧ ((wds (tree T m N)).getD n [] ++ [97 + l]).tail ∈ wds (tree T m N))) = (List.range m).filter (rule T m N n) := by
    refine List.filter_congr fun l hl => ?_
    have hl := List.mem_range.mp hl
    have h := g.rule_iff p hn hl
    cases hr : rule T m N n l with
    | true => exact decide_eq_true ⟨fun z => (h.mp hr).1 (g.mem_wds.mp z), g.mem_wds.mpr (h.mp hr).2⟩
    | false => exact decide_eq_false fun z => by rw [h.mpr ⟨fun k => z.1 (g.mem_wds.mpr k), g.mem_wds.mp z.2⟩] at hr; cases hr
  rw [e]
  rfl
end
theorem Good.W_len {T : Tab} {m N : Nat} (g : Good T m N) : ∀ k, k < N → (W T m N k).length ≤ k := fun k => by
  induction k using Nat.strongRecOn with
  | _ k ih =>
    intro h
    by_cases h0 : k = 0
    · subst h0; rw [g.W0]; exact Nat.le_refl _
    · have f := g.fst (by omega) h
      rw [g.Wk (by omega) h, List.length_append]
      have := ih _ f.1 f.2.2.2
      show _ + 1 ≤ k
      omega
theorem Good.Lf_lt {T : Tab} {m N : Nat} (g : Good T m N) {k : Nat} (hk : k < N) : ∀ x ∈ Lf T m N k, x < N := fun x hx => by
  obtain ⟨a, ha⟩ := List.mem_iff_getElem?.mp hx
  have h1 : a < (Lf T m N k).length := (List.getElem?_eq_some_iff.mp ha).1
  rw [g.Lf_len k hk] at h1
  have e := g.Lf_run k hk a h1
  rw [List.getD_eq_getElem?_getD, ha] at e
  have e2 : x = run T 0 ((97 + a) :: W T m N k) := e
  rw [e2]
  refine g.run_lt _ fun c hc => ?_
  rcases List.mem_cons.mp hc with hc | hc
  · omega
  · exact g.ltW k hk c hc
/-! ### tables that are written -/
instance : Decidable (Ord T m N) := inferInstanceAs (Decidable (∀ n, n < N → _ ∧ ∀ j, j < m → _))
instance : Decidable (Prod T m N) := decidable_of_iff (∀ n, n < N → ∀ l, l < m → Lf T m N (at2 T n l) = (Lf T m N n).map fun k => at2 T k l) ⟨fun h n l hn hl => h n hn l hl, fun h n hn l hl => h n l hn hl⟩
def okT (T : Tab) (m N : Nat) : Bool := decide (0 < N) && decide (Ord T m N) && decide (∀ n, n < N → ∀ l, l < m → at2 T n l < N) && decide (∀ n, n < N → (T.getD n []).length = m) && decide (Prod T m N)
theorem ok_good {T : Tab} {m N : Nat} (h : okT T m N = true) : Good T m N ∧ Prod T m N := by
  unfold okT at h
  simp only [Bool.and_eq_true, decide_eq_true_eq] at h
  obtain ⟨⟨⟨⟨h1, h2⟩, h3⟩, h4⟩, h5⟩ := h
  exact ⟨⟨h1, h2, fun n l hn hl => h3 n hn l hl, h4⟩, h5⟩
theorem ok1 : okT [[0, 0, 0, 0, 0, 0]] 6 1 = true := by decide +kernel
theorem ok2 : okT [[1, 1], [1, 1]] 2 2 = true := by decide +kernel
def ring : Tab := (List.range 39).map (fun n => [n + 1]) ++ [[7]]
theorem ok3 : okT ring 1 40 = true := by decide +kernel
theorem r1 : rules [[0, 0, 0, 0, 0, 0]] 6 1 = [([97], []), ([98], []), ([99], []), ([100], []), ([101], []), ([102], [])] := by decide +kernel
theorem r2 : rules [[1, 1], [1, 1]] 2 2 = [([98], [97]), ([97, 97], [97])] := by decide +kernel
theorem r3 : rules ring 1 40 = [(List.replicate 40 97, List.replicate 7 97)] := by decide +kernel
end Mon
/-! sorted(xs, key=lambda pair: (len(pair[0]), pair[0])) of pairs of texts that stand in that order already. -/
namespace My
open PySem PySem.Spec L2 SX LamX
open PyProof.Rows hiding St
section
variable {prog : Program} {w : World} {A : Around} {s : Shared} {env : Env} {mg mb m : Str → Option Value} {T : Addr} {z y : Str} {t t2 : Tok}
/-- pair[0] -/
theorem key_part {ck : Nat} {q2 q3 q4 : Pos} {Q : Value → Shared → Prop} {E : Value → Shared → Prop} (hk : env.scope.kind = .function) (hl : env.kindOf "pair" = some .local) (hn : s.heap.Ns env.locals m) (hm : m "pair" = some (.ref T))
    (hT : s.heap.IsTuple T #[.str z t, .str y t2]) (h : ∀ tk, Q (.str z t) { s with toks := tk }) :
    wpAny (model prog w) A (eval (.Subscript (.Name "pair" q2) (.Constant (.int 0) ck q3) q4) env) Q E s := by
  refine Subscript_ (wpAny_Name (wpAny_loadName_local hk hl hn hm (wpAny_Constant_int ?_)) (by decide))
  have hT2 : (({ s with toks := s.toks + 1 } : Shared)).heap.IsTuple T #[.str z t, .str y t2] := hT
  refine subscriptTail_builtinR (x := .str z t) hT2.typeIs slot_tuple_getitem.lookup (getItem_tuple (j := 0) (Q := fun r s' => r = .str z t ∧ Q r s') hT2 (by decide) (by decide) (by rfl) rfl ⟨rfl, h _⟩) (by rfl)
/-- the key's expression -/
def keyE (c1 c2 c3 : Nat) (q1 q2 q3 q4 q5 q6 q7 q8 q9 : Pos) : Expr := .Tuple [.Call (.Name "len" q1) [.Subscript (.Name "pair" q2) (.Constant (.int 0) c1 q3) q4] [] q5, .Subscript (.Name "pair" q6) (.Constant (.int 0) c2 q7) q8] c3 q9
theorem key_body {c1 c2 c3 : Nat} {q1 q2 q3 q4 q5 q6 q7 q8 q9 : Pos} {E : Value → Shared → Prop} (hk : env.scope.kind = .function) (hl : env.kindOf "pair" = some .local) (hn : s.heap.Ns env.locals m) (hm : m "pair" = some (.ref T))
    (hg : env.kindOf "len" = some .globalImplicit) (hG : s.heap.Ns env.globals mg) (hG0 : mg "len" = none) (hB : s.heap.Ns env.builtins mb) (hB0 : mb "len" = some (.builtin "len")) (hz : z.length ≤ 100000)
    (hT : s.heap.IsTuple T #[.str z t, .str y t2]) :
    wpAny (model prog w) A (eval (keyE c1 c2 c3 q1 q2 q3 q4 q5 q6 q7 q8 q9) env) (PySem.W.KeyPure (.tuple [.int z.length, .str z]) s) E s := by
  unfold keyE
  refine wpAny_Tuple_spliced ?_
  show wpAny _ _ (spliced ((false, eval _ env) :: (false, eval _ env) :: [])) _ _ s
  refine Calls.spliced_cons (wpAny_Call_Name_kw (Calls.Name_function_global hk hg (Calls.loadGlobal_builtin hG hG0 hB hB0 ?_) (by decide)))
  refine PyProof.Rows.callWith_builtin1 (Calls.spliced_cons (key_part hk hl hn hm hT fun tk => Calls.spliced_nil ?_)) (by rfl) (by rfl)
  refine len_str (by omega) ?_
  refine Calls.spliced_cons (key_part (s := { s with toks := tk + 1 + 1 }) hk hl hn hm hT fun tk2 => Calls.spliced_nil ⟨(by show 2 ≤ sizeLine; decide), ?_⟩)
  refine ⟨_, _, rfl, fun b o e => Heap.get?_push_of_some _ e, ?_⟩
  refine Reads.tuple (Heap.get?_push_size _ rfl) rfl rfl ?_
  exact (ReadsAll.cons (.int _ _) (ReadsAll.cons (.str _ _) .nil) : ReadsAll _ _ _ ([] ++ ([] ++ [])))
/-- the lambda called with a pair -/
theorem key_call {c1 c2 c3 : Nat} {q1 q2 q3 q4 q5 q6 q7 q8 q9 : Pos} {f c' : Addr} {q : Str} {params : Arguments} {scope : Scope} {pm ctv : Value} {P : Program} {w : World} (hA : A.depth < recursionLimit)
    (of1 : s.heap.get? f = some (PySem.W.kla_obj "<lambda>" q params (keyE c1 c2 c3 q1 q2 q3 q4 q5 q6 q7 q8 q9) scope [] pm c' ctv)) (S : FnScope ["pair"] ["pair"] scope) (hloc : scope.names.lookup ("pair" : Str) = some NameKind.local) (hlen : scope.names.lookup ("len" : Str) = some NameKind.globalImplicit)
    (hrec : s.heap.CodeRec (.ref c') q) (hbind : bindArgs (PySem.W.kla_fn "<lambda>" q params (keyE c1 c2 c3 q1 q2 q3 q4 q5 q6 q7 q8 q9) scope [] pm (.ref c') ctv) ⟨[.ref T], []⟩ = pure [(("pair" : Str), Value.ref T)])
    (lim : s.heap.NoLimit) (hG : s.heap.Ns mainGlobals mg) (hG0 : mg "len" = none) (hB : s.heap.Ns builtinsNs mb) (hB0 : mb "len" = some (.builtin "len")) (hz : z.length ≤ 100000) (hT : s.heap.IsTuple T #[.str z t, .str y t2]) :
    wpAny (model P w) A (call (.ref f) [.ref T]) (PySem.W.KeyPure (.tuple [.int z.length, .str z]) s) (fun _ _ => False) s := by
  refine wpAny_call (PySem.W.kla_callFunE hA of1 rfl S.co S.gen rfl hrec ?_)
  rw [hbind]
  refine wpAny_pure (wpAny_newFunctionEnv_cells S.kind (fun y hy => ?_) fun env he s1 x => ?_)
  · obtain rfl : y = (("pair" : Str), Value.ref T) := List.mem_singleton.mp hy
    exact .inl hloc
  · subst he
    obtain ⟨h1, tk, rfl, hk⟩ := id x.done
    refine ⟨lim.keeps hk, PySem.W.kla_codeExpr ?_⟩
    refine wpAny_mono (key_body (T := T) (z := z) (y := y) (t := t) (t2 := t2) (mg := mg) (mb := mb) (m := bindL (fun y => scope.names.lookup y) [(("pair" : Str), Value.ref T)] fun _ => none) S.kind hloc x.toInCall.ns ?_ hlen (hG.keeps hk) hG0 (hB.keeps hk) hB0 hz (let ⟨o, e, r⟩ := hT; ⟨o, hk _ _ e, r⟩)) (fun v s' hq => ?_) (fun _ _ z => z)
    · simp [bindL, hloc]
    · obtain ⟨h2, tk2, rfl, hk2, r⟩ := hq
      exact ⟨h2, tk2, rfl, fun b o e => hk2 b o (hk b o e), r⟩
end
/-! ### the order -/
def keyD (b : List Nat × List Nat) : PyData := .tuple [.int ((b.1.length : Nat) : Int), .str (S b.1)]
instance (u v : List Nat) : Decidable (Mon.slt u v) := inferInstanceAs (Decidable (_ ∨ _))
theorem key_lt (x y : List Nat × List Nat) : PySem.W.dataLt (keyD x) (keyD y) = decide (Mon.slt x.1 y.1) := by
  unfold keyD
  rw [PySem.W.dataLt_pair (by simp [PySem.W.alike]) (by simp [PySem.W.alike]), PySem.W.dataLt_int, PySem.W.dataLt_str, eqStr]
  have e1 : PyData.eqv (.int ((x.1.length : Nat) : Int)) (.int ((y.1.length : Nat) : Int)) = decide (x.1.length = y.1.length) := by
    simp only [PyData.eqv]
    by_cases h : x.1.length = y.1.length
    · simp [h]
    · have h2 : ¬ ((x.1.length : Int) = (y.1.length : Int)) := by omega
      simp [h, h2]
  rw [e1]
  unfold Mon.slt
  by_cases h : x.1.length = y.1.length
  · have h0 : ¬ x.1.length < y.1.length := by omega
    by_cases h2 : x.1 = y.1
    · simp [h, h2, List.lt_irrefl]
    · simp [h, h2]
  · simp [h]
theorem key_sorted {bs : List (List Nat × List Nat)} {xs : List V} (hl : xs.length = bs.length) (h : bs.Pairwise fun a b => Mon.slt a.1 b.1) : (xs.zip bs).mergeSort (PySem.W.dataLe false fun p : V × (List Nat × List Nat) => keyD p.2) = xs.zip bs := by
  refine List.mergeSort_of_pairwise ?_
  have h2 : ((xs.zip bs).map Prod.snd).Pairwise fun a b => Mon.slt a.1 b.1 := by rw [List.map_snd_zip (by omega)]; exact h
  rw [List.pairwise_map] at h2
  refine h2.imp fun {a b} hab => ?_
  show (!PySem.W.dataLt (keyD b.2) (keyD a.2)) = true
  rw [key_lt, Bool.not_eq_true']
  exact decide_eq_false fun z => Mon.slt_irr _ (Mon.slt_trans hab z)
theorem each_of {bs : List (List Nat × List Nat)} : ∀ {xs : List V} {us : List Value} {bs : List (List Nat × List Nat)}, Vals xs us → xs.length = bs.length → PySem.W.EachIs (fun u (p : V × (List Nat × List Nat)) => RelV p.1 u) us (xs.zip bs)
  | [], _, [], r, _ => by cases r; exact .nil
  | [], _, _ :: _, _, h => by cases h
  | x :: xs, _, [], _, h => by cases h
  | x :: xs, _, b :: bs, r, h => by
    cases r with
    | cons r1 r2 => exact .cons r1 (each_of (bs := bs) r2 (by simpa using h))
theorem vals_of {bs : List (List Nat × List Nat)} : ∀ {xs : List V} {us : List Value} {bs : List (List Nat × List Nat)}, xs.length = bs.length → PySem.W.EachIs (fun u (p : V × (List Nat × List Nat)) => RelV p.1 u) us (xs.zip bs) → Vals xs us
  | [], us, bs, _, e => by
    have h : us.length = 0 := by rw [e.length]; simp
    rw [List.length_eq_zero_iff.mp h]
    exact .nil
  | x :: xs, us, [], h, _ => by cases h
  | x :: xs, us, b :: bs, h, e => by
    rw [List.zip_cons_cons] at e
    cases e with
    | cons e1 e2 => exact .cons e1 (vals_of (bs := bs) (by simpa using h) e2)
/-- the items of xs are pairs of texts -/
def Pairs (K : PySem.W.Frag) (H : Hp) (xs : List V) (bs : List (List Nat × List Nat)) : Prop := xs.length = bs.length ∧ ∀ (i : Nat) (b : List Nat × List Nat), bs[i]? = some b → ∃ T, xs[i]? = some (.ref T) ∧ SqT K H T [.str (S b.1), .str (S b.2)]
theorem SqL.extN {K : PySem.W.Frag} {H H' : Hp} {a : Addr} {xs : List V} (h : SqL K H a xs) (e : ExtN H H') : SqL K H' a xs := by
  rcases h with (h | ⟨o, h⟩) | h
  · exact .inl (.inl (e _ _ h fun ps z => by cases z))
  · exact .inl (.inr ⟨o, e _ _ h fun ps z => by cases z⟩)
  · exact .inr h
theorem SqT.extN {K : PySem.W.Frag} {H H' : Hp} {a : Addr} {xs : List V} (h : SqT K H a xs) (e : ExtN H H') : SqT K H' a xs := by
  rcases h with (h | ⟨o, h⟩) | h
  · exact .inl (.inl (e _ _ h fun ps z => by cases z))
  · exact .inl (.inr ⟨o, e _ _ h fun ps z => by cases z⟩)
  · exact .inr h
theorem Pairs.extN {K : PySem.W.Frag} {H H' : Hp} {xs : List V} {bs : List (List Nat × List Nat)} (h : Pairs K H xs bs) (e : ExtN H H') : Pairs K H' xs bs := ⟨h.1, fun i b hb => let ⟨T, e1, e2⟩ := h.2 i b hb; ⟨T, e1, SqT.extN e2 e⟩⟩
def tSortLam (K : PySem.W.Frag) (TT : List (Addr × Str)) (t : TA) : TE := fun σ H Q => t σ H fun vs H1 => ∃ (a : Addr) (xs : List V) (bs : List (List Nat × List Nat)), vs = [.ref a] ∧ SqL K H1 a xs ∧ Pairs K H1 xs bs ∧ bs.length ≤ 100000 ∧ (∀ b ∈ bs, b.1.length ≤ 100000) ∧ (bs.Pairwise fun a b => Mon.slt a.1 b.1) ∧ Tabs TT H1 ∧
  ∀ p H2, ExtN H1 H2 → Tabs TT H2 → H2 p = none → Q (.ref p) (L2.upd H2 p (.lst xs))
section
variable {X : Cx}
theorem pe_sortLam {TT : List (Addr × Str)} {c P : Addr} {params : Arguments} {scope : Scope} {k : Nat} {e : Expr} {t : TA} {p pos lpos kpos : Pos} {c1 c2 c3 : Nat} {q1 q2 q3 q4 q5 q6 q7 q8 q9 : Pos}
    (TB : TabB X.base X.mg c P) (hcode : X.env.code = .ref c) (hmT : (P, X.env.qual ++ "<lambda>") ∈ TT) (hu : ∀ p ∈ TT, p.1 = P → p.2 = X.env.qual ++ "<lambda>") (hr : Room k X.A) (hg : Gl X "sorted") (hm : X.mg "sorted" = none) (hml : X.mg "len" = none)
    (S1 : FnScope ["pair"] ["pair"] scope) (hloc : scope.names.lookup ("pair" : Str) = some NameKind.local) (hlen : scope.names.lookup ("len" : Str) = some NameKind.globalImplicit) (hdef : defaultsOf params X.env = ([], [])) (hfree : ∀ y ∈ scope.names, y.2 ≠ .free) (hclo : cloFrom X.env.cells scope.names [] = [])
    (hbind : ∀ (q : Str) (pm cv ctv u : Value), bindArgs (PySem.W.kla_fn "<lambda>" q params (keyE c1 c2 c3 q1 q2 q3 q4 q5 q6 q7 q8 q9) scope [] pm cv ctv) ⟨[u], []⟩ = pure [(("pair" : Str), u)])
    (ha : PA X [e] t) (he : backTo pos (starEach [e] X.env) = (false, eval e X.env) :: backTo pos (starEach [] X.env) := by rfl) (hpl : (backTo pos (starEach [e] X.env)).any (·.1) = false := by rfl) :
    PE X (.Call (.Name "sorted" p) [e] [⟨some "key", .Lambda params (keyE c1 c2 c3 q1 q2 q3 q4 q5 q6 q7 q8 q9) scope lpos, kpos⟩] pos) (tSortLam X.K TT t) := by
  refine ⟨fun pins s σ H Q I h => ?_⟩
  refine wpAny_Call_Name_kw (ld_blt I hg hm boot_sorted ?_)
  refine PyProof.Rows.callWith_kw (thn (ha.run pos pins s σ H _ I h) fun us s1 ⟨vs, H1, I1, r1, q1⟩ => ?_) he hpl
  obtain ⟨a, xs, bs, rfl, hs, hp, hb, hbl, hso, hT, q⟩ := q1
  obtain rfl := Vals.ref1 r1
  show wpAny _ _ (evalAll ((do let v ← eval (.Lambda params (keyE c1 c2 c3 q1 q2 q3 q4 q5 q6 q7 q8 q9) scope lpos) X.env; standAt pos; pure v) :: [])) _ _ s1
  refine wpAny_evalAll_cons (wpAny_bind (lam_make2 I1 TB hcode hmT hu hT hdef (fun y hy e => absurd e (hfree y hy)) fun f c' pm' ctv H2 s2 I2 eN T2 hf hfn hfr hco => wpAny_bind (wpAny_standAt (wpAny_pure (wpAny_evalAll_nil ?_)))))
  show wpAny _ _ (call (.builtin "sorted") [.ref a] [(Str.ofString "key", .ref f)]) _ _ s2
  rw [hclo] at hf
  obtain ⟨its, rv, hl, hz⟩ := I2.list (SqL.extN hs eN)
  have hp2 := hp.extN eN
  obtain ⟨⟨oc, vs, t3, hoc, hdc, hvc⟩, _, _⟩ := I2.hok c' _ hco
  obtain ⟨mb, hb1, hb2⟩ := I2.mod.blt
  have hd := hr.depth
  have hun := hr.units
  have hzl : (xs.zip bs).length = xs.length := by rw [List.length_zip]; have := hp.1; omega
  refine PySem.W.sorted_key_data (β := V × (List Nat × List Nat)) (b := false) (fun p => keyD p.2) hl.isList (each_of (bs := bs) rv hp.1) (PySem.W.AllAlike.of fun _ _ => by simp [keyD, PySem.W.alike, PySem.W.alikeAll]) (PySem.W.Sortable.tuples fun _ => ⟨_, _, rfl⟩) (by rw [hzl]; exact hz)
    (fun x _ => ?_) (PyProof.Rows.ksk_s1 _ _) (fun _ => PyProof.Rows.ksk_l1 _ _) (fun _ => PyProof.Rows.ksk_t1 _ _) (fun v x hR hx h tk kp => ?_) fun out c4 h' tk kp hfr2 hD hlo eo => ?_
  · have e : (keyD x.2).depth = 1 := by simp [keyD, PyData.depth, PyData.depthAll]
    rw [e]; omega
  · obtain ⟨i, hi⟩ := List.mem_iff_getElem?.mp hx
    obtain ⟨xv, b⟩ := x
    rw [List.getElem?_zip_eq_some] at hi
    obtain ⟨T, e1, e2⟩ := hp2.2 i b hi.2
    have e3 : xv = .ref T := by rw [hi.1] at e1; exact Option.some.inj e1
    subst e3
    obtain rfl : v = Value.ref T := hR
    obtain ⟨it2, rv2, pl2, _⟩ := I2.tuple e2
    obtain ⟨u1, u2, rfl, ⟨t1, rfl⟩, ⟨t2, rfl⟩⟩ := vals2 rv2
    have hT2 : h.IsTuple T #[.str (S b.1) t1, .str (S b.2) t2] := let ⟨o, e, r⟩ := pl2; ⟨o, kp _ _ e, r⟩
    have hk := key_call (A := X.A.in1.in1) (P := X.prog) (w := X.w) (s := { s2 with heap := h, toks := tk }) (z := S b.1) (mg := X.mg) (mb := mb) (by exact hd) (kp _ _ hf) S1 hloc hlen ⟨c', oc, vs, t3, rfl, kp _ _ hoc, hdc, hvc⟩ (hbind _ _ _ _ _) (I2.nolimit.keeps kp)
      ((I2.mod.glob.keeps I2.bk).keeps kp) hml ((hb1.keeps I2.bk).keeps kp) ((hb2 "len" (by decide)).trans boot_len) (by rw [S_len]; exact hbl b (List.mem_of_getElem? hi.2)) hT2
    rw [S_len] at hk
    exact hk
  · rw [key_sorted hp.1 hso] at eo
    have rv3 := vals_of (bs := bs) hp.1 eo
    have new : s2.heap.objs.size ≤ s2.heap.objs.size + 1 := Nat.le_succ _
    exact ⟨.ref _, L2.upd H2 (s2.heap.objs.size + 1) (.lst xs), I2.laid (t' := tk) kp new ⟨hz, out, c4, rv3, hD⟩, rfl, q _ _ eN T2 (I2.hok.fresh new)⟩
end
end My
/-! A dict of one pair whose key is a tuple; readings for objects, dicts, tables. -/
namespace My
open PySem PySem.Spec L2 SX
open PyProof.Rows hiding St
def tDisp1T (tk tv : TE) : TE := fun σ H Q => ∀ p, H p = none → tk σ (upd H p (.dT [])) fun x H1 => tv σ H1 fun y H2 => H2 p = some (.dT []) ∧ ∃ (b : Addr) (ks : List Key), x = .ref b ∧ H2 b = some (.tup (ks.map kV)) ∧ Q (.ref p) (upd H2 p (.dT (putK [] ks y)))
section
variable {X : Cx} {k v : Expr} {tk tv : TE} {pos : Pos}
theorem pe_disp1T (hu : X.A.units + 1 < cLine) (hk : PE X k tk) (hv : PE X v tv) : PE X (.Dict [some k] [v] pos) (tDisp1T tk tv) := by
  refine ⟨fun pins s σ H Q I q => ?_⟩
  have hn := I.hok.fresh (Nat.le_refl s.heap.objs.size)
  have I1 := I.laid (a := s.heap.objs.size) (o := .dT []) (h' := s.heap.push { cls := .type "dict", data := .dict #[] }) (t' := s.toks) (fun _ _ e => Heap.get?_push_of_some _ e) (Nat.le_refl _) (dt_empty s.heap I.big)
  rw [arm_eval_Dict, zip_pairTrees [some k] [v] X.env pos rfl rfl, dictDisplay_pairs (pairTrees [some k] [v] X.env pos) (by intro z; cases z) (by show 1 < 17; decide)]
  refine wpAny_bind (wpAny_standAt (wpAny_bind ?_))
  unfold subDict
  refine wpAny_bind (wpAny_alloc ?_)
  refine wpAny_bind (wpAny_holding ?_)
  rw [if_pos (by show 1 ≤ 15; decide)]
  refine wpAny_bind (pairTrees_cons_walk (thn (hk.run pins _ σ _ _ I1 (q _ hn)) fun u s1 ⟨x, H1, I2, rx, q1⟩ => thn (hv.run pins s1 σ H1 _ I2 q1) fun w2 s2 ⟨y, H2, I3, ry, hd, b, ks, ex, eb, q2⟩ => pairTrees_nil_walk ?_))
  subst ex
  obtain rfl : u = Value.ref b := rx
  obtain ⟨z, hm, xs, rel, dd⟩ := dt_of I3.hok hd
  cases rel
  refine wpAny_holding ?_
  rw [List.forIn_cons]
  refine wpAny_bind (wpAny_bind (wpAny_bind (wpAny_dictSet_heap (hsz := Nat.zero_le _) (show X.A.units < cLine by omega) (key_of I3.hok eb) dd fun h' dd' hs => wpAny_pure ?_)))
  dsimp only
  rw [List.forIn_nil]
  refine wpAny_pure (wpAny_pure (wpAny_pure ?_))
  obtain ⟨o, es, ep, e1, e2, e3, e4, _, e5⟩ := dd'
  refine wpAny_pure ⟨.ref s.heap.objs.size, _, d_write I3 (by rw [hd]; exact True.intro) hs ⟨o, e1⟩ ?_, rfl, q2⟩
  refine ⟨by show 1 ≤ sizeLine; decide, hm, _, ?_, o, es, ep, e1, e2, e3, e4, e5⟩
  refine .cons ⟨rfl, ?_, ry⟩ .nil
  rw [upd_ne (ne_of eb hd (fun z => nomatch z))]
  exact eb
end

/-! ### readings -/
section
variable {σ : St} {H : Hp} {Q : VK} {D : Ends} {te ta tb : TE} {t : TA} {v x y : V} {K : PySem.W.Frag} {f m : Str} {C : Addr} {sp : Sp} {E : XK}
def qFld (K : PySem.W.Frag) (f : Str) (x : V) (H1 : Hp) (Q : VK) : Prop := ∃ a C dx fs v, x = .ref a ∧ H1 a = some (.ins C dx fs) ∧ Cls K C ∧ NoAttr K C f ∧ fs.lookup f = some v ∧ Q v H1
theorem rd_fld (h : te σ H fun x H1 => qFld K f x H1 Q) : tFld K te f σ H Q := h
theorem rd_qFld {a dx : Addr} {fs : List (Str × V)} (c : Cls K C) (h : H a = some (.ins C dx fs)) (n : NoAttr K C f) (l : fs.lookup f = some v) (q : Q v H) : qFld K f (.ref a) H Q := ⟨a, C, dx, fs, v, rfl, h, c, n, l, q⟩
def qSFld (K : PySem.W.Frag) (f : Str) (x y : V) (H2 : Hp) (R : Hp → Prop) : Prop := ∃ a C dx fs, x = .ref a ∧ H2 a = some (.ins C dx fs) ∧ Cls K C ∧ NoAttr K C f ∧ fs.length < 1000 ∧ R (upd H2 a (.ins C dx (putF f y fs)))
theorem rd_sFld (h : tb σ H fun y H1 => ta σ H1 fun x H2 => qSFld K f x y H2 fun H3 => D.nx σ H3) : sFld K ta tb f D σ H := h
theorem rd_qSFld {a dx : Addr} {fs : List (Str × V)} {R : Hp → Prop} (c : Cls K C) (h : H a = some (.ins C dx fs)) (n : NoAttr K C f) (l : fs.length < 1000) (q : R (upd H a (.ins C dx (putF f y fs)))) : qSFld K f (.ref a) y H R := ⟨a, C, dx, fs, rfl, h, c, n, l, q⟩
theorem rd_meth (h : te σ H fun x H1 => ∃ a dx fs, x = .ref a ∧ H1 a = some (.ins C dx fs) ∧ fs.lookup m = none ∧ t σ H1 fun vs H2 => sp (x :: vs) H2 Q E) : tMeth C m sp [] E te t σ H Q := by
  show te σ H fun x H1 => ∃ a dx fs, x = .ref a ∧ H1 a = some (.ins C dx fs) ∧ fs.lookup m = none ∧ t σ H1 fun vs H2 => sp (x :: (vs ++ [])) H2 Q E
  simp only [List.append_nil]
  exact h
theorem rd_make (h : t σ H fun vs H1 => ∀ x dx, H1 x = none → H1 dx = none → dx ≠ x → sp (.ref x :: vs) (upd (upd H1 dx (.own x)) x (.ins C dx [])) (fun v H2 => v = .non ∧ Q (.ref x) H2) E) : tMake C sp [] E t σ H Q := by
  show t σ H fun vs H1 => ∀ x dx, H1 x = none → H1 dx = none → dx ≠ x → sp (.ref x :: (vs ++ [])) (upd (upd H1 dx (.own x)) x (.ins C dx [])) (fun v H2 => v = .non ∧ Q (.ref x) H2) E
  simp only [List.append_nil]
  exact h
/-! dicts -/
def qDIn (neg : Bool) (y x : V) (H2 : Hp) (Q : VK) : Prop := ∃ a o, x = .ref a ∧ DGet H2 a y o ∧ Q (.bl (if neg then !o.isSome else o.isSome)) H2
theorem rd_dIn (h : ta σ H fun y H1 => te σ H1 fun x H2 => qDIn false y x H2 Q) : tDIn ta te σ H Q := h
theorem rd_dNotIn (h : ta σ H fun y H1 => te σ H1 fun x H2 => qDIn true y x H2 Q) : tDNotIn ta te σ H Q := h
theorem rd_qInK {neg : Bool} {a : Addr} {kvs : List (Key × V)} (k : Key) (h : H a = some (.dK kvs)) (q : Q (.bl (if neg then !(valV kvs k).isSome else (valV kvs k).isSome)) H) : qDIn neg (kV k) (.ref a) H Q := ⟨a, _, rfl, DGet.k h, q⟩
theorem rd_qInT {neg : Bool} {a b : Addr} {kvs : List (List Key × V)} (k : List Key) (h : H a = some (.dT kvs)) (e : H b = some (.tup (k.map kV))) (q : Q (.bl (if neg then !(valV kvs k).isSome else (valV kvs k).isSome)) H) : qDIn neg (.ref b) (.ref a) H Q := ⟨a, _, rfl, DGet.t h e, q⟩
theorem rd_qGetK {a : Addr} {kvs : List (Key × V)} (k : Key) (h : H a = some (.dK kvs)) (e : valV kvs k = some v) (q : Q v H) : qDGet (.ref a) (kV k) H Q := ⟨a, v, rfl, by have := DGet.k (k := k) h; rw [e] at this; exact this, q⟩
theorem rd_qGetT {a b : Addr} {kvs : List (List Key × V)} (k : List Key) (h : H a = some (.dT kvs)) (eb : H b = some (.tup (k.map kV))) (e : valV kvs k = some v) (q : Q v H) : qDGet (.ref a) (.ref b) H Q := ⟨a, v, rfl, by have := DGet.t (k := k) h eb; rw [e] at this; exact this, q⟩
theorem rd_qPutK {a : Addr} {kvs : List (Key × V)} {R : Hp → Prop} (k : Key) (h : H a = some (.dK kvs)) (hl : kvs.length < 100000) (q : R (upd H a (.dK (putK kvs k v)))) : qDPut (.ref a) (kV k) v H R := ⟨a, _, rfl, DPut.k (k := k) h (szlt hl), q⟩
theorem rd_qPutT {a b : Addr} {kvs : List (List Key × V)} {R : Hp → Prop} (k : List Key) (h : H a = some (.dT kvs)) (eb : H b = some (.tup (k.map kV))) (hl : kvs.length < 100000) (q : R (upd H a (.dT (putK kvs k v)))) : qDPut (.ref a) (.ref b) v H R :=
  ⟨a, _, rfl, by first | exact DPut.t (k := k) h eb (szlt hl) | exact .inr ⟨kvs, k, b, h, rfl, eb, szlt hl, rfl⟩, q⟩
end

/-! ### a def whose code object is told -/
structure FunC (K : PySem.W.Frag) (c : Addr) (x qual : Str) (st : Stmt) (f : Addr) (fd : FuncData) : Prop where
  ex : ∃ (oc : Value) (od : Option Addr) (kV doc pm : Value) (an : Option Addr) (ct : Value) (osl : Array (Option Value)),
    fd = PySem.W.fnOf x qual (defArgs st) (defBody st) (defScope st) .none kV doc pm an (.ref c) ct ∧ K.lookup f = some ⟨oc, od, .func fd, osl⟩ ∧ PySem.W.codeIn K (.ref c) qual = true
section
variable {P : Program} {w : World} {K : PySem.W.Frag} {mg : Str → Option Value} {base : Heap}
theorem FunC.ok {c : Addr} {x qual : Str} {st : Stmt} {f : Addr} {fd : FuncData} {N ps : List Str} {k : Nat} {sp : Sp} (F : FunC K c x qual st f fd) (S1 : FnScope N ps (defScope st)) (len : ∀ vs H Q E, sp vs H Q E → vs.length = ps.length)
    (hbody : ∀ (A : Around) (outer : List Env) (s : Shared) (H : Hp) (vs : List V) (Q : VK) (E : XK), Room k (A.deeper (envOfC qual (defScope st) s.heap.objs.size f (.ref c))) → sp vs H Q E →
      ∃ t, PSs (cxOf L2.CX0 P w K mg base N qual (defScope st) f (.ref c) A outer s H E).nox (defBody st) t ∧ t { nx := fun _ H' => Q .non H', rt := Q } (start N vs) H) : FnOk P w K mg base L2.CX0 (k + 1) f fd ps sp := by
  obtain ⟨oc, od, kV, doc, pm, an, ct, osl, rfl, lk, hcd⟩ := F.ex
  refine fn_of lk hcd S1 len fun A outer s H vs Q E hr hsp => ?_
  obtain ⟨t, h, q⟩ := hbody A outer s H vs Q E hr hsp
  exact ⟨t, h.nox, q⟩
end
/-! ### tables, lists of texts, lists of pairs, as they lie -/
abbrev vI (n : Nat) : V := .int ((n : Nat) : Int)
def rowV (l : List Nat) : List V := l.map vI
def txV (ws : List (List Nat)) : List V := ws.map fun w => V.str (S w)
def refs (as : List Addr) : List V := as.map V.ref
def Bx : Bool → List V → HO
  | true, xs => .tup xs
  | false, xs => .lst xs
/-- lists and tuples are kept -/
def Kq (H H' : Hp) : Prop := (∀ a xs, H a = some (.lst xs) → H' a = some (.lst xs)) ∧ ∀ a xs, H a = some (.tup xs) → H' a = some (.tup xs)
theorem Kq.refl (H : Hp) : Kq H H := ⟨fun _ _ h => h, fun _ _ h => h⟩
theorem Kq.trans {H H1 H2 : Hp} (a : Kq H H1) (b : Kq H1 H2) : Kq H H2 := ⟨fun p xs h => b.1 p xs (a.1 p xs h), fun p xs h => b.2 p xs (a.2 p xs h)⟩
theorem Kq.of {H H' : Hp} (s : Same H H') : Kq H H' := ⟨fun a xs h => s a _ h, fun a xs h => s a _ h⟩
theorem Kq.bx {H H' : Hp} (k : Kq H H') {b : Bool} {a : Addr} {xs : List V} (h : H a = some (Bx b xs)) : H' a = some (Bx b xs) := by
  cases b with
  | true => exact k.2 a xs h
  | false => exact k.1 a xs h
/-- a table: rows in a list or tuple -/
def Tb (b1 b2 : Bool) (H : Hp) (p : Addr) (T : List (List Nat)) : Prop := ∃ as : List Addr, H p = some (Bx b1 (refs as)) ∧ as.length = T.length ∧ ∀ (i : Nat) (a : Addr) (r : List Nat), as[i]? = some a → T[i]? = some r → H a = some (Bx b2 (rowV r))
theorem Tb.kq {b1 b2 : Bool} {H H' : Hp} {p : Addr} {T : List (List Nat)} (h : Tb b1 b2 H p T) (k : Kq H H') : Tb b1 b2 H' p T := by
  obtain ⟨as, h1, h2, h3⟩ := h
  exact ⟨as, k.bx h1, h2, fun i a r e1 e2 => k.bx (h3 i a r e1 e2)⟩
/-- a list of pairs of texts -/
def Prs (H : Hp) (p : Addr) (bs : List (List Nat × List Nat)) : Prop := ∃ as : List Addr, H p = some (.lst (refs as)) ∧ as.length = bs.length ∧ ∀ (i : Nat) (a : Addr) (b : List Nat × List Nat), as[i]? = some a → bs[i]? = some b → H a = some (.tup [.str (S b.1), .str (S b.2)])
theorem Prs.kq {H H' : Hp} {p : Addr} {bs : List (List Nat × List Nat)} (h : Prs H p bs) (k : Kq H H') : Prs H' p bs := by
  obtain ⟨as, h1, h2, h3⟩ := h
  exact ⟨as, k.1 _ _ h1, h2, fun i a r e1 e2 => k.2 _ _ (h3 i a r e1 e2)⟩
theorem same_kq {H H' : Hp} (s : Same H H') : Kq H H' := Kq.of s
theorem kq_new {H H' : Hp} {p : Addr} {o : HO} (k : Kq H H') (n : H' p = none) : Kq H (L2.upd H' p o) := k.trans (Kq.of (Same.new n))
theorem getElem?_refs {as : List Addr} {i : Nat} {a : Addr} (h : as[i]? = some a) : (refs as)[i]? = some (V.ref a) := by unfold refs; rw [List.getElem?_map, h]; rfl
end My
/-! Loops over pairs, comprehensions over tuples. -/
namespace My
open PySem PySem.Spec L2 SX
open PyProof.Rows hiding St
section
variable {σ : St} {H : Hp} {Q : VK} {te : TE} {tt : TT} {vs : List Nat} {K : PySem.W.Frag} {tb : TS} {nx : St → Hp → Prop} {rt : VK} {bk ct : St → Hp → Prop}
abbrev gp2 (K : PySem.W.Frag) (a b : Nat) : TG := gTup K 2 (gCons (gName a) (gCons (gName b) gNil))
/-- a for over pairs -/
theorem forP {J : It} {n : Nat} {G : Hp → Prop} {A B : Nat → Option V} (w : Walk J n G (YPair A B)) {a b : Nat} (Pv : Nat → St → Hp → Prop) (h0 : Pv 0 σ H) (hG : ∀ i σ H, i ≤ n → Pv i σ H → G H)
    (hs : ∀ i σ H T x y, i < n → Pv i σ H → H T = none → A i = some x → B i = some y → tb ⟨Pv (i + 1), rt, nx, Pv (i + 1)⟩ ((σ.set a (some x)).set b (some y)) (L2.upd H T (.tup [x, y]))) (hd : ∀ σ H, Pv n σ H → nx σ H) : ForG J (gp2 K a b) tb ⟨nx, rt, bk, ct⟩ σ H :=
  for_it w Pv h0 hG (fun i v σ H H' hi p y => by
    obtain ⟨T, x, z, rfl, hn, rfl, h1, h2⟩ := y
    exact rd_g2 (SqT.of upd_same) (hs i σ H T x z hi p hn h1 h2)) hd
/-- a for over a list of tuples of two, unpacked -/
theorem forLP {ls : List V} {p : Addr} {a b : Nat} (Pv : Nat → St → Hp → Prop) (h0 : Pv 0 σ H) (hG : ∀ i σ H, i ≤ ls.length → Pv i σ H → SqL K H p ls)
    (hs : ∀ i v σ H, ls[i]? = some v → Pv i σ H → ∃ T x y, v = .ref T ∧ SqT K H T [x, y] ∧ tb ⟨Pv (i + 1), rt, nx, Pv (i + 1)⟩ ((σ.set a (some x)).set b (some y)) H) (hd : ∀ σ H, Pv ls.length σ H → nx σ H) : ForG (Itl K p) (gp2 K a b) tb ⟨nx, rt, bk, ct⟩ σ H :=
  for_it (walk_list (K := K) (a := p) (xs := ls)) Pv h0 hG (fun i v σ H H' hi pv y => by
    obtain ⟨rfl, hv⟩ := y
    obtain ⟨T, x, y, rfl, hT, h⟩ := hs i v σ _ hv pv
    exact rd_g2 hT h) hd
theorem lcT {α : Type} (ls : List α) (e : α → V) {p : Addr} (hs : SqT K H p (ls.map e)) {j : Nat} (yes : α → Bool) (f : α → V) (hn : ls.length ≤ 50000)
    (hw : ∀ x, wipe ((wipe σ vs).set j (some x)) vs = wipe σ vs)
    (ht : ∀ y ∈ ls, PT0 tt ((wipe σ vs).set j (some (e y))) H (yes y)) (he : ∀ y ∈ ls, yes y = true → PE0 te ((wipe σ vs).set j (some (e y))) H (f y))
    (q : ∀ D H', H D = none → Same H H' → H' D = some (.lst ((ls.filter yes).map f)) → Q (.ref D) H') : LcG (Itt K p) (gName j) tt te vs σ Q H := by
  have w := walk_tup (K := K) (a := p) (xs := ls.map e)
  rw [List.length_map] at w
  refine lc_map ls e w (fun H' s => Same.seqT s hs) (fun i H x H' hi y => ⟨y.1, ?_⟩) hn hw yes f ht he q
  have h2 := y.2
  rw [List.getElem?_map] at h2
  cases h3 : ls[i]? with
  | none => rw [h3] at h2; cases h2
  | some z =>
    rw [h3] at h2
    exact ⟨z, rfl, (Option.some.inj h2).symm⟩
/-- a comprehension over a list (b = false) or tuple whose element makes a new object: Pv by what is made so far -/
theorem lc_inv {ls : List V} {J : It} {G : Hp → Prop} (w : Walk J ls.length G (YAt ls)) {j : Nat} (Pv : Addr → Nat → List V → Hp → Prop) (hn : ls.length ≤ 50000) (hw : ∀ x, wipe ((wipe σ vs).set j (some x)) vs = wipe σ vs)
    (hG : ∀ D i acc H', Pv D i acc H' → G H') (h0 : ∀ D, H D = none → Pv D 0 [] (L2.upd H D (.lst [])))
    (hs : ∀ (D : Addr) (i : Nat) (v : V) (acc : List V) (H' : Hp) (Q : VK), ls[i]? = some v → H D = none → acc.length = i → Pv D i acc H' → H' D = some (.lst acc) →
      (∀ y H2, H2 D = some (.lst acc) → Pv D (i + 1) (acc ++ [y]) (L2.upd H2 D (.lst (acc ++ [y]))) → Q y H2) → te ((wipe σ vs).set j (some v)) H' Q)
    (q : ∀ (D : Addr) (acc : List V) (H' : Hp), H D = none → acc.length = ls.length → Pv D ls.length acc H' → H' D = some (.lst acc) → Q (.ref D) H') : LcG J (gName j) tYes te vs σ Q H := by
  intro D hD
  refine lc_it w (fun i H' => ∃ acc : List V, H' D = some (.lst acc) ∧ acc.length = i ∧ Pv D i acc H') ⟨[], upd_same, rfl, h0 D hD⟩ (fun i H' _ ⟨acc, _, _, p⟩ => hG D i acc H' p) ?_ ?_
  · rintro i x H1 H1' hi ⟨acc, ha, hl, p⟩ ⟨rfl, hx⟩
    refine ⟨hw _, ?_⟩
    unfold tYes
    dsimp only
    rw [if_pos rfl]
    refine hs D i x acc _ _ hx hD hl p ha fun y H2 h2 p2 => ⟨acc, h2, szlt (by omega), acc ++ [y], upd_same, ?_, p2⟩
    rw [List.length_append, hl]
    rfl
  · rintro H1 ⟨acc, ha, hl, p⟩
    exact q D acc H1 hD hl p ha
end
theorem rowV_len (l : List Nat) : (rowV l).length = l.length := by unfold rowV; simp
theorem rowV_get {l : List Nat} {i : Nat} (h : i < l.length) : (rowV l)[i]? = some (vI (l.getD i 0)) := by
  unfold rowV
  rw [List.getElem?_map, List.getD_eq_getElem?_getD, List.getElem?_eq_getElem h]; rfl
theorem txV_get {l : List (List Nat)} {i : Nat} (h : i < l.length) : (txV l)[i]? = some (.str (S (l.getD i []))) := by
  unfold txV
  rw [List.getElem?_map, List.getD_eq_getElem?_getD, List.getElem?_eq_getElem h]; rfl
theorem txV_len (l : List (List Nat)) : (txV l).length = l.length := by unfold txV; simp
theorem refs_len (as : List Addr) : (refs as).length = as.length := by unfold refs; simp
theorem refs_get {as : List Addr} {i : Nat} {v : V} (h : (refs as)[i]? = some v) : ∃ a, as[i]? = some a ∧ v = .ref a := by
  unfold refs at h
  rw [List.getElem?_map] at h
  cases e : as[i]? with
  | none => rw [e] at h; cases h
  | some a => rw [e] at h; exact ⟨a, rfl, (Option.some.inj h).symm⟩
theorem row_of {b2 : Bool} {H : Hp} {T : List (List Nat)} {as : List Addr} (h2 : as.length = T.length) (h3 : ∀ (i : Nat) (a : Addr) (r : List Nat), as[i]? = some a → T[i]? = some r → H a = some (Bx b2 (rowV r))) {i : Nat} {a : Addr} (e : as[i]? = some a) : H a = some (Bx b2 (rowV (T.getD i []))) := by
  have hi : i < T.length := by rw [← h2]; exact (List.getElem?_eq_some_iff.mp e).1
  refine h3 i a _ e ?_
  rw [List.getD_eq_getElem?_getD, List.getElem?_eq_getElem hi]; rfl
theorem cq_lenK {X : Cx} (K : PySem.W.Frag) (hK : X.K = K) : CallR X (.builtin "len") (qLen K) := by subst hK; exact cq_len
theorem pe_tupleOfK {X : Cx} {a : Expr} {ta : TE} {p pos : Pos} (K : PySem.W.Frag) (hK : X.K = K) (hg : Gl X "tuple") (hm : X.mg "tuple" = none) (ha : PE X a ta) (na : starEach [a] X.env = (false, eval a X.env) :: starEach [] X.env := by rfl) :
    PE X (.Call (.Name "tuple" p) [a] [] pos) (tThen ta (kTup K)) := by subst hK; exact pe_tupleOf hg hm ha na
theorem call_isiK {X : Cx} (K : PySem.W.Frag) (hK : X.K = K) : CallR X (.builtin "isinstance") (rIsi K) := by subst hK; exact call_isi
theorem cutV_from1 {x : V} {xs : List V} : cutV (x :: xs) (some 1) none = xs := by
  have e : cutV (x :: xs) (some ((1 : Nat) : Int)) none = ((x :: xs).drop (min 1 (x :: xs).length)).take ((x :: xs).length - min 1 (x :: xs).length) := by
    unfold cutV
    rw [HT.sIx_nat]
    first | rfl | simp [HT.sIx_none]
  have h1 : min 1 (x :: xs).length = 1 := by simp
  rw [h1] at e
  have e3 : cutV (x :: xs) (some 1) none = cutV (x :: xs) (some ((1 : Nat) : Int)) none := rfl
  rw [e3, e, List.drop_succ_cons, List.drop_zero]
  exact List.take_of_length_le (by simp)
theorem ExB.same {D : Addr} {H Hs H' : Hp} (s : Same H Hs) (n : H D = none) (e : ExB D Hs H') : Same H H' := fun b o q => e b o (ne_of_none q n) (s b o q)
theorem getD_some {α : Type} {l : List α} {i : Nat} {a d : α} (h : l[i]? = some a) : l.getD i d = a := by rw [List.getD_eq_getElem?_getD, h]; rfl
theorem get_getD {α : Type} {l : List α} {i : Nat} (d : α) (h : i < l.length) : l[i]? = some (l.getD i d) := by rw [List.getD_eq_getElem?_getD, List.getElem?_eq_getElem h]; rfl
section
variable {K : PySem.W.Frag} {H : Hp} {Q : VK} {x : V}
theorem rd_isiLT {a : String} {tp : Addr} {r1 r2 : Bool} (h : H tp = some (.tup [.ty "list", .ty "tuple"])) (ty : TyX K H x (.type a)) (k1 : kitB a "list" = some r1) (k2 : kitB a "tuple" = some r2) (q : Q (.bl (r1 || r2)) H) : rIsiT K [x, .ref tp] H Q := by
  refine rd_isiT h (us := [.type "list", .type "tuple"]) (.cons (.ty "list") (.cons (.ty "tuple") .nil)) ty (b := r1 || r2) ?_ q
  first
    | (simp only [PySem.W.kitAny, kit_ty k1, kit_ty k2]; cases r1 <;> cases r2 <;> rfl)
    | (unfold PySem.W.kitAny; rw [kit_ty k1]; cases r1 <;> simp [PySem.W.kitAny, kit_ty k2])
def dTI (ns : List Int) : PyData := .tuple (ns.map PyData.int)
theorem shTI (ns : List Int) : SeqAt.shaped (dTI ns) = true := by
  unfold SeqAt.shaped dTI
  have h1 : PyData.canLay0 (.tuple (ns.map PyData.int)) = true := canI ns
  have h2 : PyData.depth (.tuple (ns.map PyData.int)) = 1 := by show PyData.depthAll _ + 1 = 1; rw [depI]
  rw [h1, h2]; rfl
theorem eqTI (ns ms : List Int) : PyData.eqv (dTI ns) (dTI ms) = decide (ns = ms) := eqAllI ns ms
theorem dpTI {a : Addr} {ns : List Int} (h : SqT K H a (ns.map V.int)) : Dp K H (.ref a) (dTI ns) := .tup h (dpAllI ns)
theorem rd_neTI {p r : Addr} {ns ms : List Int} (h1 : SqT K H p (ns.map V.int)) (h2 : SqT K H r (ms.map V.int)) (q : Q (.bl (!decide (ns = ms))) H) : rNeD K (.ref p) (.ref r) H Q := rd_neD (dpTI h1) (dpTI h2) (shTI _) (shTI _) (by rw [eqTI]; exact q)
theorem rd_eqTI {p r : Addr} {ns ms : List Int} (h1 : SqT K H p (ns.map V.int)) (h2 : SqT K H r (ms.map V.int)) (q : Q (.bl (decide (ns = ms))) H) : rEqD K (.ref p) (.ref r) H Q := rd_eqD (dpTI h1) (dpTI h2) (shTI _) (shTI _) (by rw [eqTI]; exact q)
def dII (a b : Int) : PyData := .tuple [.int a, .int b]
theorem shII (a b : Int) : SeqAt.shaped (dII a b) = true := by first | rfl | decide
theorem eqII (a b c d : Int) : PyData.eqv (dII a b) (dII c d) = decide (a = c ∧ b = d) := by
  show (PyData.eqv (.int a) (.int c) && (PyData.eqv (.int b) (.int d) && true)) = _
  have h : ∀ j k : Int, PyData.eqv (.int j) (.int k) = decide (j = k) := fun j k => by simp only [PyData.eqv]; by_cases e : j = k <;> simp [e]
  rw [h, h]
  by_cases e : a = c <;> by_cases e2 : b = d <;> simp [e, e2]
theorem dpII {p : Addr} {a b : Int} (h : SqT K H p [.int a, .int b]) : Dp K H (.ref p) (dII a b) := .tup h (.cons (.int _) (.cons (.int _) .nil))
theorem rd_eqII {p r : Addr} {a b c d : Int} (h1 : SqT K H p [.int a, .int b]) (h2 : SqT K H r [.int c, .int d]) (q : Q (.bl (decide (a = c ∧ b = d))) H) : rEqD K (.ref p) (.ref r) H Q := rd_eqD (dpII h1) (dpII h2) (shII _ _) (shII _ _) (by rw [eqII]; exact q)
theorem rd_eqNI {r : Addr} {c d : Int} (h2 : SqT K H r [.int c, .int d]) (q : Q (.bl false) H) : rEqD K .non (.ref r) H Q := rd_eqD (d := .none) (by first | exact .non | exact .none | constructor) (dpII h2) (by first | rfl | decide) (shII _ _) q
/-- lists of pairs of texts -/
def dPr (bs : List (List Nat × List Nat)) : PyData := .list (bs.map fun b => .tuple [.str (S b.1), .str (S b.2)])
def OkB (bs : List (List Nat × List Nat)) : Prop := ∀ b ∈ bs, OkW b.1 ∧ OkW b.2
theorem canPr : ∀ bs : List (List Nat × List Nat), OkB bs → PyData.canLayAll0 (bs.map fun b => .tuple [.str (S b.1), .str (S b.2)]) = true
  | [], _ => rfl
  | b :: bs, h => by
    show ((PyData.canLay0 (.str (S b.1)) && (PyData.canLay0 (.str (S b.2)) && true)) && PyData.canLayAll0 (bs.map _)) = true
    rw [canPr bs fun c hc => h c (List.mem_cons_of_mem _ hc), canStr (h b List.mem_cons_self).1, canStr (h b List.mem_cons_self).2]; rfl
theorem depPr : ∀ bs : List (List Nat × List Nat), PyData.depthAll (bs.map fun b => .tuple [.str (S b.1), .str (S b.2)]) ≤ 1
  | [] => Nat.zero_le _
  | b :: bs => by
    have h := depPr bs
    show max (PyData.depth (.tuple [.str (S b.1), .str (S b.2)])) _ ≤ 1
    have e : PyData.depth (.tuple [.str (S b.1), .str (S b.2)]) = 1 := by simp [PyData.depth, PyData.depthAll]
    rw [e]
    exact Nat.max_le.mpr ⟨Nat.le_refl _, h⟩
theorem shPr (bs : List (List Nat × List Nat)) (h : OkB bs) : SeqAt.shaped (dPr bs) = true := by
  unfold SeqAt.shaped dPr
  have h1 : PyData.canLay0 (.list (bs.map fun b => .tuple [.str (S b.1), .str (S b.2)])) = true := canPr bs h
  have h2 : PyData.depth (.list (bs.map fun b => .tuple [.str (S b.1), .str (S b.2)])) ≤ 2 := by
    show PyData.depthAll _ + 1 ≤ 2
    have := depPr bs; omega
  rw [h1]
  generalize PyData.depth (.list (bs.map fun b => .tuple [.str (S b.1), .str (S b.2)])) = d at h2
  match d, h2 with
  | 0, _ => first | rfl | decide
  | 1, _ => first | rfl | decide
  | 2, _ => first | rfl | decide
theorem eqAllPr : ∀ vs ws : List (List Nat × List Nat), PyData.eqvAll (vs.map fun b => .tuple [.str (S b.1), .str (S b.2)]) (ws.map fun b => .tuple [.str (S b.1), .str (S b.2)]) = decide (vs = ws)
  | [], [] => rfl
  | [], _ :: _ => rfl
  | _ :: _, [] => rfl
  | v :: vs, w :: ws => by
    show ((PyData.eqv (.str (S v.1)) (.str (S w.1)) && (PyData.eqv (.str (S v.2)) (.str (S w.2)) && true)) && PyData.eqvAll (vs.map _) (ws.map _)) = _
    rw [eqAllPr vs ws, eqStr, eqStr]
    obtain ⟨v1, v2⟩ := v
    obtain ⟨w1, w2⟩ := w
    by_cases e : v1 = w1 <;> by_cases e1 : v2 = w2 <;> by_cases e2 : vs = ws <;> simp [e, e1, e2]
theorem dpAllPr : ∀ (as : List Addr) (bs : List (List Nat × List Nat)), as.length = bs.length → (∀ (i : Nat) (a : Addr) (b : List Nat × List Nat), as[i]? = some a → bs[i]? = some b → H a = some (.tup [.str (S b.1), .str (S b.2)])) → DpAll K H (refs as) (bs.map fun b => .tuple [.str (S b.1), .str (S b.2)])
  | [], [], _, _ => .nil
  | [], _ :: _, h, _ => by cases h
  | _ :: _, [], h, _ => by cases h
  | a :: as, b :: bs, h, hh => .cons (.tup (SqT.of (hh 0 a b rfl rfl)) (.cons (.str _) (.cons (.str _) .nil))) (dpAllPr as bs (by simpa using h) fun i c d e1 e2 => hh (i + 1) c d e1 e2)
theorem dpPr {p : Addr} {bs : List (List Nat × List Nat)} (h : Prs H p bs) : Dp K H (.ref p) (dPr bs) := by
  obtain ⟨as, h1, h2, h3⟩ := h
  exact .lst (SqL.of h1) (dpAllPr as bs h2 h3)
theorem rd_nePr {p r : Addr} {vs ws : List (List Nat × List Nat)} (h1 : Prs H p vs) (h2 : Prs H r ws) (o1 : OkB vs) (o2 : OkB ws) (q : Q (.bl (!decide (vs = ws))) H) : rNeD K (.ref p) (.ref r) H Q := rd_neD (dpPr h1) (dpPr h2) (shPr _ o1) (shPr _ o2) (by show Q (.bl (!PyData.eqvAll _ _)) H; rw [eqAllPr]; exact q)
theorem rd_eqPr {p r : Addr} {vs ws : List (List Nat × List Nat)} (h1 : Prs H p vs) (h2 : Prs H r ws) (o1 : OkB vs) (o2 : OkB ws) (q : Q (.bl (decide (vs = ws))) H) : rEqD K (.ref p) (.ref r) H Q := rd_eqD (dpPr h1) (dpPr h2) (shPr _ o1) (shPr _ o2) (by show Q (.bl (PyData.eqvAll _ _)) H; rw [eqAllPr]; exact q)
theorem prs_pairs {p : Addr} {bs : List (List Nat × List Nat)} (h : Prs H p bs) : ∃ as, H p = some (.lst (refs as)) ∧ Pairs K H (refs as) bs := by
  obtain ⟨as, h1, h2, h3⟩ := h
  refine ⟨as, h1, by rw [refs_len]; exact h2, fun i b hb => ?_⟩
  have hi : i < as.length := by rw [h2]; exact (List.getElem?_eq_some_iff.mp hb).1
  exact ⟨as[i], getElem?_refs (List.getElem?_eq_getElem hi), SqT.of (h3 i _ b (List.getElem?_eq_getElem hi) hb)⟩
theorem prs_of {p : Addr} {as : List Addr} {bs : List (List Nat × List Nat)} {H' : Hp} (h2 : as.length = bs.length) (h3 : ∀ (i : Nat) (a : Addr) (b : List Nat × List Nat), as[i]? = some a → bs[i]? = some b → H a = some (.tup [.str (S b.1), .str (S b.2)])) (k : ∀ a xs, H a = some (.tup xs) → H' a = some (.tup xs)) (hp : H' p = some (.lst (refs as))) : Prs H' p bs :=
  ⟨as, hp, h2, fun i a b e1 e2 => k _ _ (h3 i a b e1 e2)⟩
/-- one pair more -/
theorem prs_snoc {D q : Addr} {bs : List (List Nat × List Nat)} {b : List Nat × List Nat} {H' : Hp} (h : Prs H D bs) (hq : H' q = some (.tup [.str (S b.1), .str (S b.2)])) (k : ∀ a xs, H a = some (.tup xs) → H' a = some (.tup xs)) : ∃ as, H D = some (.lst (refs as)) ∧ as.length = bs.length ∧ (H' D = some (.lst (refs as ++ [.ref q])) → Prs H' D (bs ++ [b])) := by
  obtain ⟨as, h1, h2, h3⟩ := h
  refine ⟨as, h1, h2, fun hD => ⟨as ++ [q], by rw [hD]; unfold refs; rw [List.map_append]; rfl, by simp [h2], fun i a s e1 e2 => ?_⟩⟩
  by_cases hi : i < as.length
  · rw [List.getElem?_append_left hi] at e1
    rw [List.getElem?_append_left (by omega)] at e2
    exact k _ _ (h3 i a s e1 e2)
  · have hi2 : i = as.length := by
      have := (List.getElem?_eq_some_iff.mp e1).1
      simp at this; omega
    subst hi2
    rw [List.getElem?_append_right (Nat.le_refl _), Nat.sub_self] at e1
    cases e1
    rw [List.getElem?_append_right (by omega), show as.length - bs.length = 0 by omega] at e2
    cases e2
    exact hq
theorem rowV_int (l : List Nat) : rowV l = (l.map fun n : Nat => (n : Int)).map V.int := by unfold rowV; rw [List.map_map]; rfl
theorem rd_bm {σ : St} {r : V → List V → Hp → VK → Prop} {t : TA} {to : TE} (h : to σ H fun x H1 => tyV K "list" x H1 ∧ t σ H1 fun xs H2 => r x xs H2 Q) : tBM K "list" r to t σ H Q := h
theorem rd_par3 {σ : St} {H : Hp} {i j l : Nat} {ta : TA} {nx : St → Hp → Prop} {rt : VK} {bk ct : St → Hp → Prop} (h : ta σ H fun vs H1 => ∃ u v w, vs = [u, v, w] ∧ nx (((σ.set i (some u)).set j (some v)).set l (some w)) H1) : tPar3 i j l ta ⟨nx, rt, bk, ct⟩ σ H := h
theorem rd_thenT {σ : St} {te : TE} (h : te σ H fun x H1 => kTup K x H1 Q) : tThen te (kTup K) σ H Q := h
theorem rd_kTupT {p : Addr} {xs : List V} (h : SqT K H p xs) (q : Q (.ref p) H) : kTup K (.ref p) H Q := .inr ⟨p, xs, rfl, h, q⟩
theorem rd_kTupL {p : Addr} {xs : List V} (h : SqL K H p xs) (q : ∀ r, H r = none → Q (.ref r) (L2.upd H r (.tup xs))) : kTup K (.ref p) H Q := .inl ⟨p, xs, rfl, h, q⟩
end
def qSortLam (K : PySem.W.Frag) (TT : List (Addr × Str)) (vs : List V) (H1 : Hp) (Q : VK) : Prop := ∃ (a : Addr) (xs : List V) (bs : List (List Nat × List Nat)), vs = [.ref a] ∧ SqL K H1 a xs ∧ Pairs K H1 xs bs ∧ bs.length ≤ 100000 ∧ (∀ b ∈ bs, b.1.length ≤ 100000) ∧ (bs.Pairwise fun a b => Mon.slt a.1 b.1) ∧ LamX.Tabs TT H1 ∧
  ∀ p H2, LamX.ExtN H1 H2 → LamX.Tabs TT H2 → H2 p = none → Q (.ref p) (L2.upd H2 p (.lst xs))
theorem rd_sortLam {K : PySem.W.Frag} {TT : List (Addr × Str)} {t : TA} {σ : St} {H : Hp} {Q : VK} (h : t σ H fun vs H1 => qSortLam K TT vs H1 Q) : tSortLam K TT t σ H Q := h
/-- one row more -/
theorem tb_snoc {b2 : Bool} {H H' : Hp} {D q : Addr} {xs : List Addr} {T : List (List Nat)} {r : List Nat} (h2 : xs.length = T.length) (h3 : ∀ (i : Nat) (a : Addr) (r : List Nat), xs[i]? = some a → T[i]? = some r → H a = some (Bx b2 (rowV r))) (k : ∀ a, a ∈ xs → H a ≠ none → H' a = H a) (hq : H' q = some (Bx b2 (rowV r))) :
    (xs ++ [q]).length = (T ++ [r]).length ∧ ∀ (i : Nat) (a : Addr) (s : List Nat), (xs ++ [q])[i]? = some a → (T ++ [r])[i]? = some s → H' a = some (Bx b2 (rowV s)) := by
  refine ⟨by simp [h2], fun i a s e1 e2 => ?_⟩
  by_cases hi : i < xs.length
  · rw [List.getElem?_append_left hi] at e1
    rw [List.getElem?_append_left (by omega)] at e2
    have h4 := h3 i a s e1 e2
    rw [k a (List.mem_of_getElem? e1) (by rw [h4]; simp)]
    exact h4
  · have hi2 : i = xs.length := by
      have := (List.getElem?_eq_some_iff.mp e1).1
      simp at this; omega
    subst hi2
    rw [List.getElem?_append_right (Nat.le_refl _), Nat.sub_self] at e1
    cases e1
    rw [List.getElem?_append_right (by omega), show xs.length - T.length = 0 by omega] at e2
    cases e2
    exact hq
def qTg (a b : Int) (H1 : Hp) (Q : VK) : Prop := RgOk a b ∧ ∀ q, H1 q = none → Q (.ref q) (L2.upd H1 q (.tup (rgV a b)))
theorem rd_tupRg {te : St → Hp → (Int → Int → Hp → Prop) → Prop} {σ : St} {H : Hp} {Q : VK} (h : te σ H fun a b H1 => qTg a b H1 Q) : tTupRg te σ H Q := h
theorem rd_qTg {n : Nat} {H : Hp} {Q : VK} (hn : n ≤ 100000) (q : ∀ r, H r = none → Q (.ref r) (L2.upd H r (.tup (rowV (List.range n))))) : qTg 0 (n : Nat) H Q := by
  refine ⟨RgOk.of_le (by omega) (by omega) (by omega) (by omega), ?_⟩
  have e : rgV 0 (n : Nat) = rowV (List.range n) := by
    unfold rgV rowV
    have e : (((n : Nat) : Int) - 0).toNat = n := by omega
    rw [e]
    refine List.map_congr_left fun i _ => ?_
    show V.int (0 + (i : Nat)) = V.int (i : Nat)
    rw [Int.zero_add]
  rw [e]
  exact q
theorem map_cast_inj {u v : List Nat} : (u.map fun n : Nat => (n : Int)) = (v.map fun n : Nat => (n : Int)) ↔ u = v := by
  constructor
  · intro h
    have h2 := congrArg (fun l : List Int => l.map Int.toNat) h
    rw [List.map_map, List.map_map] at h2
    have e : (Int.toNat ∘ fun n : Nat => (n : Int)) = id := by funext n; simp
    rw [e, List.map_id, List.map_id] at h2
    exact h2
  · intro h; rw [h]
theorem at_vI {xs : List V} {n : Nat} {v : V} (h : xs[n]? = some v) : atI xs ((n : Nat) : Int) = some v := atI_nat h
end My
/-! The listing of maps, as it lies while it grows. -/
namespace Mon
section
variable {rows : Tab} {sz : Nat}
theorem wsR_len (f w : List Nat) (fd ws : List (List Nat)) (h : ws.length = fd.length) : ∀ j, (wsR rows f w j fd ws).length = (fdR rows f j fd).length
  | 0 => h
  | j + 1 => by
    have ih := wsR_len f w fd ws h j
    rw [fdR_succ]
    unfold wsR
    split
    · exact ih
    · rw [List.length_append, List.length_append, ih]; rfl
theorem wsR_pre0 (f w : List Nat) (fd ws : List (List Nat)) : ∀ j, ∃ b, wsR rows f w j fd ws = ws ++ b
  | 0 => ⟨[], by simp [wsR]⟩
  | j + 1 => by
    obtain ⟨b, h⟩ := wsR_pre0 f w fd ws j
    unfold wsR
    split
    · exact ⟨b, h⟩
    · exact ⟨b ++ [w ++ [97 + j]], by rw [h, List.append_assoc]⟩
theorem wsT_len : ∀ n, (wsT rows sz n).length = (fdT rows sz n).length
  | 0 => rfl
  | n + 1 => wsR_len _ _ _ _ (wsT_len n) _
theorem wsR_bd {n : Nat} (f w : List Nat) (fd ws : List (List Nat)) (hw : w.length ≤ n) (h : ∀ x ∈ ws, x.length ≤ n) : ∀ j, ∀ x ∈ wsR rows f w j fd ws, x.length ≤ n + 1
  | 0 => fun x hx => Nat.le_succ_of_le (h x hx)
  | j + 1 => by
    have ih := wsR_bd f w fd ws hw h j
    unfold wsR
    split
    · exact ih
    · intro x hx
      rcases List.mem_append.mp hx with hx | hx
      · exact ih x hx
      · rw [List.mem_singleton.mp hx, List.length_append]
        show w.length + 1 ≤ n + 1
        omega
theorem getD_len {ws : List (List Nat)} {n k : Nat} (h : ∀ x ∈ ws, x.length ≤ n) : (ws.getD k []).length ≤ n := by
  rw [List.getD_eq_getElem?_getD]
  cases e : ws[k]? with
  | none => exact Nat.zero_le _
  | some x => exact h x (List.mem_of_getElem? e)
theorem wsT_bd : ∀ n, ∀ x ∈ wsT rows sz n, x.length ≤ n
  | 0 => fun x hx => by rw [List.mem_singleton.mp hx]; exact Nat.le_refl _
  | n + 1 => wsR_bd _ _ _ _ (getD_len (wsT_bd n)) (wsT_bd n) _
theorem fdT_go_le : ∀ i, (∀ k, k < i → k < (fdT rows sz k).length) → i ≤ (fdT rows sz i).length
  | 0, _ => Nat.zero_le _
  | i + 1, h => by
    have h1 := h i (Nat.lt_succ_self _)
    obtain ⟨b, e⟩ := fdT_pre (rows := rows) (sz := sz) i 1
    rw [e, List.length_append]
    omega
end
end Mon
namespace My
open PySem PySem.Spec L2 SX Mon
open PyProof.Rows hiding St
/-! ### rows as keys -/
def kk (r : List Nat) : List Key := r.map fun n => .inl ((n : Nat) : Int)
theorem kk_map (r : List Nat) : (kk r).map kV = rowV r := by unfold kk rowV; rw [List.map_map]; rfl
theorem kk_inj {u v : List Nat} : kk u = kk v ↔ u = v := by
  constructor
  · intro h
    have h2 := congrArg (fun l : List Key => l.map fun x => match x with | .inl i => Int.toNat i | .inr _ => 0) h
    unfold kk at h2
    rw [List.map_map, List.map_map] at h2
    have e : ((fun x : Key => match x with | .inl i => Int.toNat i | .inr _ => 0) ∘ fun n : Nat => (Sum.inl (n : Int) : Key)) = id := by funext n; simp
    rw [e, List.map_id, List.map_id] at h2
    exact h2
  · intro h; rw [h]
def numT (fd : Tab) : List (List Key × V) := numK 0 (fd.map kk)
theorem numK_cons (n : Nat) (k : List Key) (ks : List (List Key)) : numK n (k :: ks) = (k, vI n) :: numK (n + 1) ks := by unfold numK; rw [List.zipIdx_cons]; rfl
theorem numK_snoc (n : Nat) (k : List Key) (ks : List (List Key)) : numK n (ks ++ [k]) = numK n ks ++ [(k, vI (n + ks.length))] := by unfold numK; rw [List.zipIdx_append, List.map_append]; rfl
theorem numT_len (fd : Tab) : (numT fd).length = fd.length := by unfold numT; rw [numK_len, List.length_map]
theorem valV_numK (r : List Nat) : ∀ (n : Nat) (fd : Tab), valV (numK n (fd.map kk)) (kk r) = if r ∈ fd then some (vI (n + fd.idxOf r)) else none
  | n, [] => rfl
  | n, g :: fd => by
    rw [List.map_cons, numK_cons]
    by_cases e : g = r
    · rw [valV_pos (kk_inj.mpr e), if_pos (by rw [e]; exact List.mem_cons_self)]
      subst e
      simp [List.idxOf_cons]
    · rw [valV_neg (fun h => e (kk_inj.mp h)), valV_numK r (n + 1) fd]
      by_cases h : r ∈ fd
      · rw [if_pos h, if_pos (List.mem_cons_of_mem _ h)]
        have : (g :: fd).idxOf r = fd.idxOf r + 1 := by
          rw [List.idxOf_cons]
          have : (g == r) = false := by simpa using e
          rw [this]; rfl
        rw [this, show n + 1 + fd.idxOf r = n + (fd.idxOf r + 1) by omega]
      · rw [if_neg h, if_neg (fun h2 => (List.mem_cons.mp h2).elim (fun z => e z.symm) h)]
theorem valV_numT (r : List Nat) (fd : Tab) : valV (numT fd) (kk r) = if r ∈ fd then some (vI (fd.idxOf r)) else none := by
  unfold numT; rw [valV_numK r 0 fd, Nat.zero_add]
theorem putK_numT {r : List Nat} {fd : Tab} (h : r ∉ fd) : putK (numT fd) (kk r) (vI fd.length) = numT (fd ++ [r]) := by
  have e : valV (numT fd) (kk r) = none := by rw [valV_numT, if_neg h]
  unfold putK
  rw [valV_any, e]
  rw [if_neg (by simp)]
  unfold numT
  rw [List.map_append, List.map_singleton, numK_snoc, Nat.zero_add, List.length_map]
/-! ### rows at their places -/
def RB (b : Bool) (H : Hp) (as : List Addr) (rows : Tab) : Prop := as.length = rows.length ∧ ∀ (i : Nat) (a : Addr) (r : List Nat), as[i]? = some a → rows[i]? = some r → H a = some (Bx b (rowV r))
theorem RB.keep {b : Bool} {H H' : Hp} {as : List Addr} {rows : Tab} (h : RB b H as rows) (k : ∀ a ∈ as, ∀ xs, H a = some (Bx b xs) → H' a = some (Bx b xs)) : RB b H' as rows := ⟨h.1, fun i a r e1 e2 => k a (List.mem_of_getElem? e1) _ (h.2 i a r e1 e2)⟩
theorem RB.snoc {b : Bool} {H : Hp} {as : List Addr} {rows : Tab} {a : Addr} {r : List Nat} (h : RB b H as rows) (q : H a = some (Bx b (rowV r))) : RB b H (as ++ [a]) (rows ++ [r]) := by
  refine ⟨by simp [h.1], fun i c s e1 e2 => ?_⟩
  have hl := h.1
  by_cases hi : i < as.length
  · rw [List.getElem?_append_left hi] at e1
    rw [List.getElem?_append_left (by omega)] at e2
    exact h.2 i c s e1 e2
  · have hi2 : i = as.length := by
      have := (List.getElem?_eq_some_iff.mp e1).1
      simp at this; omega
    subst hi2
    rw [List.getElem?_append_right (Nat.le_refl _), Nat.sub_self] at e1
    cases e1
    rw [List.getElem?_append_right (by omega), show as.length - rows.length = 0 by omega] at e2
    cases e2
    exact q
theorem RB.at {b : Bool} {H : Hp} {as : List Addr} {rows : Tab} (h : RB b H as rows) {i : Nat} (hi : i < rows.length) : ∃ a, as[i]? = some a ∧ H a = some (Bx b (rowV (rows.getD i []))) := by
  have h1 : i < as.length := by rw [h.1]; exact hi
  exact ⟨as[i], List.getElem?_eq_getElem h1, h.2 i _ _ (List.getElem?_eq_getElem h1) (get_getD [] hi)⟩
theorem Same.updN {H H' : Hp} {a : Addr} {o : HO} (s : Same H H') (n : H a = none) : Same H (L2.upd H' a o) := fun b c e => by rw [upd_ne (ne_of_none e n)]; exact s b c e
theorem refs_snoc {as : List Addr} {a : Addr} : refs (as ++ [a]) = refs as ++ [.ref a] := by unfold refs; rw [List.map_append]; rfl
theorem rowV_snoc {l : List Nat} {n : Nat} : rowV (l ++ [n]) = rowV l ++ [vI n] := by unfold rowV; rw [List.map_append]; rfl
theorem txV_snoc {l : List (List Nat)} {w : List Nat} : txV (l ++ [w]) = txV l ++ [.str (S w)] := by unfold txV; rw [List.map_append]; rfl
/-! ### the listing -/
structure LT (H H' : Hp) (f w tb d : Addr) (fd : Tab) (ws : List (List Nat)) (T nd : Tab) (ts : List Addr) : Prop where
  same : Same H H'
  f0 : H f = none
  w0 : H w = none
  t0 : H tb = none
  d0 : H d = none
  fw : f ≠ w
  ft : f ≠ tb
  wt : w ≠ tb
  hf : ∃ fs, H' f = some (.lst (refs fs)) ∧ RB true H' fs fd
  hw : H' w = some (.lst (txV ws))
  ht : H' tb = some (.lst (refs ts))
  hT : RB false H' ts T
  hn : ∀ t ∈ ts, t ≠ f ∧ t ≠ w ∧ t ≠ tb
  hd : H' d = some (.dT (numT nd))
namespace LT
variable {H H' : Hp} {f w tb d : Addr} {fd : Tab} {ws : List (List Nat)} {T nd : Tab} {ts : List Addr}
theorem keep (L : LT H H' f w tb d fd ws T nd ts) {H2 : Hp} (s : Same H' H2) : LT H H2 f w tb d fd ws T nd ts := by
  obtain ⟨fs, e1, e2⟩ := L.hf
  exact ⟨L.same.trans s, L.f0, L.w0, L.t0, L.d0, L.fw, L.ft, L.wt, ⟨fs, s _ _ e1, e2.keep fun a _ xs h => s _ _ h⟩, s _ _ L.hw, s _ _ L.ht, L.hT.keep fun a _ xs h => s _ _ h, L.hn, s _ _ L.hd⟩
theorem df (L : LT H H' f w tb d fd ws T nd ts) : d ≠ f := let ⟨_, e, _⟩ := L.hf; ne_of L.hd e (fun z => nomatch z)
theorem dw (L : LT H H' f w tb d fd ws T nd ts) : d ≠ w := ne_of L.hd L.hw (fun z => nomatch z)
theorem dt (L : LT H H' f w tb d fd ws T nd ts) : d ≠ tb := ne_of L.hd L.ht (fun z => nomatch z)
/-- at the dict -/
theorem put (L : LT H H' f w tb d fd ws T nd ts) (nd2 : Tab) : LT H (L2.upd H' d (.dT (numT nd2))) f w tb d fd ws T nd2 ts := by
  obtain ⟨fs, e1, e2⟩ := L.hf
  refine ⟨Same.updN L.same L.d0, L.f0, L.w0, L.t0, L.d0, L.fw, L.ft, L.wt, ⟨fs, by rw [upd_ne L.df.symm]; exact e1, e2.keep fun a _ xs h => ?_⟩, by rw [upd_ne L.dw.symm]; exact L.hw, by rw [upd_ne L.dt.symm]; exact L.ht, L.hT.keep fun a _ xs h => ?_, L.hn, upd_same⟩
  · rw [upd_ne (ne_of h L.hd (fun z => nomatch z))]; exact h
  · rw [upd_ne (ne_of h L.hd (fun z => nomatch z))]; exact h
theorem pushf (L : LT H H' f w tb d fd ws T nd ts) {q : Addr} {r : List Nat} (hq : H' q = some (.tup (rowV r))) : ∃ xs, H' f = some (.lst xs) ∧ xs.length = fd.length ∧ LT H (L2.upd H' f (.lst (xs ++ [.ref q]))) f w tb d (fd ++ [r]) ws T nd ts := by
  obtain ⟨fs, e1, e2⟩ := L.hf
  have kt : ∀ a xs, H' a = some (Bx true xs) → (L2.upd H' f (.lst (refs fs ++ [.ref q]))) a = some (Bx true xs) := fun a xs h => by rw [upd_ne (ne_of h e1 (fun z => nomatch z))]; exact h
  refine ⟨refs fs, e1, by rw [refs_len, e2.1], Same.updN L.same L.f0, L.f0, L.w0, L.t0, L.d0, L.fw, L.ft, L.wt, ⟨fs ++ [q], by rw [upd_same, refs_snoc], (e2.keep fun a _ xs h => kt a xs h).snoc (kt _ _ hq)⟩, by rw [upd_ne L.fw.symm]; exact L.hw, by rw [upd_ne L.ft.symm]; exact L.ht, L.hT.keep fun a ha xs h => ?_, L.hn, by rw [upd_ne L.df]; exact L.hd⟩
  rw [upd_ne (L.hn a ha).1]; exact h
theorem pushw (L : LT H H' f w tb d fd ws T nd ts) (u : List Nat) : LT H (L2.upd H' w (.lst (txV ws ++ [.str (S u)]))) f w tb d fd (ws ++ [u]) T nd ts := by
  obtain ⟨fs, e1, e2⟩ := L.hf
  refine ⟨Same.updN L.same L.w0, L.f0, L.w0, L.t0, L.d0, L.fw, L.ft, L.wt, ⟨fs, by rw [upd_ne L.fw]; exact e1, e2.keep fun a _ xs h => ?_⟩, by rw [upd_same, txV_snoc], by rw [upd_ne L.wt.symm]; exact L.ht, L.hT.keep fun a ha xs h => ?_, L.hn, by rw [upd_ne L.dw]; exact L.hd⟩
  · rw [upd_ne (ne_of h L.hw (fun z => nomatch z))]; exact h
  · rw [upd_ne (L.hn a ha).2.1]; exact h
theorem pusht (L : LT H H' f w tb d fd ws T nd ts) {q : Addr} {r : List Nat} (hq : H' q = some (.lst (rowV r))) (n1 : q ≠ f) (n2 : q ≠ w) (n3 : q ≠ tb) : LT H (L2.upd H' tb (.lst (refs ts ++ [.ref q]))) f w tb d fd ws (T ++ [r]) nd (ts ++ [q]) := by
  obtain ⟨fs, e1, e2⟩ := L.hf
  refine ⟨Same.updN L.same L.t0, L.f0, L.w0, L.t0, L.d0, L.fw, L.ft, L.wt, ⟨fs, by rw [upd_ne L.ft]; exact e1, e2.keep fun a _ xs h => ?_⟩, by rw [upd_ne L.wt]; exact L.hw, by rw [upd_same, refs_snoc], (L.hT.keep fun a ha xs h => ?_).snoc (by rw [upd_ne n3]; exact hq), fun t ht => ?_, by rw [upd_ne L.dt]; exact L.hd⟩
  · rw [upd_ne (ne_of h L.ht (fun z => nomatch z))]; exact h
  · rw [upd_ne (L.hn a ha).2.2]; exact h
  · rcases List.mem_append.mp ht with h | h
    · exact L.hn t h
    · rw [List.mem_singleton.mp h]; exact ⟨n1, n2, n3⟩
/-- another list of its own is changed -/
theorem other (L : LT H H' f w tb d fd ws T nd ts) {r : Addr} {xs ys : List V} (hr : H' r = some (.lst ys)) (r0 : H r = none) (n1 : r ≠ f) (n2 : r ≠ w) (n3 : r ≠ tb) (n4 : r ∉ ts) : LT H (L2.upd H' r (.lst xs)) f w tb d fd ws T nd ts := by
  obtain ⟨fs, e1, e2⟩ := L.hf
  refine ⟨Same.updN L.same r0, L.f0, L.w0, L.t0, L.d0, L.fw, L.ft, L.wt, ⟨fs, by rw [upd_ne n1.symm]; exact e1, e2.keep fun a _ xs h => ?_⟩, by rw [upd_ne n2.symm]; exact L.hw, by rw [upd_ne n3.symm]; exact L.ht, L.hT.keep fun a ha xs h => ?_, L.hn, by rw [upd_ne (ne_of L.hd hr (fun z => nomatch z))]; exact L.hd⟩
  · rw [upd_ne (ne_of h hr (fun z => nomatch z))]; exact h
  · rw [upd_ne (fun e => n4 (by rw [← e]; exact ha))]; exact h
end LT
end My
/-! The listing of rules by words, as it lies. -/
namespace Mon
theorem flat_len_eq {α β : Type} (f : α → List β) (B : Nat) : ∀ l : List α, (∀ a ∈ l, (f a).length = B) → (l.flatMap f).length = l.length * B
  | [], _ => by simp
  | a :: l, h => by
    have h1 := flat_len_eq f B l fun b hb => h b (List.mem_cons_of_mem _ hb)
    have h2 := h a List.mem_cons_self
    rw [List.flatMap_cons, List.length_append, List.length_cons, Nat.add_mul]
    omega
theorem wl_len (m : Nat) : ∀ t, (wl m t).length = m ^ t
  | 0 => rfl
  | t + 1 => by
    unfold wl
    rw [flat_len_eq _ m _ (fun a _ => by simp), wl_len m t, Nat.pow_succ]
/-- the next layer so far -/
def lU (m : Nat) (ws : List (List Nat)) (i j : Nat) : List (List Nat) := ((ws.take i).flatMap fun w => (List.range m).map fun l => w ++ [97 + l]) ++ (List.range j).map fun l => ws.getD i [] ++ [97 + l]
theorem lU_len (m : Nat) (ws : List (List Nat)) (i j : Nat) : (lU m ws i j).length ≤ ws.length * m + j := by
  unfold lU
  rw [List.length_append, flat_len_eq _ m _ (fun a _ => by simp), List.length_map, List.length_range, List.length_take]
  have : min i ws.length * m ≤ ws.length * m := Nat.mul_le_mul_right m (Nat.min_le_right _ _)
  omega
theorem lU_succ (m : Nat) (ws : List (List Nat)) (i j : Nat) : lU m ws i (j + 1) = lU m ws i j ++ [ws.getD i [] ++ [97 + j]] := by
  unfold lU
  rw [List.range_succ, List.map_append, List.append_assoc]
  rfl
theorem take_snoc {α : Type} {l : List α} {i : Nat} (d : α) (h : i < l.length) : l.take (i + 1) = l.take i ++ [l.getD i d] := by
  rw [List.take_succ, List.getD_eq_getElem?_getD, List.getElem?_eq_getElem h]; rfl
theorem lU_row {m : Nat} {ws : List (List Nat)} {i : Nat} (h : i < ws.length) : lU m ws i m = lU m ws (i + 1) 0 := by
  unfold lU
  rw [take_snoc [] h, List.flatMap_append]
  simp
theorem lU_all {m t : Nat} : lU m (wl m t) (wl m t).length 0 = wl m (t + 1) := by
  unfold lU
  rw [List.take_length]
  simp [wl]
section
variable {T : Tab} {m N : Nat}
/-- the pairs so far -/
def byU (T : Tab) (m N t i : Nat) : List (List Nat × List Nat) := byW T m N t ++ (((wl m (t + 1)).take i).filter fun w => decide (PP T m N w)).map fun w => (w, W T m N (run T 0 w))
theorem byU_zero {t : Nat} : byU T m N t 0 = byW T m N t := by unfold byU; simp
theorem byU_all {t : Nat} : byU T m N t (wl m (t + 1)).length = byW T m N (t + 1) := by
  unfold byU byW
  rw [List.take_length, List.range_succ, List.flatMap_append]
  simp
theorem byU_yes {t i : Nat} (h : i < (wl m (t + 1)).length) (p : PP T m N ((wl m (t + 1)).getD i [])) : byU T m N t (i + 1) = byU T m N t i ++ [((wl m (t + 1)).getD i [], W T m N (run T 0 ((wl m (t + 1)).getD i [])))] := by
  unfold byU
  rw [take_snoc [] h, List.filter_append, List.map_append, List.append_assoc]
  generalize (wl m (t + 1)).getD i [] = x at *
  simp [p]
theorem byU_no {t i : Nat} (h : i < (wl m (t + 1)).length) (p : ¬ PP T m N ((wl m (t + 1)).getD i [])) : byU T m N t (i + 1) = byU T m N t i := by
  unfold byU
  rw [take_snoc [] h, List.filter_append, List.map_append]
  generalize (wl m (t + 1)).getD i [] = x at *
  simp [p]
theorem byW_len {t : Nat} (B : Nat) (hB : ∀ k, k < t → m ^ (k + 1) ≤ B) : (byW T m N t).length ≤ t * B := by
  have h := flat_len (fun t => ((wl m (t + 1)).filter fun w => decide (PP T m N w)).map fun w => (w, W T m N (run T 0 w))) B (List.range t) fun n hn => by
    rw [List.length_map]
    refine Nat.le_trans (List.length_filter_le _ _) ?_
    rw [wl_len]
    exact hB n (List.mem_range.mp hn)
  rw [List.length_range] at h
  exact h
theorem byU_len {t i : Nat} (B : Nat) (hB : ∀ k, k < t + 1 → m ^ (k + 1) ≤ B) : (byU T m N t i).length ≤ (t + 1) * B := by
  unfold byU
  rw [List.length_append, List.length_map]
  have h1 := byW_len (T := T) (m := m) (N := N) (t := t) B fun k hk => hB k (by omega)
  have h2 := List.length_filter_le (fun w => decide (PP T m N w)) ((wl m (t + 1)).take i)
  rw [List.length_take, wl_len] at h2
  have h3 := hB t (Nat.lt_succ_self _)
  rw [Nat.add_mul]
  have h4 : min i (m ^ (t + 1)) ≤ m ^ (t + 1) := Nat.min_le_right _ _
  omega
end
end Mon
namespace My
open PySem PySem.Spec L2 SX Mon
open PyProof.Rows hiding St
theorem Same.nn {H H' : Hp} {a : Addr} (s : Same H H') (n : H' a = none) : H a = none := by
  cases e : H a with
  | none => rfl
  | some o => rw [s _ _ e] at n; cases n
theorem inV_str {x : List Nat} : ∀ ws : List (List Nat), inV (.str (S x)) (txV ws) = decide (x ∈ ws)
  | [] => rfl
  | n :: ns => by
    show (eqV (.str (S n)) (.str (S x)) || inV (.str (S x)) (txV ns)) = _
    rw [inV_str ns]
    have e : eqV (.str (S n)) (.str (S x)) = decide (n = x) := by
      unfold eqV
      by_cases e : n = x
      · subst e; simp
      · have e2 : ¬ S n = S x := fun z => e (S_inj z)
        simp [e, e2]
    rw [e]
    by_cases h : x = n
    · subst h; simp
    · have h2 : ¬ n = x := fun z => h z.symm
      simp [h, h2]
theorem flat_strs (ws : List (List Nat)) : (txV ws).all flatV = true := by
  rw [List.all_eq_true]
  intro v hv
  obtain ⟨n, _, rfl⟩ := List.mem_map.mp hv
  rfl
theorem rd_notInS {K : PySem.W.Frag} {H : Hp} {Q : VK} {p : Addr} {x : List Nat} {ws : List (List Nat)} (h : SqL K H p (txV ws)) (q : Q (.bl (!decide (x ∈ ws))) H) : rIn K true (.str (S x)) (.ref p) H Q := ⟨p, _, rfl, .inl h, rfl, flat_strs ws, by rw [if_pos rfl, inV_str]; exact q⟩
/-! ### layers: words with what they do -/
section
variable {rows : Tab} {sz : Nat}
def LYs (rows : Tab) (sz : Nat) (H : Hp) (as : List Addr) (ws : List (List Nat)) : Prop := as.length = ws.length ∧ ∀ (i : Nat) (a : Addr) (u : List Nat), as[i]? = some a → ws[i]? = some u → ∃ b, H a = some (.tup [.str (S u), .ref b]) ∧ H b = some (.tup (rowV (Done.act rows sz u)))
def LY (rows : Tab) (sz : Nat) (H : Hp) (p : Addr) (ws : List (List Nat)) : Prop := ∃ as, H p = some (.lst (refs as)) ∧ LYs rows sz H as ws
theorem LYs.keep {H H' : Hp} {as : List Addr} {ws : List (List Nat)} (h : LYs rows sz H as ws) (k : ∀ a xs, H a = some (.tup xs) → H' a = some (.tup xs)) : LYs rows sz H' as ws := ⟨h.1, fun i a u e1 e2 => let ⟨b, q1, q2⟩ := h.2 i a u e1 e2; ⟨b, k _ _ q1, k _ _ q2⟩⟩
theorem LY.kq {H H' : Hp} {p : Addr} {ws : List (List Nat)} (h : LY rows sz H p ws) (k : Kq H H') : LY rows sz H' p ws := let ⟨as, h1, h2⟩ := h; ⟨as, k.1 _ _ h1, h2.keep k.2⟩
theorem LYs.snoc {H : Hp} {as : List Addr} {ws : List (List Nat)} {a b : Addr} {u : List Nat} (h : LYs rows sz H as ws) (q1 : H a = some (.tup [.str (S u), .ref b])) (q2 : H b = some (.tup (rowV (Done.act rows sz u)))) : LYs rows sz H (as ++ [a]) (ws ++ [u]) := by
  refine ⟨by simp [h.1], fun i c s e1 e2 => ?_⟩
  have hl := h.1
  by_cases hi : i < as.length
  · rw [List.getElem?_append_left hi] at e1
    rw [List.getElem?_append_left (by omega)] at e2
    exact h.2 i c s e1 e2
  · have hi2 : i = as.length := by
      have := (List.getElem?_eq_some_iff.mp e1).1
      simp at this; omega
    subst hi2
    rw [List.getElem?_append_right (Nat.le_refl _), Nat.sub_self] at e1
    cases e1
    rw [List.getElem?_append_right (by omega), show as.length - ws.length = 0 by omega] at e2
    cases e2
    exact ⟨b, q1, q2⟩
/-- one word more -/
theorem LY.snoc {H : Hp} {p a b : Addr} {ws : List (List Nat)} {u : List Nat} (h : LY rows sz H p ws) (q1 : H a = some (.tup [.str (S u), .ref b])) (q2 : H b = some (.tup (rowV (Done.act rows sz u)))) : ∃ xs, H p = some (.lst xs) ∧ xs.length = ws.length ∧ LY rows sz (L2.upd H p (.lst (xs ++ [.ref a]))) p (ws ++ [u]) := by
  obtain ⟨as, h1, h2⟩ := h
  refine ⟨refs as, h1, by rw [refs_len, h2.1], as ++ [a], by rw [upd_same, refs_snoc], (h2.snoc q1 q2).keep fun c xs e => ?_⟩
  rw [upd_ne (ne_of e h1 (fun z => nomatch z))]; exact e
/-- another list changes -/
theorem LY.other {H : Hp} {p r : Addr} {ws : List (List Nat)} {xs ys : List V} (h : LY rows sz H p ws) (hr : H r = some (.lst xs)) (n : p ≠ r) : LY rows sz (L2.upd H r (.lst ys)) p ws := by
  obtain ⟨as, h1, h2⟩ := h
  refine ⟨as, by rw [upd_ne n]; exact h1, h2.keep fun c xs e => ?_⟩
  rw [upd_ne (ne_of e hr (fun z => nomatch z))]; exact e
theorem Prs.other {H : Hp} {p r : Addr} {bs : List (List Nat × List Nat)} {xs ys : List V} (h : Prs H p bs) (hr : H r = some (.lst xs)) (n : p ≠ r) : Prs (L2.upd H r (.lst ys)) p bs := by
  obtain ⟨as, h1, h2, h3⟩ := h
  refine ⟨as, by rw [upd_ne n]; exact h1, h2, fun i a b e1 e2 => ?_⟩
  have := h3 i a b e1 e2
  rw [upd_ne (ne_of this hr (fun z => nomatch z))]; exact this
/-- one pair more -/
theorem Prs.snoc {H : Hp} {p a : Addr} {bs : List (List Nat × List Nat)} {b : List Nat × List Nat} (h : Prs H p bs) (q : H a = some (.tup [.str (S b.1), .str (S b.2)])) : ∃ xs, H p = some (.lst xs) ∧ xs.length = bs.length ∧ Prs (L2.upd H p (.lst (xs ++ [.ref a]))) p (bs ++ [b]) := by
  obtain ⟨as, h1, h2, h3⟩ := id h
  have hk : ∀ c ys, H c = some (.tup ys) → (L2.upd H p (.lst (refs as ++ [.ref a]))) c = some (.tup ys) := fun c ys e => by rw [upd_ne (ne_of e h1 (fun z => nomatch z))]; exact e
  obtain ⟨cs, c1, c2, c3⟩ := prs_snoc (q := a) (b := b) (H' := L2.upd H p (.lst (refs as ++ [.ref a]))) h (hk _ _ q) hk
  have e : refs cs = refs as := by rw [h1] at c1; exact (HO.lst.inj (Option.some.inj c1)).symm
  exact ⟨refs as, h1, by rw [refs_len, h2], c3 (by rw [upd_same, e])⟩
/-- the numbers of the maps -/
theorem keys_zip {H : Hp} {fs : List Addr} {F : Tab} (hl : fs.length = F.length) (h : ∀ (i : Nat) (a : Addr) (r : List Nat), fs[i]? = some a → F[i]? = some r → H a = some (.tup (rowV r))) (hn : F.Nodup) :
    ((((F.map kk).zip fs).map fun p => V.ref p.2) = refs fs) ∧ (((F.map kk).zip fs).map (·.1) = F.map kk) ∧ ((F.map kk).zip fs).length = F.length ∧ KeysAt H ((F.map kk).zip fs) ∧ (F.map kk).Nodup := by
  have e1 : ((F.map kk).zip fs).map (·.1) = F.map kk := List.map_fst_zip (by rw [List.length_map]; omega)
  have e2 : ((F.map kk).zip fs).map (·.2) = fs := List.map_snd_zip (by rw [List.length_map]; omega)
  refine ⟨?_, e1, by rw [List.length_zip, List.length_map]; omega, fun p hp => ?_, ?_⟩
  · unfold refs
    rw [← e2, List.map_map, e2]
    rfl
  · obtain ⟨i, hi⟩ := List.mem_iff_getElem?.mp hp
    rw [List.getElem?_zip_eq_some, List.getElem?_map] at hi
    obtain ⟨h1, h2⟩ := hi
    cases h3 : F[i]? with
    | none => rw [h3] at h1; cases h1
    | some r =>
      rw [h3] at h1
      have e : kk r = p.1 := Option.some.inj h1
      rw [← e, kk_map]
      exact h i p.2 r h2 h3
  · unfold List.Nodup
    rw [List.pairwise_map]
    exact List.Pairwise.imp (fun hab e => hab (kk_inj.mp e)) hn
end
end My
/-! list + list where the lists may be given ones. -/
namespace My
open PySem PySem.Spec L2 SX
open PyProof.Rows hiding St
def rCatK (K : PySem.W.Frag) : R2 := fun x y H Q => ∃ l b xs zs, x = .ref l ∧ y = .ref b ∧ SqL K H l xs ∧ SqL K H b zs ∧ xs.length + zs.length ≤ sizeLine ∧ ∀ p, H p = none → Q (.ref p) (L2.upd H p (.lst (xs ++ zs)))
theorem add_listsG {prog : Program} {w : World} {A : Around} {E : Value → Shared → Prop} {s : Shared} {l b : Addr} {vs ws : List Value} {Q : Value → Shared → Prop} (hl : s.heap.IsList l vs.toArray) (hb : s.heap.IsList b ws.toArray)
    (h : Q (.ref s.heap.objs.size) { s with heap := s.heap.push { cls := .type "list", data := .seq (vs ++ ws).toArray } })
    (hsz : vs.length + ws.length ≤ sizeLine) : wpAny (model prog w) A (binaryOp .Add (.ref l) (.ref b)) Q E s := by
  obtain ⟨⟨cls, dd, data, sl⟩, ho, hc, n, hd⟩ := id hl
  obtain ⟨⟨cls2, dd2, data2, sl2⟩, ho2, hc2, n2, hd2⟩ := id hb
  simp only at hc hd hc2 hd2
  subst hc hd hc2 hd2
  have e : vs.toArray ++ ws.toArray = (vs ++ ws).toArray := by simp
  refine PySem.concat_meets ⟨_, ho, rfl⟩ ⟨_, ho2, rfl⟩ PySem.noFill_list_add PySem.seq_list_add PySem.F.slot_list_add PySem.F.entry_list_add (PySem.F.args_list_add_2 _ _) (PyProof.Rows.list_addW l b vs.toArray ws.toArray n n2 dd dd2 sl sl2 (by simpa using hsz)) ⟨ho, ho2, ?_⟩
  rw [e]
  exact h
theorem op_catK {X : Cx} (K : PySem.W.Frag) (hK : X.K = K) : OpR X (binaryOp .Add) (rCatK K) := by
  subst hK
  intro pins s σ H x y v u Q I rx ry h
  obtain ⟨l, b, xs, zs, rfl, rfl, hH, hB, hz, q⟩ := h
  cases rx
  cases ry
  obtain ⟨its, r, pl, _⟩ := I.list hH
  obtain ⟨its2, r2, pl2, _⟩ := I.list hB
  refine add_listsG pl.isList pl2.isList ?_ (by rw [← r.length, ← r2.length]; exact hz)
  exact ⟨.ref _, _, I.lnew (t' := s.toks) (r.append r2) (by rw [List.length_append]; omega), rfl, q _ I.fresh⟩
theorem rd_catK {K : PySem.W.Frag} {H : Hp} {Q : VK} {l b : Addr} {xs zs : List V} (h1 : SqL K H l xs) (h2 : SqL K H b zs) (hl : xs.length + zs.length ≤ 100000) (q : ∀ p, H p = none → Q (.ref p) (L2.upd H p (.lst (xs ++ zs)))) : rCatK K (.ref l) (.ref b) H Q := ⟨l, b, xs, zs, rfl, rfl, h1, h2, sz hl, q⟩
end My
namespace Mon
/-! ### least words from one node: by going through nodes in order -/
def go (st : Nat → Nat → Nat) (one : Nat) (w : List Nat) : Nat := w.foldl (fun n c => st n (c - 97)) one
theorem go_snoc (st : Nat → Nat → Nat) (one : Nat) (w : List Nat) (c : Nat) : go st one (w ++ [c]) = st (go st one w) (c - 97) := by
  unfold go; rw [List.foldl_append]; rfl
/-- o is the least word of which P holds; none if there is none -/
def IsLP (P : List Nat → Prop) (m : Nat) (o : Option (List Nat)) : Prop :=
  (∀ w, o = some w → Lt m w ∧ P w ∧ ∀ v, Lt m v → P v → v = w ∨ slt w v) ∧ (o = none → ∀ v, Lt m v → ¬ P v)
theorem IsLP.uniq {P : List Nat → Prop} {m : Nat} {o p : Option (List Nat)} (h : IsLP P m o) (k : IsLP P m p) : o = p := by
  cases o with
  | none =>
    cases p with
    | none => rfl
    | some v => exact absurd (k.1 v rfl).2.1 (h.2 rfl v (k.1 v rfl).1)
  | some w =>
    cases p with
    | none => exact absurd (h.1 w rfl).2.1 (k.2 rfl w (h.1 w rfl).1)
    | some v =>
      obtain ⟨a1, a2, a3⟩ := h.1 w rfl
      obtain ⟨b1, b2, b3⟩ := k.1 v rfl
      rcases a3 v b1 b2 with e | e
      · rw [e]
      · rcases b3 w a1 a2 with e2 | e2
        · rw [e2]
        · exact absurd (slt_trans e e2) (slt_irr _)
/-- o is the least word that leads from one to x; none if there is none -/
abbrev IsLw (st : Nat → Nat → Nat) (m one x : Nat) (o : Option (List Nat)) : Prop := IsLP (fun w => go st one w = x) m o
abbrev Kw := List (Nat × List Nat)
def keys (kw : Kw) : List Nat := kw.map (·.1)
theorem mem_keys {kw : Kw} {x : Nat} : x ∈ keys kw ↔ ∃ p ∈ kw, p.1 = x := by unfold keys; rw [List.mem_map]
theorem keys_at {kw : Kw} {x : Nat} (h : x ∈ keys kw) : ∃ (i : Nat) (p : Nat × List Nat), kw[i]? = some p ∧ p.1 = x := by
  obtain ⟨p, hp, e⟩ := mem_keys.mp h
  obtain ⟨i, hi⟩ := List.mem_iff_getElem?.mp hp
  exact ⟨i, p, hi, e⟩
def add (st : Nat → Nat → Nat) (kw : Kw) (n : Nat) (u : List Nat) (l : Nat) : Kw := if st n l ∈ keys kw then kw else kw ++ [(st n l, u ++ [97 + l])]
structure Bf (st : Nat → Nat → Nat) (m one : Nat) (kw : Kw) (t l : Nat) : Prop where
  nd : (keys kw).Nodup
  wd : ∀ p ∈ kw, Lt m p.2 ∧ go st one p.2 = p.1
  so : (kw.map (·.2)).Pairwise slt
  hd : kw[0]? = some (one, [])
  cl : ∀ (i : Nat) (p : Nat × List Nat), kw[i]? = some p → ∀ c, c < m → (i < t ∨ (i = t ∧ c < l)) → st p.1 c ∈ keys kw
  mi : ∀ p ∈ kw, ∀ v, Lt m v → go st one v = p.1 → v = p.2 ∨ slt p.2 v
  fr : ∀ p ∈ kw, p.2 = [] ∨ ∃ (i : Nat) (q : Nat × List Nat) (c : Nat), kw[i]? = some q ∧ (i < t ∨ (i = t ∧ c < l)) ∧ p.2 = q.2 ++ [97 + c]
  ln : ∀ (i : Nat) (p : Nat × List Nat), kw[i]? = some p → p.2.length ≤ i
theorem slt_nil {v : List Nat} (h : v ≠ []) : slt [] v := .inl (by
  cases v with
  | nil => exact absurd rfl h
  | cons a v => simp)
theorem Bf.init (st : Nat → Nat → Nat) (m one : Nat) : Bf st m one [(one, [])] 0 0 := by
  refine ⟨List.pairwise_singleton _ _, fun p hp => ?_, List.pairwise_singleton _ _, rfl, fun i p _ c _ h => by omega, fun p hp v hv _ => ?_, fun p hp => ?_, fun i p h => ?_⟩
  · rw [List.mem_singleton.mp hp]; exact ⟨(fun c hc => by cases hc), rfl⟩
  · rw [List.mem_singleton.mp hp]
    by_cases e : v = []
    · exact .inl e
    · exact .inr (slt_nil e)
  · rw [List.mem_singleton.mp hp]; exact .inl rfl
  · rw [List.mem_singleton.mp (List.mem_of_getElem? h)]; exact Nat.zero_le _
section
variable {st : Nat → Nat → Nat} {m one : Nat} {kw : Kw} {t l : Nat}
theorem Bf.row (h : Bf st m one kw t m) : Bf st m one kw (t + 1) 0 :=
  ⟨h.nd, h.wd, h.so, h.hd, fun i p hi c hc e => h.cl i p hi c hc (by omega), h.mi, fun p hp => (h.fr p hp).imp id fun ⟨i, q, c, h1, h2, h3⟩ => ⟨i, q, c, h1, by omega, h3⟩, h.ln⟩
theorem so_at (h : (kw.map (·.2)).Pairwise slt) {i j : Nat} {p q : Nat × List Nat} (hi : kw[i]? = some p) (hj : kw[j]? = some q) (hij : i < j) : slt p.2 q.2 := by
  have h1 := List.getElem?_eq_some_iff.mp hi
  have h2 := List.getElem?_eq_some_iff.mp hj
  obtain ⟨a1, a2⟩ := h1
  obtain ⟨b1, b2⟩ := h2
  have h3 := List.pairwise_iff_getElem.mp h i j (by rw [List.length_map]; exact a1) (by rw [List.length_map]; exact b1) hij
  rw [List.getElem_map, List.getElem_map, a2, b2] at h3
  exact h3
/-- where a word leaves the known nodes -/
theorem leaves (h0 : one ∈ keys kw) : ∀ v, Lt m v → go st one v ∉ keys kw → ∃ (p q : List Nat) (c : Nat), c < m ∧ v = p ++ [97 + c] ++ q ∧ Lt m p ∧ go st one p ∈ keys kw ∧ st (go st one p) c ∉ keys kw := by
  refine rev_ind (fun _ h => absurd h0 h) fun w c ih hv hn => ?_
  have hw : Lt m w := fun x hx => hv x (by simp [hx])
  have hc := hv c (by simp)
  by_cases hk : go st one w ∈ keys kw
  · rw [go_snoc] at hn
    exact ⟨w, [], c - 97, by omega, by rw [show 97 + (c - 97) = c by omega]; simp, hw, hk, hn⟩
  · obtain ⟨p, q, d, h1, h2, h3, h4, h5⟩ := ih hw hk
    exact ⟨p, q ++ [c], d, h1, by rw [h2]; simp, h3, h4, h5⟩
theorem slt_pre {u v : List Nat} (q : List Nat) (h : v = u ∨ slt u v) : v ++ q = u ∨ slt u (v ++ q) := by
  by_cases e : q = []
  · rw [e, List.append_nil]; exact h
  · have h1 : 0 < q.length := List.length_pos_iff.mpr e
    refine .inr (.inl ?_)
    rw [List.length_append]
    rcases h with h | h | ⟨h, _⟩
    · rw [h]; omega
    · omega
    · omega
theorem Bf.one_mem (h : Bf st m one kw t l) : one ∈ keys kw := mem_keys.mpr ⟨_, List.mem_of_getElem? h.hd, rfl⟩
theorem Bf.step {n : Nat} {u : List Nat} (h : Bf st m one kw t l) (ht : kw[t]? = some (n, u)) (hl : l < m) : Bf st m one (add st kw n u l) t (l + 1) ∧ (add st kw n u l)[t]? = some (n, u) := by
  have hu := h.wd _ (List.mem_of_getElem? ht)
  unfold add
  by_cases hk : st n l ∈ keys kw
  · rw [if_pos hk]
    refine ⟨⟨h.nd, h.wd, h.so, h.hd, fun i p hi c hc e => ?_, h.mi, fun p hp => (h.fr p hp).imp id fun ⟨i, q, c, h1, h2, h3⟩ => ⟨i, q, c, h1, by omega, h3⟩, h.ln⟩, ht⟩
    by_cases e2 : i = t ∧ c = l
    · obtain ⟨rfl, rfl⟩ := e2
      rw [ht] at hi
      cases hi
      exact hk
    · exact h.cl i p hi c hc (by omega)
  · rw [if_neg hk]
    have hlen := (List.getElem?_eq_some_iff.mp ht).1
    have old : ∀ (i : Nat) (p : Nat × List Nat), kw[i]? = some p → (kw ++ [(st n l, u ++ [97 + l])])[i]? = some p := fun i p e => by
      rw [List.getElem?_append_left (List.getElem?_eq_some_iff.mp e).1]; exact e
    have back : ∀ (i : Nat) (p : Nat × List Nat), (kw ++ [(st n l, u ++ [97 + l])])[i]? = some p → kw[i]? = some p ∨ (i = kw.length ∧ p = (st n l, u ++ [97 + l])) := fun i p e => by
      by_cases hi : i < kw.length
      · rw [List.getElem?_append_left hi] at e; exact .inl e
      · have hi2 : i = kw.length := by
          have := (List.getElem?_eq_some_iff.mp e).1
          simp at this; omega
        subst hi2
        rw [List.getElem?_append_right (Nat.le_refl _), Nat.sub_self] at e
        exact .inr ⟨rfl, (Option.some.inj e).symm⟩
    have ek : keys (kw ++ [(st n l, u ++ [97 + l])]) = keys kw ++ [st n l] := by unfold keys; rw [List.map_append]; rfl
    refine ⟨⟨?_, fun p hp => ?_, ?_, old _ _ h.hd, fun i p hi c hc e => ?_, fun p hp v hv e => ?_, fun p hp => ?_, fun i p hi => ?_⟩, old _ _ ht⟩
    · rw [ek, List.nodup_append]
      refine ⟨h.nd, List.pairwise_singleton _ _, fun a ha b hb e => ?_⟩
      rw [List.mem_singleton.mp hb] at e
      exact hk (e ▸ ha)
    · rcases List.mem_append.mp hp with hp | hp
      · exact h.wd p hp
      · rw [List.mem_singleton.mp hp]
        refine ⟨fun c hc => ?_, by rw [go_snoc, hu.2, show 97 + l - 97 = l by omega]⟩
        rcases List.mem_append.mp hc with hc | hc
        · exact hu.1 c hc
        · rw [List.mem_singleton.mp hc]; omega
    · rw [List.map_append, List.pairwise_append]
      refine ⟨h.so, List.pairwise_singleton _ _, fun a ha b hb => ?_⟩
      obtain ⟨p, hp, rfl⟩ := List.mem_map.mp ha
      rw [List.mem_singleton.mp hb]
      show slt p.2 (u ++ [97 + l])
      rcases h.fr p hp with e | ⟨i, q, c, h1, h2, h3⟩
      · rw [e]; exact slt_nil (by simp)
      · rw [h3]
        rcases h2 with h2 | ⟨rfl, h2⟩
        · exact slt_app _ _ (so_at h.so h1 ht h2)
        · rw [ht] at h1
          cases h1
          exact slt_last _ (by omega)
    · rw [ek]
      rcases back i p hi with hi2 | ⟨rfl, rfl⟩
      · by_cases e2 : i = t ∧ c = l
        · obtain ⟨rfl, rfl⟩ := e2
          rw [ht] at hi2
          cases hi2
          exact List.mem_append_right _ (List.mem_singleton.mpr rfl)
        · exact List.mem_append_left _ (h.cl i p hi2 c hc (by omega))
      · omega
    · rcases List.mem_append.mp hp with hp | hp
      · exact h.mi p hp v hv e
      · rw [List.mem_singleton.mp hp] at e ⊢
        obtain ⟨p', q, c, h1, h2, h3, h4, h5⟩ := leaves (st := st) (m := m) h.one_mem v hv (by rw [e]; exact hk)
        obtain ⟨i, pr, hi, ei⟩ := keys_at h4
        have hmi := h.mi pr (List.mem_of_getElem? hi) p' h3 ei.symm
        have hlate : ¬ (i < t ∨ (i = t ∧ c < l)) := fun z => h5 (by rw [← ei]; exact h.cl i pr hi c h1 z)
        rw [h2]
        refine slt_pre q ?_
        by_cases hit : i = t
        · subst hit
          rw [ht] at hi
          cases hi
          rcases hmi with hmi | hmi
          · rw [hmi]
            by_cases hcl : c = l
            · rw [hcl]; exact .inl rfl
            · exact .inr (slt_last _ (by omega))
          · exact .inr (slt_app _ _ hmi)
        · have hs := so_at h.so ht hi (by omega)
          rcases hmi with hmi | hmi
          · rw [hmi]; exact .inr (slt_app _ _ hs)
          · exact .inr (slt_app _ _ (slt_trans hs hmi))
    · rcases List.mem_append.mp hp with hp | hp
      · exact (h.fr p hp).imp id fun ⟨i, q, c, h1, h2, h3⟩ => ⟨i, q, c, old _ _ h1, by omega, h3⟩
      · rw [List.mem_singleton.mp hp]
        exact .inr ⟨t, (n, u), l, old _ _ ht, by omega, rfl⟩
    · rcases back i p hi with hi | ⟨rfl, rfl⟩
      · exact h.ln i p hi
      · have := h.ln t _ ht
        rw [List.length_append]
        show u.length + 1 ≤ kw.length
        simp at this
        omega
/-- a known node -/
theorem Bf.known {x : Nat} {w : List Nat} (h : Bf st m one kw t l) (k : (x, w) ∈ kw) : IsLw st m one x (some w) :=
  ⟨fun v e => by cases e; exact ⟨(h.wd _ k).1, (h.wd _ k).2, h.mi _ k⟩, fun e => by cases e⟩
/-- all is gone through -/
theorem Bf.unknown {x : Nat} (h : Bf st m one kw kw.length 0) (k : x ∉ keys kw) : IsLw st m one x none := by
  refine ⟨(fun v e => by cases e), fun _ v hv e => ?_⟩
  obtain ⟨p, q, c, h1, h2, h3, h4, h5⟩ := leaves (st := st) (m := m) h.one_mem v hv (by rw [e]; exact k)
  obtain ⟨i, pr, hi, ei⟩ := keys_at h4
  exact h5 (by rw [← ei]; exact h.cl i pr hi c h1 (.inl (List.getElem?_eq_some_iff.mp hi).1))
theorem Bf.len_le {N : Nat} (h : Bf st m one kw t l) (h1 : one < N) (hs : ∀ n c, n < N → c < m → st n c < N) : kw.length ≤ N ∧ ∀ p ∈ kw, p.1 < N := by
  have hgo : ∀ w, Lt m w → go st one w < N := by
    refine rev_ind (fun _ => h1) fun w c ih hw => ?_
    rw [go_snoc]
    have hc := hw c (by simp)
    exact hs _ _ (ih fun x hx => hw x (by simp [hx])) (by omega)
  have hp : ∀ p ∈ kw, p.1 < N := fun p hp => by
    obtain ⟨a, b⟩ := h.wd p hp
    rw [← b]; exact hgo _ a
  refine ⟨?_, hp⟩
  have h2 := nodup_le N (keys kw) h.nd fun x hx => by
    obtain ⟨p, q, rfl⟩ := mem_keys.mp hx
    exact hp p q
  unfold keys at h2
  rwa [List.length_map] at h2
end
end Mon
namespace Mon
section
variable {st : Nat → Nat → Nat} {m one : Nat}
/-- all nodes that are reached can be gone through -/
theorem Bf.full {N : Nat} (h1 : one < N) (hs : ∀ n c, n < N → c < m → st n c < N) : ∀ (k : Nat) (kw : Kw) (t : Nat), Bf st m one kw t 0 → t ≤ kw.length → N - t ≤ k → ∃ kw', Bf st m one kw' kw'.length 0
  | 0, kw, t, h, ht, hk => by
    have hl := (h.len_le h1 hs).1
    have e : t = kw.length := by omega
    subst e
    exact ⟨kw, h⟩
  | k + 1, kw, t, h, ht, hk => by
    by_cases e : t = kw.length
    · subst e; exact ⟨kw, h⟩
    · have hlt : t < kw.length := by omega
      have hrow : ∀ l, l ≤ m → ∃ kw', Bf st m one kw' t l ∧ kw'[t]? = some kw[t] ∧ t < kw'.length := fun l => by
        induction l with
        | zero => exact fun _ => ⟨kw, h, List.getElem?_eq_getElem hlt, hlt⟩
        | succ l ih =>
          intro hl
          obtain ⟨kw', a, b, _⟩ := ih (by omega)
          obtain ⟨c, d⟩ := a.step (n := kw[t].1) (u := kw[t].2) b (by omega)
          exact ⟨_, c, d, (List.getElem?_eq_some_iff.mp d).1⟩
      obtain ⟨kw', a, _, b⟩ := hrow m (Nat.le_refl _)
      exact Bf.full h1 hs k kw' (t + 1) a.row b (by omega)
theorem short_of {N : Nat} (h1 : one < N) (hs : ∀ n c, n < N → c < m → st n c < N) {v : List Nat} (hv : Lt m v) : ∃ w, Lt m w ∧ go st one w = go st one v ∧ w.length < N := by
  obtain ⟨kw, h⟩ := Bf.full h1 hs N _ 0 (Bf.init st m one) (Nat.zero_le _) (by omega)
  by_cases k : go st one v ∈ keys kw
  · obtain ⟨i, p, hi, e⟩ := keys_at k
    have hp := h.wd p (List.mem_of_getElem? hi)
    have hl := h.ln i p hi
    have := (List.getElem?_eq_some_iff.mp hi).1
    have := (h.len_le h1 hs).1
    exact ⟨p.2, hp.1, by rw [hp.2, e], by omega⟩
  · exact absurd rfl ((h.unknown k).2 rfl v hv)
/-! ### layer by layer -/
def longer (st : Nat → Nat → Nat) (m : Nat) (ly : Kw) : Kw := ly.flatMap fun p => (List.range m).map fun l => (st p.1 l, p.2 ++ [97 + l])
structure Ls (st : Nat → Nat → Nat) (m one : Nat) (kw ly : Kw) (t : Nat) : Prop where
  nd : (keys kw).Nodup
  wd : ∀ p ∈ kw, Lt m p.2 ∧ go st one p.2 = p.1
  mi : ∀ p ∈ kw, ∀ v, Lt m v → go st one v = p.1 → v = p.2 ∨ slt p.2 v
  ls : ∀ p, p ∈ ly ↔ p ∈ kw ∧ p.2.length = t
  lb : ∀ p ∈ kw, p.2.length ≤ t
  so : (ly.map (·.2)).Pairwise slt
  re : ∀ v, Lt m v → v.length ≤ t → go st one v ∈ keys kw
theorem Ls.init (st : Nat → Nat → Nat) (m one : Nat) : Ls st m one [(one, [])] [(one, [])] 0 := by
  refine ⟨List.pairwise_singleton _ _, fun p hp => ?_, fun p hp v hv _ => ?_, fun p => ⟨fun h => ⟨h, ?_⟩, fun h => h.1⟩, fun p hp => ?_, List.pairwise_singleton _ _, fun v hv hl => ?_⟩
  · rw [List.mem_singleton.mp hp]; exact ⟨(fun c hc => by cases hc), rfl⟩
  · rw [List.mem_singleton.mp hp]
    by_cases e : v = []
    · exact .inl e
    · exact .inr (slt_nil e)
  · rw [List.mem_singleton.mp h]; rfl
  · rw [List.mem_singleton.mp hp]; exact Nat.le_refl _
  · have e : v = [] := List.length_eq_zero_iff.mp (by omega)
    subst e
    exact mem_keys.mpr ⟨_, List.mem_singleton.mpr rfl, rfl⟩
theorem longer_so {ly : Kw} (h : (ly.map (·.2)).Pairwise slt) : ((longer st m ly).map (·.2)).Pairwise slt := by
  unfold longer
  rw [List.pairwise_map] at h ⊢
  rw [List.pairwise_flatMap]
  refine ⟨fun p _ => ?_, h.imp fun {a b} hab x hx y hy => ?_⟩
  · rw [List.pairwise_map]
    exact List.pairwise_lt_range.imp fun h => slt_last _ (by omega)
  · obtain ⟨l, _, rfl⟩ := List.mem_map.mp hx
    obtain ⟨l', _, rfl⟩ := List.mem_map.mp hy
    exact slt_app _ _ hab
/-- amid a turn -/
structure Lm (st : Nat → Nat → Nat) (m one : Nat) (kw ly nx : Kw) (t i : Nat) : Prop where
  nd : (keys (kw ++ nx)).Nodup
  sub : ∀ p ∈ nx, p ∈ (longer st m ly).take i
  so : (nx.map (·.2)).Pairwise slt
  cov : ∀ p ∈ (longer st m ly).take i, p.1 ∈ keys (kw ++ nx)
  mi : ∀ p ∈ nx, ∀ v, Lt m v → go st one v = p.1 → v = p.2 ∨ slt p.2 v
variable {kw ly nx : Kw} {t i : Nat}
theorem Ls.begin (h : Ls st m one kw ly t) : Lm st m one kw ly [] t 0 :=
  ⟨by rw [List.append_nil]; exact h.nd, (fun p hp => by cases hp), List.Pairwise.nil, (fun p hp => by cases hp), (fun p hp => by cases hp)⟩
theorem Ls.long (h : Ls st m one kw ly t) {p : Nat × List Nat} (hp : p ∈ longer st m ly) : Lt m p.2 ∧ go st one p.2 = p.1 ∧ p.2.length = t + 1 := by
  unfold longer at hp
  obtain ⟨q, hq, hp⟩ := List.mem_flatMap.mp hp
  obtain ⟨l, hl, rfl⟩ := List.mem_map.mp hp
  have hl := List.mem_range.mp hl
  obtain ⟨h1, h2⟩ := (h.ls q).mp hq
  obtain ⟨h3, h4⟩ := h.wd q h1
  refine ⟨fun c hc => ?_, by rw [go_snoc, h4, show 97 + l - 97 = l by omega], by simp [h2]⟩
  rcases List.mem_append.mp hc with hc | hc
  · exact h3 c hc
  · rw [List.mem_singleton.mp hc]; omega
theorem keys_app (a b : Kw) : keys (a ++ b) = keys a ++ keys b := by unfold keys; rw [List.map_append]
theorem Lm.old {p : Nat × List Nat} (b : Ls st m one kw ly t) (h : Lm st m one kw ly nx t i) (hi : (longer st m ly)[i]? = some p) (k : p.1 ∈ keys (kw ++ nx)) : Lm st m one kw ly nx t (i + 1) := by
  have e : (longer st m ly).take (i + 1) = (longer st m ly).take i ++ [p] := by rw [List.take_succ, hi]; rfl
  refine ⟨h.nd, fun q hq => by rw [e]; exact List.mem_append_left _ (h.sub q hq), h.so, fun q hq => ?_, h.mi⟩
  rw [e] at hq
  rcases List.mem_append.mp hq with hq | hq
  · exact h.cov q hq
  · rw [List.mem_singleton.mp hq]; exact k
theorem Lm.new {p : Nat × List Nat} (b : Ls st m one kw ly t) (h : Lm st m one kw ly nx t i) (hi : (longer st m ly)[i]? = some p) (k : p.1 ∉ keys (kw ++ nx)) : Lm st m one kw ly (nx ++ [p]) t (i + 1) := by
  have e : (longer st m ly).take (i + 1) = (longer st m ly).take i ++ [p] := by rw [List.take_succ, hi]; rfl
  have hpl := b.long (List.mem_of_getElem? hi)
  have so := longer_so (st := st) (m := m) b.so
  have before : ∀ q ∈ (longer st m ly).take i, slt q.2 p.2 := fun q hq => by
    obtain ⟨j, hj⟩ := List.mem_iff_getElem?.mp hq
    have hji : j < i := by have := (List.getElem?_eq_some_iff.mp hj).1; simp at this; omega
    rw [List.getElem?_take_of_lt hji] at hj
    exact so_at so hj hi hji
  refine ⟨?_, fun q hq => ?_, ?_, fun q hq => ?_, fun q hq v hv hg => ?_⟩
  · rw [← List.append_assoc, keys_app, List.nodup_append]
    refine ⟨h.nd, List.pairwise_singleton _ _, fun x hx y hy e => ?_⟩
    have hy : y = p.1 := List.mem_singleton.mp hy
    rw [hy] at e
    exact k (e ▸ hx)
  · rw [e]
    rcases List.mem_append.mp hq with hq | hq
    · exact List.mem_append_left _ (h.sub q hq)
    · exact List.mem_append_right _ hq
  · rw [List.map_append, List.pairwise_append]
    refine ⟨h.so, List.pairwise_singleton _ _, fun x hx y hy => ?_⟩
    obtain ⟨q, hq, rfl⟩ := List.mem_map.mp hx
    rw [List.mem_singleton.mp hy]
    exact before q (h.sub q hq)
  · rw [e] at hq
    rw [← List.append_assoc, keys_app]
    rcases List.mem_append.mp hq with hq | hq
    · exact List.mem_append_left _ (h.cov q hq)
    · rw [List.mem_singleton.mp hq]; exact List.mem_append_right _ (List.mem_singleton.mpr rfl)
  · rcases List.mem_append.mp hq with hq | hq
    · exact h.mi q hq v hv hg
    · rw [List.mem_singleton.mp hq] at hg ⊢
      have hk : go st one v ∉ keys kw := fun z => k (by rw [← hg, keys_app]; exact List.mem_append_left _ z)
      have hlv : ¬ v.length ≤ t := fun z => hk (b.re v hv z)
      by_cases hlong : v.length = t + 1
      · rcases List.eq_nil_or_concat v with rfl | ⟨v', c, rfl⟩
        · simp at hlong
        · rw [List.concat_eq_append] at *
          have hv' : Lt m v' := fun x hx => hv x (by simp [hx])
          have hc := hv c (by simp)
          have hl' : v'.length = t := by simpa using hlong
          obtain ⟨y, hy, ey⟩ := mem_keys.mp (b.re v' hv' (by omega))
          have hwy := b.wd y hy
          have hgy : go st one (y.2 ++ [c]) = p.1 := by rw [go_snoc, hwy.2, ey, ← go_snoc st, hg]
          have hlty : Lt m (y.2 ++ [c]) := fun x hx => by
            rcases List.mem_append.mp hx with hx | hx
            · exact hwy.1 x hx
            · rw [List.mem_singleton.mp hx]; exact hc
          have hyl : y.2.length = t := by
            have h1 := b.lb y hy
            by_cases e2 : y.2.length = t
            · exact e2
            · exact absurd (b.re (y.2 ++ [c]) hlty (by simp; omega)) (by rw [hgy, ← hg]; exact hk)
          have hin : (st y.1 (c - 97), y.2 ++ [97 + (c - 97)]) ∈ longer st m ly := by
            unfold longer
            exact List.mem_flatMap.mpr ⟨y, (b.ls y).mpr ⟨hy, hyl⟩, List.mem_map.mpr ⟨c - 97, List.mem_range.mpr (by omega), rfl⟩⟩
          rw [show 97 + (c - 97) = c by omega] at hin
          have hst : st y.1 (c - 97) = p.1 := by rw [← hwy.2, ← go_snoc st]; exact hgy
          rw [hst] at hin
          have hvy : v' ++ [c] = y.2 ++ [c] ∨ slt (y.2 ++ [c]) (v' ++ [c]) := by
            rcases b.mi y hy v' hv' ey.symm with e3 | e3
            · rw [e3]; exact .inl rfl
            · exact .inr (slt_app _ _ e3)
          have hpy : y.2 ++ [c] = p.2 ∨ slt p.2 (y.2 ++ [c]) := by
            obtain ⟨j, hj⟩ := List.mem_iff_getElem?.mp hin
            by_cases hji : j < i
            · have : (p.1, y.2 ++ [c]) ∈ (longer st m ly).take i := List.mem_iff_getElem?.mpr ⟨j, by rw [List.getElem?_take_of_lt hji]; exact hj⟩
              exact absurd (h.cov _ this) k
            · by_cases hj2 : j = i
              · subst hj2
                rw [hi] at hj
                have := Option.some.inj hj
                rw [this]
                exact .inl rfl
              · exact .inr (so_at so hi hj (by omega))
          rcases hvy with e4 | e4
          · rw [e4]; exact hpy
          · rcases hpy with e5 | e5
            · rw [← e5]; exact .inr e4
            · exact .inr (slt_trans e5 e4)
      · exact .inr (.inl (by rw [hpl.2.2]; omega))
theorem Lm.done (b : Ls st m one kw ly t) (h : Lm st m one kw ly nx t (longer st m ly).length) : Ls st m one (kw ++ nx) nx (t + 1) := by
  have hnx : ∀ p ∈ nx, p ∈ longer st m ly := fun p hp => by have := h.sub p hp; rwa [List.take_length] at this
  refine ⟨h.nd, fun p hp => ?_, fun p hp => ?_, fun p => ⟨fun hp => ⟨List.mem_append_right _ hp, (b.long (hnx p hp)).2.2⟩, fun ⟨hp, hl⟩ => ?_⟩, fun p hp => ?_, h.so, fun v hv hl => ?_⟩
  · rcases List.mem_append.mp hp with hp | hp
    · exact b.wd p hp
    · exact ⟨(b.long (hnx p hp)).1, (b.long (hnx p hp)).2.1⟩
  · rcases List.mem_append.mp hp with hp | hp
    · exact b.mi p hp
    · exact h.mi p hp
  · rcases List.mem_append.mp hp with hp | hp
    · have := b.lb p hp; omega
    · exact hp
  · rcases List.mem_append.mp hp with hp | hp
    · have := b.lb p hp; omega
    · exact Nat.le_of_eq (b.long (hnx p hp)).2.2
  · by_cases hl2 : v.length ≤ t
    · rw [keys_app]; exact List.mem_append_left _ (b.re v hv hl2)
    · rcases List.eq_nil_or_concat v with rfl | ⟨v', c, rfl⟩
      · simp at hl2
      · rw [List.concat_eq_append] at *
        have hv' : Lt m v' := fun x hx => hv x (by simp [hx])
        have hc := hv c (by simp)
        have hl' : v'.length = t := by simp at hl hl2; omega
        obtain ⟨y, hy, ey⟩ := mem_keys.mp (b.re v' hv' (by omega))
        have hwy := b.wd y hy
        have hgy : go st one (y.2 ++ [c]) = go st one (v' ++ [c]) := by rw [go_snoc, hwy.2, ey, ← go_snoc st]
        have hlty : Lt m (y.2 ++ [c]) := fun x hx => by
          rcases List.mem_append.mp hx with hx | hx
          · exact hwy.1 x hx
          · rw [List.mem_singleton.mp hx]; exact hc
        by_cases e2 : y.2.length = t
        · have hin : (st y.1 (c - 97), y.2 ++ [97 + (c - 97)]) ∈ longer st m ly := by
            unfold longer
            exact List.mem_flatMap.mpr ⟨y, (b.ls y).mpr ⟨hy, e2⟩, List.mem_map.mpr ⟨c - 97, List.mem_range.mpr (by omega), rfl⟩⟩
          have := h.cov _ (by rw [List.take_length]; exact hin)
          rw [← hgy, go_snoc, hwy.2]
          exact this
        · have h1 := b.lb y hy
          rw [← hgy, keys_app]
          exact List.mem_append_left _ (b.re _ hlty (by simp; omega))
/-- behind as many turns as there are nodes all is known -/
theorem Ls.known {N x : Nat} {w : List Nat} (h : Ls st m one kw ly t) (k : (x, w) ∈ kw) : IsLw st m one x (some w) :=
  ⟨(fun v e => by cases e; exact ⟨(h.wd _ k).1, (h.wd _ k).2, h.mi _ k⟩), (fun e => by cases e)⟩
theorem Ls.unknown {N x : Nat} (h1 : one < N) (hs : ∀ n c, n < N → c < m → st n c < N) (h : Ls st m one kw ly N) (k : x ∉ keys kw) : IsLw st m one x none := by
  refine ⟨(fun v e => by cases e), fun _ v hv e => ?_⟩
  obtain ⟨w, a, b, c⟩ := short_of h1 hs hv
  exact k (by rw [← e, ← b]; exact h.re w a (by omega))
end
end Mon
namespace Mon
/-! ### all words to a length -/
def aw (m most : Nat) : List (List Nat) := (List.range (most + 1)).flatMap (wl m)
theorem aw_succ (m t : Nat) : aw m (t + 1) = aw m t ++ wl m (t + 1) := by
  unfold aw
  rw [List.range_succ, List.flatMap_append]
  simp
theorem mem_aw {m most : Nat} {w : List Nat} : w ∈ aw m most ↔ Lt m w ∧ w.length ≤ most := by
  unfold aw
  rw [List.mem_flatMap]
  constructor
  · rintro ⟨t, ht, hw⟩
    obtain ⟨h1, h2⟩ := (mem_wl t w).mp hw
    have := List.mem_range.mp ht
    exact ⟨h1, by omega⟩
  · rintro ⟨h1, h2⟩
    exact ⟨w.length, List.mem_range.mpr (by omega), (mem_wl _ w).mpr ⟨h1, rfl⟩⟩
theorem aw_so (m most : Nat) : (aw m most).Pairwise slt := by
  unfold aw
  rw [List.pairwise_flatMap]
  refine ⟨fun t _ => wl_sorted t, List.pairwise_lt_range.imp fun {a b} hab x hx y hy => ?_⟩
  have h1 := ((mem_wl _ x).mp hx).2
  have h2 := ((mem_wl _ y).mp hy).2
  exact .inl (by omega)
theorem find_lp {P : List Nat → Prop} [DecidablePred P] {m most : Nat} {o : Option (List Nat)} (h : IsLP P m o) :
    (∀ d, (aw m most).find? (fun w => decide (P w)) = some d → o = some d) ∧ ((aw m most).find? (fun w => decide (P w)) = none → ∀ w, o = some w → most < w.length) := by
  refine ⟨fun d hd => ?_, fun hn w hw => ?_⟩
  · obtain ⟨hp, as, bs, e, hb⟩ := List.find?_eq_some_iff_append.mp hd
    have hin : d ∈ aw m most := by rw [e]; simp
    have hdm := mem_aw.mp hin
    refine h.uniq ⟨fun w ew => ?_, fun e => by cases e⟩
    cases ew
    refine ⟨hdm.1, of_decide_eq_true hp, fun v hv hpv => ?_⟩
    by_cases hl : v.length ≤ most
    · have hvin : v ∈ aw m most := mem_aw.mpr ⟨hv, hl⟩
      rw [e] at hvin
      rcases List.mem_append.mp hvin with q | q
      · have := hb v q
        simp [hpv] at this
      · rcases List.mem_cons.mp q with q | q
        · exact .inl q
        · have so := aw_so m most
          rw [e] at so
          have so2 := (List.pairwise_append.mp so).2.1
          exact .inr ((List.pairwise_cons.mp so2).1 v q)
    · exact .inr (.inl (by omega))
  · obtain ⟨h1, h2, _⟩ := h.1 w hw
    by_cases hl : w.length ≤ most
    · have := List.find?_eq_none.mp hn w (mem_aw.mpr ⟨h1, hl⟩)
      simp [h2] at this
    · omega
/-! ### products -/
theorem mul_one {sz : Nat} {f : List Nat} (h : IsMap sz f) : mul f (List.range sz) = f := by
  refine list_ext0 (by unfold mul; simp) fun i hi => ?_
  have hi' : i < f.length := by unfold mul at hi; simpa using hi
  unfold mul
  rw [getD_map (d := 0) hi']
  have : f.getD i 0 < sz := getD_lt h (by rw [← h.1]; exact hi')
  generalize f.getD i 0 = x at this
  rw [List.getD_eq_getElem?_getD, List.getElem?_range this]; rfl
theorem run_app (T : Tab) (n : Nat) (u v : List Nat) : run T n (u ++ v) = run T (run T n u) v := by unfold run; rw [List.foldl_append]
section
variable {rows : Tab} {sz N : Nat}
theorem Done.act_app (d : Done rows sz N) {u : List Nat} (hu : Lt rows.length u) : ∀ v, Lt rows.length v → Done.act rows sz (u ++ v) = mul (Done.act rows sz u) (Done.act rows sz v) := by
  refine rev_ind (fun _ => ?_) fun v c ih h => ?_
  · rw [List.append_nil]
    exact (mul_one (d.act_map u hu)).symm
  · have hv : Lt rows.length v := fun x hx => h x (by simp [hx])
    rw [← List.append_assoc, d.act_snoc, ih hv, d.act_snoc, mul_assoc (d.act_map u hu) (d.act_map v hv)]
theorem Done.F_act (d : Done rows sz N) {x : Nat} (hx : x < N) : (fdT rows sz N).getD x [] = Done.act rows sz (W (tbT rows sz N) rows.length N x) := by
  have g := d.good
  rw [← d.F_run _ (g.ltW x hx), g.runW x hx]
theorem Done.mul_idx (d : Done rows sz N) {x y : Nat} (hx : x < N) (hy : y < N) : mul ((fdT rows sz N).getD x []) ((fdT rows sz N).getD y []) ∈ fdT rows sz N ∧ (fdT rows sz N).idxOf (mul ((fdT rows sz N).getD x []) ((fdT rows sz N).getD y [])) = run (tbT rows sz N) x (W (tbT rows sz N) rows.length N y) := by
  have g := d.good
  have hlt : Lt rows.length (W (tbT rows sz N) rows.length N x ++ W (tbT rows sz N) rows.length N y) := fun c hc => by
    rcases List.mem_append.mp hc with hc | hc
    · exact g.ltW x hx c hc
    · exact g.ltW y hy c hc
  have e : mul ((fdT rows sz N).getD x []) ((fdT rows sz N).getD y []) = Done.act rows sz (W (tbT rows sz N) rows.length N x ++ W (tbT rows sz N) rows.length N y) := by
    rw [d.F_act hx, d.F_act hy, d.act_app (g.ltW x hx) _ (g.ltW y hy)]
  rw [e]
  refine ⟨?_, ?_⟩
  · rw [← d.F_run _ hlt]
    exact getD_mem (by rw [d.stop]; exact g.run_lt _ hlt)
  · rw [d.run_idx hlt, run_app, g.runW x hx]
end
/-! ### from the left -/
section
variable {T : Tab} {m N : Nat}
/-- what a word makes of an element from the left -/
def la (T : Tab) (m N : Nat) (w : List Nat) (y : Nat) : Nat := run T 0 (w ++ W T m N y)
def sl (T : Tab) (m N : Nat) (y a : Nat) : Nat := (Lf T m N y).getD a 0
theorem Lt_app {m : Nat} {u v : List Nat} (hu : Lt m u) (hv : Lt m v) : Lt m (u ++ v) := fun c hc => (List.mem_append.mp hc).elim (hu c) (hv c)
theorem Good.sl_run (g : Good T m N) (p : Prod T m N) {z : List Nat} (hz : Lt m z) {a : Nat} (ha : a < m) : run T 0 ((97 + a) :: z) = sl T m N (run T 0 z) a := g.cong p ha z hz
theorem Good.sl_lt (g : Good T m N) {y a : Nat} (hy : y < N) (ha : a < m) : sl T m N y a < N := by
  unfold sl
  rw [g.Lf_run y hy a ha]
  refine g.run_lt _ fun c hc => ?_
  rcases List.mem_cons.mp hc with hc | hc
  · omega
  · exact g.ltW y hy c hc
theorem Good.app_cong (g : Good T m N) (p : Prod T m N) {z z' : List Nat} (hz : Lt m z) (hz' : Lt m z') (e : run T 0 z = run T 0 z') : ∀ w, Lt m w → run T 0 (w ++ z) = run T 0 (w ++ z')
  | [], _ => e
  | c :: w, h => by
    have hc := h c List.mem_cons_self
    have hw : Lt m w := fun x hx => h x (List.mem_cons_of_mem _ hx)
    have ih := g.app_cong p hz hz' e w hw
    have ec : c = 97 + (c - 97) := by omega
    rw [List.cons_append, List.cons_append, ec, g.sl_run p (Lt_app hw hz) (by omega), g.sl_run p (Lt_app hw hz') (by omega), ih]
theorem Good.la_lt (g : Good T m N) {w : List Nat} {y : Nat} (hw : Lt m w) (hy : y < N) : la T m N w y < N := g.run_lt _ (Lt_app hw (g.ltW y hy))
theorem Good.la_nil (g : Good T m N) {y : Nat} (hy : y < N) : la T m N [] y = y := g.runW y hy
theorem Good.la_one (g : Good T m N) {y a : Nat} (hy : y < N) (ha : a < m) : la T m N [97 + a] y = sl T m N y a := (g.Lf_run y hy a ha).symm
theorem Good.la_app (g : Good T m N) (p : Prod T m N) {u v : List Nat} {y : Nat} (hu : Lt m u) (hv : Lt m v) (hy : y < N) : la T m N (u ++ v) y = la T m N u (la T m N v y) := by
  unfold la
  have hz : Lt m (v ++ W T m N y) := Lt_app hv (g.ltW y hy)
  have hr := g.run_lt _ hz
  rw [List.append_assoc]
  exact g.app_cong p hz (g.ltW _ hr) (g.runW _ hr).symm u hu
theorem Good.go_la (g : Good T m N) (p : Prod T m N) {one : Nat} (ho : one < N) : ∀ w, Lt m w → go (sl T m N) one w = la T m N w.reverse one := by
  refine rev_ind (fun _ => (g.la_nil ho).symm) fun w c ih h => ?_
  have hc := h c (by simp)
  have hw : Lt m w := fun x hx => h x (by simp [hx])
  have hr : Lt m w.reverse := fun x hx => hw x (List.mem_reverse.mp hx)
  have ec : c = 97 + (c - 97) := by omega
  rw [go_snoc, ih hw, List.reverse_append, List.reverse_singleton, g.la_app p (fun x hx => by rw [List.mem_singleton.mp hx]; exact hc) hr ho]
  conv => rhs; rw [ec]
  rw [g.la_one (g.la_lt hr ho) (by omega)]
theorem Good.la_go (g : Good T m N) (p : Prod T m N) {one : Nat} (ho : one < N) {v : List Nat} (hv : Lt m v) : la T m N v one = go (sl T m N) one v.reverse := by
  have hr : Lt m v.reverse := fun x hx => hv x (List.mem_reverse.mp hx)
  rw [g.go_la p ho _ hr, List.reverse_reverse]
/-! the layers of distances -/
def layer (kw : Kw) (k : Nat) : List Nat := (kw.filter fun p => decide (p.2.length = k)).map (·.1)
theorem mem_layer {kw : Kw} {k y : Nat} : y ∈ layer kw k ↔ ∃ p ∈ kw, p.1 = y ∧ p.2.length = k := by
  unfold layer
  rw [List.mem_map]
  constructor
  · rintro ⟨p, hp, rfl⟩
    obtain ⟨h1, h2⟩ := List.mem_filter.mp hp
    exact ⟨p, h1, rfl, of_decide_eq_true h2⟩
  · rintro ⟨p, h1, rfl, h2⟩
    exact ⟨p, List.mem_filter.mpr ⟨h1, decide_eq_true h2⟩, rfl⟩
/-- the elements from which a letter leads to a goal -/
def ledBy (T : Tab) (m N : Nat) (nums goals : List Nat) (a : Nat) : List Nat := nums.filter fun y => decide (sl T m N y a ∈ goals)
theorem mem_ledBy {nums goals : List Nat} {a y : Nat} : y ∈ ledBy T m N nums goals a ↔ y ∈ nums ∧ sl T m N y a ∈ goals := by
  unfold ledBy
  rw [List.mem_filter, decide_eq_true_eq]
structure Lg (T : Tab) (m N : Nat) (kw : Kw) (one other d k : Nat) (word goals : List Nat) : Prop where
  kd : k ≤ d
  wl : word.length = d - k
  lt : Lt m word
  gs : ∀ y, y ∈ goals ↔ y ∈ layer kw k ∧ la T m N word y = other
  ne : goals ≠ []
  le : ∀ v, Lt m v → v.length = d → la T m N v one = other → word = v.take (d - k) ∨ word < v.take (d - k)
structure Far (T : Tab) (m N : Nat) (kw : Kw) (one other d : Nat) : Prop where
  g : Good T m N
  p : Prod T m N
  b : Bf (sl T m N) m one kw kw.length 0
  o : one < N
  x : other ∈ layer kw d
namespace Far
variable {kw : Kw} {one other d k : Nat} {word goals : List Nat} (F : Far T m N kw one other d)
include F
theorem lay_lt {k y : Nat} (h : y ∈ layer kw k) : y < N := by
  obtain ⟨p, hp, rfl, _⟩ := mem_layer.mp h
  exact (F.b.len_le F.o fun n c hn hc => F.g.sl_lt hn hc).2 p hp
theorem far_le {x k : Nat} (hx : x ∈ layer kw k) {v : List Nat} (hv : Lt m v) (e : la T m N v one = x) : k ≤ v.length := by
  obtain ⟨p, hp, rfl, hk⟩ := mem_layer.mp hx
  have hr : Lt m v.reverse := fun x hx => hv x (List.mem_reverse.mp hx)
  have := F.b.mi p hp v.reverse hr (by rw [← F.g.la_go F.p F.o hv]; exact e)
  have hl : v.reverse.length = v.length := List.length_reverse
  rcases this with h | h | ⟨h, _⟩
  · rw [h] at hl; omega
  · omega
  · omega
/-- what is led to by a word stands in a layer -/
theorem in_lay {v : List Nat} (hv : Lt m v) : ∃ k, la T m N v one ∈ layer kw k ∧ k ≤ v.length := by
  have hr : Lt m v.reverse := fun x hx => hv x (List.mem_reverse.mp hx)
  have hk : la T m N v one ∈ keys kw := by
    by_cases h : la T m N v one ∈ keys kw
    · exact h
    · exact absurd (F.g.la_go F.p F.o hv).symm ((F.b.unknown h).2 rfl v.reverse hr)
  obtain ⟨p, hp, e⟩ := mem_keys.mp hk
  have hl : la T m N v one ∈ layer kw p.2.length := mem_layer.mpr ⟨p, hp, e, rfl⟩
  exact ⟨_, hl, F.far_le hl hv rfl⟩
/-- an element of a layer is led to by a word of that length -/
theorem of_lay {k y : Nat} (h : y ∈ layer kw k) : ∃ v, Lt m v ∧ la T m N v one = y ∧ v.length = k := by
  obtain ⟨p, hp, e, hk⟩ := mem_layer.mp h
  obtain ⟨h1, h2⟩ := F.b.wd p hp
  exact ⟨p.2.reverse, fun x hx => h1 x (List.mem_reverse.mp hx), by rw [← F.g.go_la F.p F.o _ h1, h2, e], by rw [List.length_reverse, hk]⟩
theorem lay_inj {a b y : Nat} (ha : y ∈ layer kw a) (hb : y ∈ layer kw b) : a = b := by
  obtain ⟨v, v1, v2, v3⟩ := F.of_lay ha
  obtain ⟨w, w1, w2, w3⟩ := F.of_lay hb
  have h1 := F.far_le ha w1 w2
  have h2 := F.far_le hb v1 v2
  omega
/-- behind a word of the right length the layer is the next one -/
theorem next_lay {k y : Nat} {w : List Nat} (hw : Lt m w) (hl : w.length + k = d) {v : List Nat} (hv : Lt m v) (hvl : v.length = k) (hy : la T m N v one = y) (e : la T m N w y = other) : y ∈ layer kw k := by
  obtain ⟨j, h1, h2⟩ := F.in_lay hv
  rw [hy] at h1
  obtain ⟨u, u1, u2, u3⟩ := F.of_lay h1
  have h3 := F.far_le F.x (Lt_app hw u1) (by rw [F.g.la_app F.p hw u1 F.o, u2]; exact e)
  rw [List.length_append] at h3
  have : j = k := by omega
  rw [← this]; exact h1
theorem start : Lg T m N kw one other d d [] [other] := by
  refine ⟨Nat.le_refl _, by simp, (fun c hc => by cases hc), fun y => ?_, by simp, fun v _ _ _ => .inl (by simp)⟩
  rw [List.mem_singleton]
  constructor
  · intro e
    subst e
    exact ⟨F.x, F.g.la_nil (F.lay_lt F.x)⟩
  · rintro ⟨h1, h2⟩
    rw [F.g.la_nil (F.lay_lt h1)] at h2
    exact h2
theorem led_ne (L : Lg T m N kw one other d (k + 1) word goals) : ∃ a, a < m ∧ ledBy T m N (layer kw k) goals a ≠ [] := by
  obtain ⟨z, hz⟩ := List.exists_mem_of_ne_nil _ L.ne
  obtain ⟨h1, h2⟩ := (L.gs z).mp hz
  obtain ⟨v, v1, v2, v3⟩ := F.of_lay h1
  cases v with
  | nil => cases v3
  | cons c v =>
    have hc := v1 c List.mem_cons_self
    have hv : Lt m v := fun x hx => v1 x (List.mem_cons_of_mem _ hx)
    have hy := F.g.la_lt hv F.o
    have e1 : la T m N (c :: v) one = sl T m N (la T m N v one) (c - 97) := by
      have := F.g.la_app F.p (u := [c]) (v := v) (y := one) (fun x hx => by rw [List.mem_singleton.mp hx]; exact hc) hv F.o
      rw [show [c] ++ v = c :: v from rfl] at this
      rw [this]
      conv => lhs; rw [show c = 97 + (c - 97) by omega]
      exact F.g.la_one hy (by omega)
    have hvl : v.length = k := by simpa using v3
    have hlay : la T m N v one ∈ layer kw k := by
      refine F.next_lay (w := word ++ [c]) (Lt_app L.lt fun x hx => by rw [List.mem_singleton.mp hx]; exact hc) ?_ hv hvl rfl ?_
      · rw [List.length_append, L.wl]
        have := L.kd
        show d - (k + 1) + 1 + k = d
        omega
      · rw [F.g.la_app F.p L.lt (fun x hx => by rw [List.mem_singleton.mp hx]; exact hc) hy]
        conv => lhs; rw [show c = 97 + (c - 97) by omega]
        rw [F.g.la_one hy (by omega), ← e1, v2]
        exact h2
    refine ⟨c - 97, by omega, fun hnil => ?_⟩
    have : la T m N v one ∈ ledBy T m N (layer kw k) goals (c - 97) := mem_ledBy.mpr ⟨hlay, by rw [← e1, v2]; exact hz⟩
    rw [hnil] at this
    cases this
theorem led_iff (L : Lg T m N kw one other d (k + 1) word goals) {a y : Nat} (ha : a < m) : y ∈ ledBy T m N (layer kw k) goals a ↔ y ∈ layer kw k ∧ la T m N (word ++ [97 + a]) y = other := by
  have ha1 : Lt m [97 + a] := fun x hx => by rw [List.mem_singleton.mp hx]; omega
  rw [mem_ledBy]
  constructor
  · rintro ⟨h1, h2⟩
    have hy := F.lay_lt h1
    refine ⟨h1, ?_⟩
    rw [F.g.la_app F.p L.lt ha1 hy, F.g.la_one hy ha]
    exact ((L.gs _).mp h2).2
  · rintro ⟨h1, h2⟩
    have hy := F.lay_lt h1
    rw [F.g.la_app F.p L.lt ha1 hy, F.g.la_one hy ha] at h2
    refine ⟨h1, (L.gs _).mpr ⟨?_, h2⟩⟩
    obtain ⟨v, v1, v2, v3⟩ := F.of_lay h1
    refine F.next_lay (w := word) (v := (97 + a) :: v) L.lt (by rw [L.wl]; have := L.kd; omega) (fun x hx => ?_) (by simp [v3]) ?_ h2
    · rcases List.mem_cons.mp hx with hx | hx
      · omega
      · exact v1 x hx
    · have := F.g.la_app F.p (u := [97 + a]) (v := v) (y := one) ha1 v1 F.o
      rw [show [97 + a] ++ v = (97 + a) :: v from rfl, v2, F.g.la_one hy ha] at this
      exact this
theorem step (L : Lg T m N kw one other d (k + 1) word goals) {a : Nat} (ha : a < m) (hne : ledBy T m N (layer kw k) goals a ≠ []) (hmin : ∀ c, c < a → ledBy T m N (layer kw k) goals c = []) : Lg T m N kw one other d k (word ++ [97 + a]) (ledBy T m N (layer kw k) goals a) := by
  have ha1 : Lt m [97 + a] := fun x hx => by rw [List.mem_singleton.mp hx]; omega
  have hkd := L.kd
  refine ⟨by omega, by rw [List.length_append, L.wl]; show d - (k + 1) + 1 = d - k; omega, Lt_app L.lt ha1, fun y => F.led_iff L ha, hne, fun v hv hvl e => ?_⟩
  have hj : d - (k + 1) < v.length := by omega
  have ek : d - k = d - (k + 1) + 1 := by omega
  have hc := hv v[d - (k + 1)] (List.getElem_mem hj)
  have et : v.take (d - k) = v.take (d - (k + 1)) ++ [v[d - (k + 1)]] := by
    rw [ek, List.take_succ, List.getElem?_eq_getElem hj]; rfl
  rw [et]
  generalize v[d - (k + 1)] = c at hc et
  rcases L.le v hv hvl e with h | h
  · by_cases hca : 97 + a = c
    · rw [h, ← hca]; exact .inl rfl
    · by_cases hlt : 97 + a < c
      · rw [← h]; exact .inr (app_lt hlt _)
      · exfalso
        have hnil := hmin (c - 97) (by omega)
        have hdr : Lt m (v.drop (d - k)) := fun x hx => hv x (List.mem_of_mem_drop hx)
        have htk : Lt m (v.take (d - k)) := fun x hx => hv x (List.mem_of_mem_take hx)
        have hy := F.g.la_lt hdr F.o
        have ee : la T m N (v.take (d - k)) (la T m N (v.drop (d - k)) one) = other := by
          rw [← F.g.la_app F.p htk hdr F.o, List.take_append_drop]; exact e
        have hlay : la T m N (v.drop (d - k)) one ∈ layer kw k := F.next_lay htk (by rw [List.length_take]; omega) hdr (by rw [List.length_drop]; omega) rfl ee
        have : la T m N (v.drop (d - k)) one ∈ ledBy T m N (layer kw k) goals (c - 97) := by
          refine (F.led_iff L (by omega)).mpr ⟨hlay, ?_⟩
          rw [show 97 + (c - 97) = c by omega, h, ← et]
          exact ee
        rw [hnil] at this
        cases this
  · exact .inr (lt_app _ _ (by rw [L.wl, List.length_take]; omega) h)
theorem fin (L : Lg T m N kw one other d 0 word goals) : IsLP (fun w => la T m N w one = other) m (some word) := by
  obtain ⟨y, hy⟩ := List.exists_mem_of_ne_nil _ L.ne
  obtain ⟨h1, h2⟩ := (L.gs y).mp hy
  obtain ⟨v, v1, v2, v3⟩ := F.of_lay h1
  have ev : v = [] := List.length_eq_zero_iff.mp v3
  subst ev
  rw [F.g.la_nil F.o] at v2
  subst v2
  refine ⟨fun w e => ?_, (fun e => by cases e)⟩
  cases e
  refine ⟨L.lt, h2, fun u hu eu => ?_⟩
  have hl := F.far_le F.x hu eu
  have hwl := L.wl
  by_cases e : u.length = d
  · have h := L.le u hu e eu
    rw [List.take_of_length_le (by omega)] at h
    rcases h with h | h
    · exact .inl h.symm
    · exact .inr (.inr ⟨by omega, h⟩)
  · exact .inr (.inl (by omega))
end Far
end
end Mon
/-! setdefault with tuples as keys; sorted(xs, key=lambda pair: pair[1]) of pairs of a number and a text that stand in order. -/
namespace My
open PySem PySem.Spec L2 SX LamX
open PyProof.Rows hiding St
section
variable {X : Cx} {pins : List (Addr × Obj)} {σ : St} {H : Hp} {s : Shared} {a b : Addr} {A : Around} {E : Value → Shared → Prop} {v : V} {r : Value} {k : List Key} {kvs : List (List Key × V)}
theorem d_setdT {Q : Value → Shared → Prop} (hu : A.units + 1 < cLine) (I : Inv X pins σ H s) (e : H a = some (.dT kvs)) (eb : H b = some (.tup (k.map kV))) (rv : RelV v r) (hl : kvs.length < sizeLine)
    (h1 : ∀ x, valV kvs k = some x → ∀ w' s', Inv X pins σ H s' → RelV x w' → Q w' s') (h2 : valV kvs k = none → ∀ w' s', Inv X pins σ (L2.upd H a (.dT (putK kvs k v))) s' → RelV v w' → Q w' s') :
    wpAny (model X.prog X.w) A (call (.builtin "dict.setdefault") [.ref a, .ref b, r]) Q E s := by
  obtain ⟨zl, notm, ents, rel, dict0⟩ := dt_of I.hok e
  have entl : ents.length ≤ sizeLine := Nat.le_trans (Nat.le_of_eq (Paired.length rel).symm) zl
  have hl2 : (putK kvs k v).length ≤ sizeLine := Nat.le_trans (length_putK kvs k v) hl
  have hval := rel.val k
  refine call_setdefault_heap (knd := tupleKind (mixKind X.prog X.w)) (k := k) (tupleKind_room_in1 hu) (key_of I.hok eb) notm dict0 (fun p hp => ?_) (fun hn hnew dict1 same1 => ?_) entl
  · cases hv : valV kvs k with
    | none => rw [hv, hp] at hval; exact False.elim hval
    | some x =>
      rw [hv, hp] at hval
      exact h1 x hv _ _ (I.tok _) hval
  · cases hv : valV kvs k with
    | some x => rw [hv, hn] at hval; exact False.elim hval
    | none =>
      obtain ⟨ob, es1, ep1, got, g2, g3, g4, _, g5⟩ := dict1
      refine h2 hv r _ (d_write I (by rw [e]; exact True.intro) same1 ⟨ob, got⟩ ⟨hl2, notm, _, (rel.put k eb rv).keeps fun c ys ec => ?_, ob, es1, ep1, got, g2, g3, g4, g5⟩) rv
      have cna : c ≠ a := ne_of ec e (fun z => nomatch z)
      rw [upd_ne cna]; exact ec
end
def tDSetdT (td ty tx : TE) : TE := fun σ H Q => td σ H fun x H1 => ∃ a, x = .ref a ∧ IsD H1 a ∧ ty σ H1 fun y H2 => tx σ H2 fun z H3 => ∃ (kvs : List (List Key × V)) (k : List Key) (b : Addr), H3 a = some (.dT kvs) ∧ y = .ref b ∧ H3 b = some (.tup (k.map kV)) ∧ kvs.length < sizeLine ∧
  (∀ v, valV kvs k = some v → Q v H3) ∧ (valV kvs k = none → Q z (L2.upd H3 a (.dT (putK kvs k z))))
section
variable {X : Cx} {o e f : Expr} {td ty tx : TE} {apos cpos : Pos}
theorem pe_dsetdT (hu : X.A.units + 1 < cLine) (ho : PE X o td) (he : PE X e ty) (hf : PE X f tx) (m : M2 X o "setdefault" apos e f cpos) : PE X (.Call (.Attribute o "setdefault" apos) [e, f] [] cpos) (tDSetdT td ty tx) := by
  refine ⟨fun pins s σ H Q I h => ?_⟩
  refine wpAny_Call_method m.base m.few m.line PySem.F.plainAttrs_dict PySem.F.slot_dict_setdefault PySem.F.type_dict_setdefault (thn (ho.run pins s σ H _ I h) fun dv s1 ⟨x, H1, I1, rx, a, ex, isd, q1⟩ => ?_)
  subst ex
  obtain rfl : dv = Value.ref a := rx
  obtain ⟨p1, p2, _⟩ := isD_at I1 isd
  refine ⟨p1, p2, ?_⟩
  rw [m.trees]
  refine Calls.callWith_builtin rfl (Calls.evalArgs_plain (Calls.spliced_cons (thn (he.run pins s1 σ H1 _ I1 q1) fun kv s2 ⟨y, H2, I2, ry, q2⟩ => Calls.spliced_cons (thn (hf.run pins s2 σ H2 _ I2 q2) fun fv s3 ⟨z, H3, I3, rz, kvs, k, b, ea, ey, eb, hl, q3, q4⟩ => Calls.spliced_nil ?_))))
  subst ey
  obtain rfl : kv = Value.ref b := ry
  exact d_setdT hu I3 ea eb rz hl (fun v hv w' s4 I4 rw' => ⟨v, _, I4, rw', q3 v hv⟩) fun hn w' s4 I4 rw' => ⟨z, _, I4, rw', q4 hn⟩
end
/-! ### the key pair[1] -/
section
variable {prog : Program} {w : World} {A : Around} {s : Shared} {env : Env} {mg mb m : Str → Option Value} {T : Addr} {z : Str} {n : Int} {t t2 : Tok}
def keyE1 (c1 : Nat) (q2 q3 q4 : Pos) : Expr := .Subscript (.Name "pair" q2) (.Constant (.int 1) c1 q3) q4
theorem key_body1 {c1 : Nat} {q2 q3 q4 : Pos} {E : Value → Shared → Prop} (hk : env.scope.kind = .function) (hl : env.kindOf "pair" = some .local) (hn : s.heap.Ns env.locals m) (hm : m "pair" = some (.ref T))
    (hT : s.heap.IsTuple T #[.int n t, .str z t2]) : wpAny (model prog w) A (eval (keyE1 c1 q2 q3 q4) env) (PySem.W.KeyPure (.str z) s) E s := by
  unfold keyE1
  refine Subscript_ (wpAny_Name (wpAny_loadName_local hk hl hn hm (wpAny_Constant_int ?_)) (by decide))
  have hT2 : (({ s with toks := s.toks + 1 } : Shared)).heap.IsTuple T #[.int n t, .str z t2] := hT
  refine subscriptTail_builtinR (x := .str z t2) hT2.typeIs slot_tuple_getitem.lookup (getItem_tuple (j := 1) (Q := fun r s' => r = .str z t2 ∧ PySem.W.KeyPure (.str z) s r s') hT2 (by decide) (by decide) (by rfl) rfl ⟨rfl, ?_⟩) (by rfl)
  exact ⟨_, _, rfl, fun b o e => e, .str _ _⟩
theorem key_call1 {c1 : Nat} {q2 q3 q4 : Pos} {f c' : Addr} {q : Str} {params : Arguments} {scope : Scope} {pm ctv : Value} {P : Program} {w : World} (hA : A.depth < recursionLimit)
    (of1 : s.heap.get? f = some (PySem.W.kla_obj "<lambda>" q params (keyE1 c1 q2 q3 q4) scope [] pm c' ctv)) (S : FnScope ["pair"] ["pair"] scope) (hloc : scope.names.lookup ("pair" : Str) = some NameKind.local)
    (hrec : s.heap.CodeRec (.ref c') q) (hbind : bindArgs (PySem.W.kla_fn "<lambda>" q params (keyE1 c1 q2 q3 q4) scope [] pm (.ref c') ctv) ⟨[.ref T], []⟩ = pure [(("pair" : Str), Value.ref T)])
    (lim : s.heap.NoLimit) (hT : s.heap.IsTuple T #[.int n t, .str z t2]) :
    wpAny (model P w) A (call (.ref f) [.ref T]) (PySem.W.KeyPure (.str z) s) (fun _ _ => False) s := by
  refine wpAny_call (PySem.W.kla_callFunE hA of1 rfl S.co S.gen rfl hrec ?_)
  rw [hbind]
  refine wpAny_pure (wpAny_newFunctionEnv_cells S.kind (fun y hy => ?_) fun env he s1 x => ?_)
  · obtain rfl : y = (("pair" : Str), Value.ref T) := List.mem_singleton.mp hy
    exact .inl hloc
  · subst he
    obtain ⟨h1, tk, rfl, hk⟩ := id x.done
    refine ⟨lim.keeps hk, PySem.W.kla_codeExpr ?_⟩
    refine wpAny_mono (key_body1 (T := T) (z := z) (n := n) (t := t) (t2 := t2) (m := bindL (fun y => scope.names.lookup y) [(("pair" : Str), Value.ref T)] fun _ => none) S.kind hloc x.toInCall.ns ?_ (let ⟨o, e, r⟩ := hT; ⟨o, hk _ _ e, r⟩)) (fun v s' hq => ?_) (fun _ _ z => z)
    · simp [bindL, hloc]
    · obtain ⟨h2, tk2, rfl, hk2, r⟩ := hq
      exact ⟨h2, tk2, rfl, fun b o e => hk2 b o (hk b o e), r⟩
end
/-! ### the order -/
abbrev keyD1 (b : Nat × List Nat) : PyData := .str (S b.2)
theorem key_lt1 (x y : Nat × List Nat) : PySem.W.dataLt (keyD1 x) (keyD1 y) = decide (x.2 < y.2) := by
  unfold keyD1
  rw [PySem.W.dataLt_str]
theorem key_sorted1 {bs : Mon.Kw} {xs : List V} (hl : xs.length = bs.length) (h : bs.Pairwise fun a b => a.2 < b.2) : (xs.zip bs).mergeSort (PySem.W.dataLe false fun p : V × (Nat × List Nat) => keyD1 p.2) = xs.zip bs := by
  refine List.mergeSort_of_pairwise ?_
  have h2 : ((xs.zip bs).map Prod.snd).Pairwise fun a b => a.2 < b.2 := by rw [List.map_snd_zip (by omega)]; exact h
  rw [List.pairwise_map] at h2
  refine h2.imp fun {a b} hab => ?_
  show (!PySem.W.dataLt (keyD1 b.2) (keyD1 a.2)) = true
  rw [key_lt1, Bool.not_eq_true']
  exact decide_eq_false fun z => List.lt_irrefl _ (List.lt_trans hab z)
theorem each_of1 : ∀ {xs : List V} {us : List Value} {bs : Mon.Kw}, Vals xs us → xs.length = bs.length → PySem.W.EachIs (fun u (p : V × (Nat × List Nat)) => RelV p.1 u) us (xs.zip bs)
  | [], _, [], r, _ => by cases r; exact .nil
  | [], _, _ :: _, _, h => by cases h
  | x :: xs, _, [], _, h => by cases h
  | x :: xs, _, b :: bs, r, h => by
    cases r with
    | cons r1 r2 => exact .cons r1 (each_of1 r2 (by simpa using h))
theorem vals_of1 : ∀ {xs : List V} {us : List Value} {bs : Mon.Kw}, xs.length = bs.length → PySem.W.EachIs (fun u (p : V × (Nat × List Nat)) => RelV p.1 u) us (xs.zip bs) → Vals xs us
  | [], us, bs, _, e => by
    have h : us.length = 0 := by rw [e.length]; simp
    rw [List.length_eq_zero_iff.mp h]
    exact .nil
  | x :: xs, us, [], h, _ => by cases h
  | x :: xs, us, b :: bs, h, e => by
    rw [List.zip_cons_cons] at e
    cases e with
    | cons e1 e2 => exact .cons e1 (vals_of1 (by simpa using h) e2)
/-- the items of xs are pairs of a number and a text -/
def PairsN (K : PySem.W.Frag) (H : Hp) (xs : List V) (bs : Mon.Kw) : Prop := xs.length = bs.length ∧ ∀ (i : Nat) (b : Nat × List Nat), bs[i]? = some b → ∃ T, xs[i]? = some (.ref T) ∧ SqT K H T [.int ((b.1 : Nat) : Int), .str (S b.2)]
theorem PairsN.extN {K : PySem.W.Frag} {H H' : Hp} {xs : List V} {bs : Mon.Kw} (h : PairsN K H xs bs) (e : ExtN H H') : PairsN K H' xs bs := ⟨h.1, fun i b hb => let ⟨T, e1, e2⟩ := h.2 i b hb; ⟨T, e1, SqT.extN e2 e⟩⟩
def qSortLam1 (K : PySem.W.Frag) (TT : List (Addr × Str)) (vs : List V) (H1 : Hp) (Q : VK) : Prop := ∃ (a : Addr) (xs : List V) (bs : Mon.Kw), vs = [.ref a] ∧ SqL K H1 a xs ∧ PairsN K H1 xs bs ∧ bs.length ≤ 100000 ∧ (bs.Pairwise fun a b => a.2 < b.2) ∧ Tabs TT H1 ∧
  ∀ p H2, ExtN H1 H2 → Tabs TT H2 → H2 p = none → Q (.ref p) (L2.upd H2 p (.lst xs))
def tSortLam1 (K : PySem.W.Frag) (TT : List (Addr × Str)) (t : TA) : TE := fun σ H Q => t σ H fun vs H1 => qSortLam1 K TT vs H1 Q
section
variable {X : Cx}
theorem pe_sortLam1 {TT : List (Addr × Str)} {c P : Addr} {params : Arguments} {scope : Scope} {k : Nat} {e : Expr} {t : TA} {p pos lpos kpos : Pos} {c1 : Nat} {q2 q3 q4 : Pos}
    (TB : TabB X.base X.mg c P) (hcode : X.env.code = .ref c) (hmT : (P, X.env.qual ++ "<lambda>") ∈ TT) (hu : ∀ p ∈ TT, p.1 = P → p.2 = X.env.qual ++ "<lambda>") (hr : Room k X.A) (hg : Gl X "sorted") (hm : X.mg "sorted" = none)
    (S1 : FnScope ["pair"] ["pair"] scope) (hloc : scope.names.lookup ("pair" : Str) = some NameKind.local) (hdef : defaultsOf params X.env = ([], [])) (hfree : ∀ y ∈ scope.names, y.2 ≠ .free) (hclo : cloFrom X.env.cells scope.names [] = [])
    (hbind : ∀ (q : Str) (pm cv ctv u : Value), bindArgs (PySem.W.kla_fn "<lambda>" q params (keyE1 c1 q2 q3 q4) scope [] pm cv ctv) ⟨[u], []⟩ = pure [(("pair" : Str), u)])
    (ha : PA X [e] t) (he : backTo pos (starEach [e] X.env) = (false, eval e X.env) :: backTo pos (starEach [] X.env) := by rfl) (hpl : (backTo pos (starEach [e] X.env)).any (·.1) = false := by rfl) :
    PE X (.Call (.Name "sorted" p) [e] [⟨some "key", .Lambda params (keyE1 c1 q2 q3 q4) scope lpos, kpos⟩] pos) (tSortLam1 X.K TT t) := by
  refine ⟨fun pins s σ H Q I h => ?_⟩
  refine wpAny_Call_Name_kw (ld_blt I hg hm boot_sorted ?_)
  refine PyProof.Rows.callWith_kw (thn (ha.run pos pins s σ H _ I h) fun us s1 ⟨vs, H1, I1, r1, q1⟩ => ?_) he hpl
  obtain ⟨a, xs, bs, rfl, hs, hp, hb, hso, hT, q⟩ := q1
  obtain rfl := Vals.ref1 r1
  show wpAny _ _ (evalAll ((do let v ← eval (.Lambda params (keyE1 c1 q2 q3 q4) scope lpos) X.env; standAt pos; pure v) :: [])) _ _ s1
  refine wpAny_evalAll_cons (wpAny_bind (lam_make2 I1 TB hcode hmT hu hT hdef (fun y hy e => absurd e (hfree y hy)) fun f c' pm' ctv H2 s2 I2 eN T2 hf hfn hfr hco => wpAny_bind (wpAny_standAt (wpAny_pure (wpAny_evalAll_nil ?_)))))
  show wpAny _ _ (call (.builtin "sorted") [.ref a] [(Str.ofString "key", .ref f)]) _ _ s2
  rw [hclo] at hf
  obtain ⟨its, rv, hl, hz⟩ := I2.list (SqL.extN hs eN)
  have hp2 := hp.extN eN
  obtain ⟨⟨oc, vs, t3, hoc, hdc, hvc⟩, _, _⟩ := I2.hok c' _ hco
  have hd := hr.depth
  have hun := hr.units
  have hzl : (xs.zip bs).length = xs.length := by rw [List.length_zip]; have := hp.1; omega
  refine PySem.W.sorted_key_data (β := V × (Nat × List Nat)) (b := false) (fun p => keyD1 p.2) hl.isList (each_of1 (bs := bs) rv hp.1) (PySem.W.AllAlike.of fun _ _ => by simp [PySem.W.alike]) (PySem.W.Sortable.others fun _ => ⟨by simp, by simp⟩) (by rw [hzl]; exact hz)
    (fun x _ => ?_) (PyProof.Rows.ksk_s1 _ _) (fun _ => PyProof.Rows.ksk_l1 _ _) (fun _ => PyProof.Rows.ksk_t1 _ _) (fun v x hR hx h tk kp => ?_) fun out c4 h' tk kp hfr2 hD hlo eo => ?_
  · have e : (keyD1 x.2).depth = 0 := by simp [PyData.depth]
    rw [e]; omega
  · obtain ⟨i, hi⟩ := List.mem_iff_getElem?.mp hx
    obtain ⟨xv, b⟩ := x
    rw [List.getElem?_zip_eq_some] at hi
    obtain ⟨T, e1, e2⟩ := hp2.2 i b hi.2
    have e3 : xv = .ref T := by rw [hi.1] at e1; exact Option.some.inj e1
    subst e3
    obtain rfl : v = Value.ref T := hR
    obtain ⟨it2, rv2, pl2, _⟩ := I2.tuple e2
    obtain ⟨u1, u2, rfl, ⟨t1, rfl⟩, ⟨t2, rfl⟩⟩ := vals2 rv2
    have hT2 : h.IsTuple T #[.int ((b.1 : Nat) : Int) t1, .str (S b.2) t2] := let ⟨o, e, r⟩ := pl2; ⟨o, kp _ _ e, r⟩
    exact key_call1 (A := X.A.in1.in1) (P := X.prog) (w := X.w) (s := { s2 with heap := h, toks := tk }) (z := S b.2) (by exact hd) (kp _ _ hf) S1 hloc ⟨c', oc, vs, t3, rfl, kp _ _ hoc, hdc, hvc⟩ (hbind _ _ _ _ _) (I2.nolimit.keeps kp) hT2
  · rw [key_sorted1 hp.1 hso] at eo
    have rv3 := vals_of1 (bs := bs) hp.1 eo
    have new : s2.heap.objs.size ≤ s2.heap.objs.size + 1 := Nat.le_succ _
    exact ⟨.ref _, L2.upd H2 (s2.heap.objs.size + 1) (.lst xs), I2.laid (t' := tk) kp new ⟨hz, out, c4, rv3, hD⟩, rfl, q _ _ eN T2 (I2.hok.fresh new)⟩
end
/-! ### readings -/
theorem tyS {K : PySem.W.Frag} {x : Str} {H : Hp} : tyV K "str" (.str x) H := by
  first
  | exact .inl ⟨rfl, _, rfl⟩
  | exact .inr (.inl ⟨rfl, _, rfl⟩)
  | exact .inr (.inr ⟨rfl, _, rfl⟩)
  | (unfold tyV; simp)
def qIdx (x : V) (xs : List V) (H : Hp) (Q : VK) : Prop := ∃ i : Nat, i < 6 ∧ x = .str (S [97, 98, 99, 100, 101, 102]) ∧ xs = [.str (S [97 + i])] ∧ Q (.int ((i : Nat) : Int)) H
theorem occ_letters : ∀ i, i < 6 → ∃ rest, Builtin.Str.occurrences (S [97, 98, 99, 100, 101, 102]) (S [97 + i]) 0 (S [97, 98, 99, 100, 101, 102]).length 1 = i :: rest
  | 0, _ => ⟨[], by decide +kernel⟩
  | 1, _ => ⟨[], by decide +kernel⟩
  | 2, _ => ⟨[], by decide +kernel⟩
  | 3, _ => ⟨[], by decide +kernel⟩
  | 4, _ => ⟨[], by decide +kernel⟩
  | 5, _ => ⟨[], by decide +kernel⟩
  | n + 6, h => absurd h (by omega)
theorem mt_sindexL {X : Cx} : MtR X "str.index" qIdx := by
  intro pins s σ H x xs v us Q I rx rs h
  obtain ⟨i, hi, e1, e2, q⟩ := h
  obtain ⟨rest, ho⟩ := occ_letters i hi
  exact mt_sindex pins s σ H x xs v us Q I rx rs ⟨_, _, i, rest, e1, e2, ho, q⟩
theorem pe_bmK {X : Cx} {T name id : String} {r : V → List V → Hp → VK → Prop} {o e : Expr} {es : List Expr} {to : TE} {t : TA} {apos cpos : Pos} (K : PySem.W.Frag) (hK : X.K = K) (pa : PlainAttrs T) (slot : Slot T name id) (hty : typeOf (.builtin id) = pure (.type "method_descriptor")) (hm : MtR X id r) (ho : PE X o to) (ha : PA X (e :: es) t)
    (hbase : attributeBase o name X.env (eval o X.env) = eval o X.env := by rfl)
    (hfew : ((backTo cpos (starEach (e :: es) X.env)).all (fun x => !x.1) && (backToKw cpos (keywordEach [] X.env)).all (fun x => x.1.isSome) && decide ((e :: es).length + ([] : List Keyword).length + (if ([] : List Keyword).isEmpty then 0 else 1) < 30)) = true := by rfl)
    (hline : (apos.endLine == cpos.line) = true := by rfl) (hs : starEach (e :: es) X.env = (false, eval e X.env) :: starEach es X.env := by rfl) (hplain : (backTo cpos (starEach es X.env)).any (·.1) = false := by rfl) :
    PE X (.Call (.Attribute o name apos) (e :: es) [] cpos) (tBM K T r to t) := by
  subst hK
  exact pe_bm pa slot hty hm ho ha hbase hfew hline hs hplain
section
variable {K : PySem.W.Frag} {σ : St} {H : Hp} {Q : VK} {td ty tx : TE} {a b : Addr} {v z : V}
theorem rd_bmS {r : V → List V → Hp → VK → Prop} {t : TA} {to : TE} (h : to σ H fun x H1 => tyV K "str" x H1 ∧ t σ H1 fun xs H2 => r x xs H2 Q) : tBM K "str" r to t σ H Q := h
theorem rd_qIdx {i : Nat} (hi : i < 6) (q : Q (.int ((i : Nat) : Int)) H) : qIdx (.str (S [97, 98, 99, 100, 101, 102])) [.str (S [97 + i])] H Q := ⟨i, hi, rfl, rfl, q⟩
def qDG (a : Addr) (y : V) (H2 : Hp) (Q : VK) : Prop := ∃ o, DGet H2 a y o ∧ Q (o.getD .non) H2
def qDG0 (x : V) (H1 : Hp) (k : Addr → Prop) : Prop := ∃ a, x = .ref a ∧ IsD H1 a ∧ k a
theorem rd_dget1 (h : td σ H fun x H1 => qDG0 x H1 fun a => ty σ H1 fun y H2 => qDG a y H2 Q) : tDGet1 td ty σ H Q := h
theorem rd_dsetd (h : td σ H fun x H1 => qDG0 x H1 fun a => ty σ H1 fun y H2 => tx σ H2 fun z H3 => ∃ (kvs : List (Key × V)) (k : Key), H3 a = some (.dK kvs) ∧ y = kV k ∧ kvs.length < sizeLine ∧ (∀ v, valV kvs k = some v → Q v H3) ∧ (valV kvs k = none → Q z (L2.upd H3 a (.dK (putK kvs k z))))) : tDSetd td ty tx σ H Q := h
theorem rd_dsetdT (h : td σ H fun x H1 => qDG0 x H1 fun a => ty σ H1 fun y H2 => tx σ H2 fun z H3 => ∃ (kvs : List (List Key × V)) (k : List Key) (b : Addr), H3 a = some (.dT kvs) ∧ y = .ref b ∧ H3 b = some (.tup (k.map kV)) ∧ kvs.length < sizeLine ∧ (∀ v, valV kvs k = some v → Q v H3) ∧ (valV kvs k = none → Q z (L2.upd H3 a (.dT (putK kvs k z))))) : tDSetdT td ty tx σ H Q := h
theorem rd_dg0K {kvs : List (Key × V)} {k : Addr → Prop} (h : H a = some (.dK kvs)) (q : k a) : qDG0 (.ref a) H k := ⟨a, rfl, .inl ⟨kvs, .inl h⟩, q⟩
theorem rd_dg0T {kvs : List (List Key × V)} {k : Addr → Prop} (h : H a = some (.dT kvs)) (q : k a) : qDG0 (.ref a) H k := ⟨a, rfl, .inr ⟨kvs, .inl h⟩, q⟩
theorem rd_dgK {kvs : List (Key × V)} (k : Key) (h : H a = some (.dK kvs)) (q : Q ((valV kvs k).getD .non) H) : qDG a (kV k) H Q := ⟨_, DGet.k h, q⟩
theorem rd_dgT {kvs : List (List Key × V)} (k : List Key) (h : H a = some (.dT kvs)) (e : H b = some (.tup (k.map kV))) (q : Q ((valV kvs k).getD .non) H) : qDG a (.ref b) H Q := ⟨_, DGet.t h e, q⟩
theorem rd_sortLam1 {TT : List (Addr × Str)} {t : TA} (h : t σ H fun vs H1 => qSortLam1 K TT vs H1 Q) : tSortLam1 K TT t σ H Q := h
end
end My
/-! Dicts whose keys are nodes; readings. -/
namespace My
open PySem PySem.Spec L2 SX Mon
open PyProof.Rows hiding St
def kwK (f : Nat × List Nat → V) (kw : Kw) : List (Key × V) := kw.map fun q => (.inl ((q.1 : Nat) : Int), f q)
abbrev kI (y : Nat) : Key := .inl ((y : Nat) : Int)
theorem kI_inj {x y : Nat} : kI x = kI y ↔ x = y := ⟨fun h => by have := Sum.inl.inj h; omega, fun h => by rw [h]⟩
theorem kw_none {f : Nat × List Nat → V} {y : Nat} : ∀ kw : Kw, y ∉ keys kw → valV (kwK f kw) (kI y) = none
  | [], _ => rfl
  | p :: kw, h => by
    have h1 : p.1 ≠ y := fun e => h (mem_keys.mpr ⟨p, List.mem_cons_self, e⟩)
    have h2 : y ∉ keys kw := fun k => by
      obtain ⟨q, hq, e⟩ := mem_keys.mp k
      exact h (mem_keys.mpr ⟨q, List.mem_cons_of_mem _ hq, e⟩)
    unfold kwK
    rw [List.map_cons, valV_neg (fun e => h1 (kI_inj.mp e))]
    exact kw_none kw h2
theorem kw_some {f : Nat × List Nat → V} {p : Nat × List Nat} : ∀ kw : Kw, (keys kw).Nodup → p ∈ kw → valV (kwK f kw) (kI p.1) = some (f p)
  | [], _, h => by cases h
  | q :: kw, hn, h => by
    have hn2 : q.1 ∉ keys kw ∧ (keys kw).Nodup := by
      have e : keys (q :: kw) = q.1 :: keys kw := rfl
      rw [e] at hn
      exact List.nodup_cons.mp hn
    unfold kwK
    rw [List.map_cons]
    rcases List.mem_cons.mp h with h | h
    · subst h
      exact valV_pos rfl
    · have h1 : q.1 ≠ p.1 := fun e => hn2.1 (mem_keys.mpr ⟨p, h, e.symm⟩)
      rw [valV_neg (fun e => h1 (kI_inj.mp e))]
      exact kw_some kw hn2.2 h
theorem kw_has {f : Nat × List Nat → V} {y : Nat} (kw : Kw) (hn : (keys kw).Nodup) : (valV (kwK f kw) (kI y)).isSome = decide (y ∈ keys kw) := by
  by_cases h : y ∈ keys kw
  · obtain ⟨p, hp, rfl⟩ := mem_keys.mp h
    rw [kw_some kw hn hp, decide_eq_true h]; rfl
  · rw [kw_none kw h, decide_eq_false h]; rfl
theorem kw_put {f : Nat × List Nat → V} {p : Nat × List Nat} (kw : Kw) (h : p.1 ∉ keys kw) : putK (kwK f kw) (kI p.1) (f p) = kwK f (kw ++ [p]) := by
  unfold putK
  rw [valV_any, kw_none kw h, if_neg (by simp)]
  unfold kwK
  rw [List.map_append]
  rfl
theorem kwK_len (f : Nat × List Nat → V) (kw : Kw) : (kwK f kw).length = kw.length := by unfold kwK; simp
theorem keys_len (kw : Kw) : (keys kw).length = kw.length := by unfold keys; simp
theorem keys_get {kw : Kw} {i : Nat} {p : Nat × List Nat} (h : kw[i]? = some p) : (rowV (keys kw))[i]? = some (vI p.1) := by
  unfold rowV keys
  rw [List.getElem?_map, List.getElem?_map, h]; rfl
theorem keys_snoc (kw : Kw) (p : Nat × List Nat) : keys (kw ++ [p]) = keys kw ++ [p.1] := by unfold keys; rw [List.map_append]; rfl
section
variable {K : PySem.W.Frag} {σ : St} {H : Hp} {Q : VK} {td tk tv : TE} {a : Addr} {v : V}
theorem rd_inKw {f : Nat × List Nat → V} {kw : Kw} {y : Nat} (hn : (keys kw).Nodup) (h : H a = some (.dK (kwK f kw))) (q : Q (.bl (decide (y ∈ keys kw))) H) : qDIn false (vI y) (.ref a) H Q := rd_qInK (kI y) h (by rw [kw_has kw hn]; exact q)
theorem rd_notInKw {f : Nat × List Nat → V} {kw : Kw} {y : Nat} (hn : (keys kw).Nodup) (h : H a = some (.dK (kwK f kw))) (q : Q (.bl (!decide (y ∈ keys kw))) H) : qDIn true (vI y) (.ref a) H Q := rd_qInK (kI y) h (by rw [kw_has kw hn]; exact q)
theorem rd_disp1 (h : ∀ p, H p = none → tk σ (L2.upd H p (.dK [])) fun x H1 => tv σ H1 fun y H2 => H2 p = some (.dK []) ∧ ∃ k : Key, x = kV k ∧ Q (.ref p) (L2.upd H2 p (.dK [(k, y)]))) : tDisp [(tk, tv)] σ H Q := by
  intro p hp
  have h1 := h p hp
  show tk σ (L2.upd H p (.dK [])) fun x H1 => tv σ H1 fun y H2 => H2 p = some (.dK []) ∧ ∃ kvs : List (Key × V), [(x, y)] = kvs.map (fun kv => (kV kv.1, kv.2)) ∧ kvs.length ≤ 15 ∧ Q (.ref p) (L2.upd H2 p (.dK (mergeK [] kvs)))
  have e : (fun (x : V) (H1 : Hp) => tv σ H1 fun y H2 => H2 p = some (.dK []) ∧ ∃ kvs : List (Key × V), [(x, y)] = kvs.map (fun kv => (kV kv.1, kv.2)) ∧ kvs.length ≤ 15 ∧ Q (.ref p) (L2.upd H2 p (.dK (mergeK [] kvs)))) = fun (x : V) (H1 : Hp) => tv σ H1 fun y H2 => H2 p = some (.dK []) ∧ ∃ k : Key, x = kV k ∧ Q (.ref p) (L2.upd H2 p (.dK [(k, y)])) := by
    funext x H1
    congr 1
    funext y H2
    apply propext
    constructor
    · rintro ⟨g, kvs, e1, _, q⟩
      match kvs, e1, q with
      | [kv], e1, q =>
        have e2 := List.head_eq_of_cons_eq e1
        have e3 : x = kV kv.1 := congrArg Prod.fst e2
        have e4 : y = kv.2 := congrArg Prod.snd e2
        exact ⟨g, kv.1, e3, by rw [e4]; exact q⟩
    · rintro ⟨g, k, e1, q⟩
      exact ⟨g, [(k, y)], by rw [e1]; rfl, Nat.le_of_ble_eq_true rfl, q⟩
  rw [e]
  exact h1
theorem rd_qIdx' {c : Nat} (h1 : 97 ≤ c) (h2 : c < 103) (q : Q (vI (c - 97)) H) : qIdx (.str (S [97, 98, 99, 100, 101, 102])) [.str (S [c])] H Q := by
  have e : c = 97 + (c - 97) := by omega
  rw [e]
  refine rd_qIdx (by omega) ?_
  exact q
end
theorem lett {l : Nat} (h : l < 6) : atI [97, 98, 99, 100, 101, 102] ((l : Nat) : Int) = some (97 + l) := atI_nat (by
  match l, h with
  | 0, _ => rfl
  | 1, _ => rfl
  | 2, _ => rfl
  | 3, _ => rfl
  | 4, _ => rfl
  | 5, _ => rfl)
theorem mem_known {m c : Nat} (m6 : m ≤ 6) (h : 97 ≤ c ∧ c < 97 + m) : c ∈ [97, 98, 99, 100, 101, 102].take m := by
  match m, m6 with
  | 0, _ => omega
  | 1, _ => simp; omega
  | 2, _ => simp; omega
  | 3, _ => simp; omega
  | 4, _ => simp; omega
  | 5, _ => simp; omega
  | 6, _ => simp; omega
theorem pe_fldK {X : Cx} {e : Expr} {f : Str} {ta : TE} {pos : Pos} (K : PySem.W.Frag) (hK : X.K = K) (he : PE X e ta) (hb : attributeBase e f X.env (eval e X.env) = eval e X.env) : PE X (.Attribute e f pos) (tFld K ta f) := by
  subst hK
  exact pe_fld he hb
theorem pi_listK {X : Cx} {tg e : Expr} {te : TE} (K : PySem.W.Frag) (hK : X.K = K) (he : PE X e te) : PI X tg e (iList K te) := by
  subst hK
  exact pi_list he
theorem pi_tupK {X : Cx} {tg e : Expr} {te : TE} (K : PySem.W.Frag) (hK : X.K = K) (he : PE X e te) : PI X tg e (iTup K te) := by
  subst hK
  exact pi_tup he
end My
/-! Comprehensions over pairs that make objects; lists of pairs of a number and a text. -/
namespace My
open PySem PySem.Spec L2 SX LamX Mon
open PyProof.Rows hiding St
section
variable {σ : St} {H : Hp} {Q : VK} {te : TE} {vs : List Nat} {K : PySem.W.Frag}
theorem lc_invP {J : It} {n : Nat} {G : Hp → Prop} {A B : Nat → Option V} (w : Walk J n G (YPair A B)) {a b : Nat} (Pv : Addr → Nat → List V → Hp → Prop) (hn : n ≤ 50000) (hw : ∀ x y, wipe (((wipe σ vs).set a (some x)).set b (some y)) vs = wipe σ vs)
    (hG : ∀ D i acc H', Pv D i acc H' → G H') (h0 : ∀ D, H D = none → Pv D 0 [] (L2.upd H D (.lst [])))
    (hs : ∀ (D : Addr) (i : Nat) (x y : V) (T : Addr) (acc : List V) (H' : Hp) (Q : VK), i < n → A i = some x → B i = some y → H D = none → acc.length = i → Pv D i acc H' → H' D = some (.lst acc) → H' T = none →
      (∀ v H2, H2 D = some (.lst acc) → Pv D (i + 1) (acc ++ [v]) (L2.upd H2 D (.lst (acc ++ [v]))) → Q v H2) → te (((wipe σ vs).set a (some x)).set b (some y)) (L2.upd H' T (.tup [x, y])) Q)
    (q : ∀ (D : Addr) (acc : List V) (H' : Hp), H D = none → acc.length = n → Pv D n acc H' → H' D = some (.lst acc) → Q (.ref D) H') : LcG J (gp2 K a b) tYes te vs σ Q H := by
  intro D hD
  refine lc_it w (fun i H' => ∃ acc : List V, H' D = some (.lst acc) ∧ acc.length = i ∧ Pv D i acc H') ⟨[], upd_same, rfl, h0 D hD⟩ (fun i H' _ ⟨acc, _, _, p⟩ => hG D i acc H' p) ?_ ?_
  · rintro i v H1 H1' hi ⟨acc, ha, hl, p⟩ ⟨T, x, y, rfl, hT, rfl, hx, hy⟩
    refine ⟨T, [x, y], rfl, SqT.of upd_same, rfl, x, [y], rfl, y, [], rfl, rfl, hw x y, ?_⟩
    unfold tYes
    dsimp only
    rw [if_pos rfl]
    refine hs D i x y T acc _ _ hi hx hy hD hl p ha hT fun z H2 h2 p2 => ⟨acc, h2, szlt (by omega), acc ++ [z], upd_same, ?_, p2⟩
    rw [List.length_append, hl]
    rfl
  · rintro H1 ⟨acc, ha, hl, p⟩
    exact q D acc H1 hD hl p ha
end
def PNs (H : Hp) (as : List Addr) (bs : Kw) : Prop := as.length = bs.length ∧ ∀ (i : Nat) (a : Addr) (b : Nat × List Nat), as[i]? = some a → bs[i]? = some b → H a = some (.tup [vI b.1, .str (S b.2)])
def PN (H : Hp) (p : Addr) (bs : Kw) : Prop := ∃ as, H p = some (.lst (refs as)) ∧ PNs H as bs
theorem PNs.keep {H H' : Hp} {as : List Addr} {bs : Kw} (h : PNs H as bs) (k : ∀ a xs, H a = some (.tup xs) → H' a = some (.tup xs)) : PNs H' as bs := ⟨h.1, fun i a b e1 e2 => k _ _ (h.2 i a b e1 e2)⟩
theorem PN.kq {H H' : Hp} {p : Addr} {bs : Kw} (h : PN H p bs) (k : Kq H H') : PN H' p bs := let ⟨as, h1, h2⟩ := h; ⟨as, k.1 _ _ h1, h2.keep k.2⟩
theorem PNs.app {H : Hp} {as cs : List Addr} {bs ds : Kw} (h : PNs H as bs) (g : PNs H cs ds) : PNs H (as ++ cs) (bs ++ ds) := by
  refine ⟨by simp [h.1, g.1], fun i a b e1 e2 => ?_⟩
  have hl := h.1
  by_cases hi : i < as.length
  · rw [List.getElem?_append_left hi] at e1
    rw [List.getElem?_append_left (by omega)] at e2
    exact h.2 i a b e1 e2
  · rw [List.getElem?_append_right (by omega)] at e1 e2
    rw [← hl] at e2
    exact g.2 _ a b e1 e2
theorem PNs.one {H : Hp} {a : Addr} {b : Nat × List Nat} (h : H a = some (.tup [vI b.1, .str (S b.2)])) : PNs H [a] [b] := ⟨rfl, fun i c d e1 e2 => by
  have hi : i = 0 := by have := (List.getElem?_eq_some_iff.mp e1).1; simp at this; omega
  subst hi
  cases e1
  cases e2
  exact h⟩
theorem PNs.pairs {K : PySem.W.Frag} {H : Hp} {as : List Addr} {bs : Kw} (h : PNs H as bs) : PairsN K H (refs as) bs := by
  refine ⟨by rw [refs_len]; exact h.1, fun i b hb => ?_⟩
  have hi : i < as.length := by rw [h.1]; exact (List.getElem?_eq_some_iff.mp hb).1
  exact ⟨as[i], getElem?_refs (List.getElem?_eq_getElem hi), SqT.of (h.2 i _ b (List.getElem?_eq_getElem hi) hb)⟩
theorem refs_app (as cs : List Addr) : refs (as ++ cs) = refs as ++ refs cs := by unfold refs; rw [List.map_append]
/-- a list of pairs does not change where another list does -/
theorem PN.other {H : Hp} {p r : Addr} {bs : Kw} {xs ys : List V} (h : PN H p bs) (hr : H r = some (.lst xs)) (n : p ≠ r) : PN (L2.upd H r (.lst ys)) p bs := by
  obtain ⟨as, h1, h2⟩ := h
  refine ⟨as, by rw [upd_ne n]; exact h1, h2.keep fun c xs e => ?_⟩
  rw [upd_ne (ne_of e hr (fun z => nomatch z))]; exact e
end My
namespace Mon
/-! ### layer by layer: how many there are -/
section
variable {st : Nat → Nat → Nat} {m one N : Nat} {kw ly nx : Kw} {t i : Nat}
theorem go_lt (h1 : one < N) (hs : ∀ n c, n < N → c < m → st n c < N) : ∀ w, Lt m w → go st one w < N := by
  refine rev_ind (fun _ => h1) fun w c ih hw => ?_
  rw [go_snoc]
  have hc := hw c (by simp)
  exact hs _ _ (ih fun x hx => hw x (by simp [hx])) (by omega)
theorem keys_le {kw : Kw} (nd : (keys kw).Nodup) (h : ∀ p ∈ kw, p.1 < N) : kw.length ≤ N := by
  have h2 := nodup_le N (keys kw) nd fun x hx => by
    obtain ⟨p, q, rfl⟩ := mem_keys.mp hx
    exact h p q
  unfold keys at h2
  rwa [List.length_map] at h2
theorem Ls.lt (h : Ls st m one kw ly t) (h1 : one < N) (hs : ∀ n c, n < N → c < m → st n c < N) : ∀ p ∈ kw, p.1 < N := fun p hp => by
  obtain ⟨a, b⟩ := h.wd p hp
  rw [← b]; exact go_lt h1 hs _ a
theorem Ls.ly_nd (h : Ls st m one kw ly t) : (keys ly).Nodup := by
  unfold keys
  have so := h.so
  rw [List.Nodup, List.pairwise_map]
  rw [List.pairwise_map] at so
  refine List.Pairwise.imp_of_mem (fun {a b} ha hb hab e => ?_) so
  have ha2 := ((h.ls a).mp ha).1
  have hb2 := ((h.ls b).mp hb).1
  have wa := h.wd a ha2
  rcases h.mi b hb2 a.2 wa.1 (by rw [wa.2, e]) with e2 | e2
  · rw [e2] at hab; exact slt_irr _ hab
  · exact slt_irr _ (slt_trans hab e2)
theorem Ls.ly_le (h : Ls st m one kw ly t) (h1 : one < N) (hs : ∀ n c, n < N → c < m → st n c < N) : ly.length ≤ N :=
  keys_le h.ly_nd fun p hp => h.lt h1 hs p ((h.ls p).mp hp).1
theorem Lm.lt (b : Ls st m one kw ly t) (h : Lm st m one kw ly nx t i) (h1 : one < N) (hs : ∀ n c, n < N → c < m → st n c < N) : ∀ p ∈ kw ++ nx, p.1 < N := fun p hp => by
  rcases List.mem_append.mp hp with hp | hp
  · exact b.lt h1 hs p hp
  · have := b.long (List.mem_of_mem_take (h.sub p hp))
    rw [← this.2.1]; exact go_lt h1 hs _ this.1
theorem Lm.le (b : Ls st m one kw ly t) (h : Lm st m one kw ly nx t i) (h1 : one < N) (hs : ∀ n c, n < N → c < m → st n c < N) : (kw ++ nx).length ≤ N := keys_le h.nd (h.lt b h1 hs)
theorem longer_snoc {ly : Kw} {i : Nat} {p : Nat × List Nat} (h : ly[i]? = some p) : longer st m (ly.take (i + 1)) = longer st m (ly.take i) ++ (List.range m).map fun l => (st p.1 l, p.2 ++ [97 + l]) := by
  have e : ly.take (i + 1) = ly.take i ++ [p] := by rw [List.take_succ, h]; rfl
  rw [e]
  unfold longer
  rw [List.flatMap_append]
  simp
theorem longer_len (st : Nat → Nat → Nat) (m : Nat) : ∀ ly : Kw, (longer st m ly).length = ly.length * m
  | [] => by simp [longer]
  | p :: ly => by
    have h := longer_len st m ly
    unfold longer at h ⊢
    rw [List.flatMap_cons, List.length_append, h, List.length_map, List.length_range, List.length_cons, Nat.succ_mul]
    omega
theorem Ls.lex (h : Ls st m one kw ly t) : (longer st m ly).Pairwise fun a b => a.2 < b.2 := by
  have so := longer_so (st := st) (m := m) h.so
  rw [List.pairwise_map] at so
  refine List.Pairwise.imp_of_mem (fun {a b} ha hb hab => ?_) so
  have la := (h.long ha).2.2
  have lb := (h.long hb).2.2
  rcases hab with hab | ⟨_, hab⟩
  · omega
  · exact hab
end

/-! ### the first word for each pair -/
def pw (N : Nat) (ws : List (List Nat)) : List (Nat × List Nat) := ws.flatMap fun w => (List.range N).map fun x => (x, w)
theorem pw_snoc (N : Nat) (ws : List (List Nat)) (w : List Nat) : pw N (ws ++ [w]) = pw N ws ++ (List.range N).map fun x => (x, w) := by
  unfold pw; rw [List.flatMap_append]; simp
theorem pw_len (N : Nat) : ∀ ws : List (List Nat), (pw N ws).length = ws.length * N
  | [] => by simp [pw]
  | w :: ws => by
    have h := pw_len N ws
    unfold pw at h ⊢
    rw [List.flatMap_cons, List.length_append, h, List.length_map, List.length_range, List.length_cons, Nat.succ_mul]
    omega
theorem find_row {N x : Nat} (hx : x < N) (P : Nat → List Nat → Bool) (w : List Nat) : ((List.range N).map fun x' => (x', w)).find? (fun p => decide (p.1 = x) && P p.1 p.2) = if P x w = true then some (x, w) else none := by
  cases h : ((List.range N).map fun x' => (x', w)).find? (fun p => decide (p.1 = x) && P p.1 p.2) with
  | none =>
    have h1 := List.find?_eq_none.mp h (x, w) (List.mem_map.mpr ⟨x, List.mem_range.mpr hx, rfl⟩)
    rw [if_neg (fun e => h1 (by simp [e]))]
  | some a =>
    have h1 := List.find?_some h
    obtain ⟨x', _, rfl⟩ := List.mem_map.mp (List.mem_of_find?_eq_some h)
    rw [Bool.and_eq_true] at h1
    have e : x' = x := of_decide_eq_true h1.1
    subst e
    rw [if_pos h1.2]
theorem find_pw {N x : Nat} (hx : x < N) (P : Nat → List Nat → Bool) : ∀ ws : List (List Nat), ((pw N ws).find? fun p => decide (p.1 = x) && P p.1 p.2) = (ws.find? (P x)).map fun w => (x, w)
  | [] => rfl
  | w :: ws => by
    have ih := find_pw hx P ws
    unfold pw at ih ⊢
    rw [List.flatMap_cons, List.find?_append, find_row hx P w, ih, List.find?_cons]
    by_cases e : P x w = true
    · rw [if_pos e, e]; rfl
    · rw [if_neg e]
      have e2 : P x w = false := by simpa using e
      rw [e2]; rfl
theorem go_run (T : Tab) (x : Nat) (w : List Nat) : go (at2 T) x w = run T x w := rfl
theorem lw_len {st : Nat → Nat → Nat} {m one N x : Nat} {w : List Nat} (h1 : one < N) (hs : ∀ n c, n < N → c < m → st n c < N) (h : IsLw st m one x (some w)) : w.length < N := by
  obtain ⟨a, b, c⟩ := h.1 w rfl
  obtain ⟨u, hu, e, hl⟩ := short_of h1 hs a
  rcases c u hu (e.trans b) with e2 | e2
  · rw [← e2]; exact hl
  · rcases e2 with e3 | ⟨e3, _⟩ <;> omega
section
variable {T : Tab} {m N : Nat}
theorem ll_len (g : Good T m N) (p : Prod T m N) {x y : Nat} {w : List Nat} (hx : x < N) (h : IsLP (fun w => la T m N w x = y) m (some w)) : w.length < N := by
  obtain ⟨a, b, c⟩ := h.1 w rfl
  have ar : Lt m w.reverse := fun x hx => a x (List.mem_reverse.mp hx)
  obtain ⟨u, hu, e, hl⟩ := short_of (st := sl T m N) hx (fun n c hn hc => g.sl_lt hn hc) ar
  have hur : Lt m u.reverse := fun x hx => hu x (List.mem_reverse.mp hx)
  have e2 : la T m N u.reverse x = y := by
    rw [← g.go_la p hx u hu, e, ← g.la_go p hx a]; exact b
  rcases c u.reverse hur e2 with e3 | e3
  · rw [← e3, List.length_reverse]; exact hl
  · have : w.length ≤ u.reverse.length := by rcases e3 with e4 | ⟨e4, _⟩ <;> omega
    rw [List.length_reverse] at this; omega
theorem Good.run_W (g : Good T m N) (p : Prod T m N) {x : Nat} (hx : x < N) {w : List Nat} (hw : Lt m w) : run T x (W T m N (run T 0 w)) = run T x w := by
  have hr := g.run_lt w hw
  have h := g.app_cong p (g.ltW _ hr) hw (g.runW _ hr) (W T m N x) (g.ltW x hx)
  rw [run_app, run_app, g.runW x hx] at h
  exact h
theorem Good.run_lt' (g : Good T m N) {x : Nat} (hx : x < N) {w : List Nat} (hw : Lt m w) : run T x w < N := go_lt (st := at2 T) hx (fun n c hn hc => g.lt n c hn hc) w hw
/-- the row of products of x, the column of x -/
def prow (T : Tab) (m N x : Nat) : List Nat := (List.range N).map fun y => run T x (W T m N y)
def pcol (T : Tab) (m N x : Nat) : List Nat := (List.range N).map fun y => run T y (W T m N x)
theorem mem_prow (g : Good T m N) (p : Prod T m N) {x y : Nat} (hx : x < N) : y ∈ prow T m N x ↔ ∃ w, Lt m w ∧ run T x w = y := by
  unfold prow
  rw [List.mem_map]
  constructor
  · rintro ⟨z, hz, rfl⟩
    exact ⟨_, g.ltW z (List.mem_range.mp hz), rfl⟩
  · rintro ⟨w, hw, rfl⟩
    exact ⟨run T 0 w, List.mem_range.mpr (g.run_lt w hw), g.run_W p hx hw⟩
theorem mem_pcol (g : Good T m N) {x y : Nat} : y ∈ pcol T m N x ↔ ∃ w, Lt m w ∧ la T m N w x = y := by
  unfold pcol
  rw [List.mem_map]
  constructor
  · rintro ⟨z, hz, rfl⟩
    refine ⟨_, g.ltW z (List.mem_range.mp hz), ?_⟩
    unfold la
    rw [run_app, g.runW z (List.mem_range.mp hz)]
  · rintro ⟨w, hw, rfl⟩
    refine ⟨run T 0 w, List.mem_range.mpr (g.run_lt w hw), ?_⟩
    unfold la
    rw [run_app]
theorem lw_none (g : Good T m N) (p : Prod T m N) {x y : Nat} {o : Option (List Nat)} (hx : x < N) (h : IsLw (at2 T) m x y o) : o = none ↔ y ∉ prow T m N x := by
  rw [mem_prow g p hx]
  constructor
  · rintro rfl ⟨w, hw, e⟩
    exact h.2 rfl w hw e
  · intro hn
    cases o with
    | none => rfl
    | some w => exact absurd ⟨w, (h.1 w rfl).1, (h.1 w rfl).2.1⟩ hn
theorem ll_none (g : Good T m N) {x y : Nat} {o : Option (List Nat)} (h : IsLP (fun w => la T m N w x = y) m o) : o = none ↔ y ∉ pcol T m N x := by
  rw [mem_pcol g]
  constructor
  · rintro rfl ⟨w, hw, e⟩
    exact h.2 rfl w hw e
  · intro hn
    cases o with
    | none => rfl
    | some w => exact absurd ⟨w, (h.1 w rfl).1, (h.1 w rfl).2.1⟩ hn
end
theorem lp_nil {P : List Nat → Prop} {m : Nat} {o : Option (List Nat)} (h : IsLP P m o) (k : P []) : o = some [] := by
  refine h.uniq ⟨fun w e => ?_, fun e => by cases e⟩
  cases e
  refine ⟨(fun c hc => by cases hc), k, fun v _ _ => ?_⟩
  by_cases e : v = []
  · exact .inl e
  · exact .inr (slt_nil e)
end Mon
namespace My
open PySem PySem.Spec L2 SX LamX Mon
open PyProof.Rows hiding St
def top (i : Nat) : Stmt := PySem.Challenge.pw_wordfolds_k15_least_words_between_two.main.body.getD i (.Pass ⟨0, 0, 0, 0⟩)
abbrev s_is_number : Stmt := top 8
abbrev s_is_sequence : Stmt := top 9
abbrev s_check_form : Stmt := top 15
abbrev s_check_order : Stmt := top 16
abbrev s_tree_of : Stmt := top 17
abbrev s_left_of : Stmt := top 18
abbrev s_check_products : Stmt := top 19
abbrev s__law_source : Stmt := top 22
abbrev s__law_draw : Stmt := top 23
abbrev s__law_maps : Stmt := top 25
abbrev s__law_table : Stmt := top 26
abbrev s__law_steps : Stmt := top 27
abbrev s__law_products : Stmt := top 28
abbrev s__law_all_words : Stmt := top 29
abbrev s__law_by_words : Stmt := top 30
abbrev s__law_right : Stmt := top 31
abbrev s_law : Stmt := top 32
abbrev s_Monoid_init : Stmt := (C8.clsBody (top 20)).getD 0 (.Pass ⟨0, 0, 0, 0⟩)
abbrev s_Monoid_check_number : Stmt := (C8.clsBody (top 20)).getD 2 (.Pass ⟨0, 0, 0, 0⟩)
abbrev s_Monoid_places_of : Stmt := (C8.clsBody (top 20)).getD 7 (.Pass ⟨0, 0, 0, 0⟩)
abbrev s_Monoid_of_word : Stmt := (C8.clsBody (top 20)).getD 8 (.Pass ⟨0, 0, 0, 0⟩)
abbrev s_Monoid_least_right : Stmt := (C8.clsBody (top 20)).getD 14 (.Pass ⟨0, 0, 0, 0⟩)
abbrev s_Monoid_layers_left : Stmt := (C8.clsBody (top 20)).getD 15 (.Pass ⟨0, 0, 0, 0⟩)
abbrev s_Monoid_least_left : Stmt := (C8.clsBody (top 20)).getD 16 (.Pass ⟨0, 0, 0, 0⟩)
abbrev s_Monoid_first_led : Stmt := (C8.clsBody (top 20)).getD 17 (.Pass ⟨0, 0, 0, 0⟩)
abbrev N_is_number : List Str := ["thing"]
theorem sc_is_number : FnScope N_is_number ["thing"] (defScope s_is_number) := ⟨rfl, rfl, rfl, by decide +kernel, rfl, by decide +kernel, by decide +kernel⟩
abbrev N_is_sequence : List Str := ["thing"]
theorem sc_is_sequence : FnScope N_is_sequence ["thing"] (defScope s_is_sequence) := ⟨rfl, rfl, rfl, by decide +kernel, rfl, by decide +kernel, by decide +kernel⟩
abbrev N_check_form : List Str := ["right", "place", "row", "number"]
theorem sc_check_form : FnScope N_check_form ["right"] (defScope s_check_form) := ⟨rfl, rfl, rfl, by decide +kernel, rfl, by decide +kernel, by decide +kernel⟩
abbrev N_check_order : List Str := ["right", "met", "number", "row", "other"]
theorem sc_check_order : FnScope N_check_order ["right"] (defScope s_check_order) := ⟨rfl, rfl, rfl, by decide +kernel, rfl, by decide +kernel, by decide +kernel⟩
abbrev N_tree_of : List Str := ["right", "found", "number", "row", "letter", "other"]
theorem sc_tree_of : FnScope N_tree_of ["right"] (defScope s_tree_of) := ⟨rfl, rfl, rfl, by decide +kernel, rfl, by decide +kernel, by decide +kernel⟩
abbrev N_left_of : List Str := ["right", "tree", "found", "ahead", "letter", "number"]
theorem sc_left_of : FnScope N_left_of ["right", "tree"] (defScope s_left_of) := ⟨rfl, rfl, rfl, by decide +kernel, rfl, by decide +kernel, by decide +kernel⟩
abbrev N_check_products : List Str := ["right", "left", "number", "row", "letter", "other", "one"]
theorem sc_check_products : FnScope N_check_products ["right", "left"] (defScope s_check_products) := ⟨rfl, rfl, rfl, by decide +kernel, rfl, by decide +kernel, by decide +kernel⟩
abbrev N__law_source : List Str := ["cell"]
theorem sc__law_source : FnScope N__law_source ["cell"] (defScope s__law_source) := ⟨rfl, rfl, rfl, by decide +kernel, rfl, by decide +kernel, by decide +kernel⟩
abbrev N__law_draw : List Str := ["source", "many", "digit", "mixed"]
theorem sc__law_draw : FnScope N__law_draw ["source", "many"] (defScope s__law_draw) := ⟨rfl, rfl, rfl, by decide +kernel, rfl, by decide +kernel, by decide +kernel⟩
abbrev N__law_maps : List Str := ["source", "most_points", "most_letters", "size", "many", "turn", "point"]
theorem sc__law_maps : FnScope N__law_maps ["source", "most_points", "most_letters"] (defScope s__law_maps) := ⟨rfl, rfl, rfl, by decide +kernel, rfl, by decide +kernel, by decide +kernel⟩
abbrev N__law_table : List Str := ["rows", "found", "words", "table", "numbers", "at", "row", "letter", "other", "product", "image"]
theorem sc__law_table : FnScope N__law_table ["rows"] (defScope s__law_table) := ⟨rfl, rfl, rfl, by decide +kernel, rfl, by decide +kernel, by decide +kernel⟩
abbrev N__law_steps : List Str := ["rows", "first", "found", "layer", "turn", "longer", "number", "word", "letter", "other"]
theorem sc__law_steps : FnScope N__law_steps ["rows", "first"] (defScope s__law_steps) := ⟨rfl, rfl, rfl, by decide +kernel, rfl, by decide +kernel, by decide +kernel⟩
abbrev N__law_products : List Str := ["found", "table", "numbers", "rows", "one", "other", "image"]
theorem sc__law_products : FnScope N__law_products ["found", "table"] (defScope s__law_products) := ⟨rfl, rfl, rfl, by decide +kernel, rfl, by decide +kernel, by decide +kernel⟩
abbrev N__law_all_words : List Str := ["letters", "most", "found", "layer", "turn", "longer", "word", "letter"]
theorem sc__law_all_words : FnScope N__law_all_words ["letters", "most"] (defScope s__law_all_words) := ⟨rfl, rfl, rfl, by decide +kernel, rfl, by decide +kernel, by decide +kernel⟩
abbrev N__law_by_words : List Str := ["monoid", "products", "letters", "most", "firsts", "lasts", "word", "by", "number", "one", "other", "right", "left", "told", "due"]
theorem sc__law_by_words : FnScope N__law_by_words ["monoid", "products", "letters", "most"] (defScope s__law_by_words) := ⟨rfl, rfl, rfl, by decide +kernel, rfl, by decide +kernel, by decide +kernel⟩
abbrev N__law_right : List Str := ["monoid", "found", "table", "products", "many", "one", "steps", "other", "word", "row"]
theorem sc__law_right : FnScope N__law_right ["monoid", "found", "table"] (defScope s__law_right) := ⟨rfl, rfl, rfl, by decide +kernel, rfl, by decide +kernel, by decide +kernel⟩
abbrev N_law : List Str := ["script", "cell", "source", "turn", "found", "words", "table"]
theorem sc_law : FnScope N_law ["script"] (defScope s_law) := ⟨rfl, rfl, rfl, by decide +kernel, rfl, by decide +kernel, by decide +kernel⟩
abbrev N_Monoid_init : List Str := ["self", "right", "rows", "row"]
theorem sc_Monoid_init : FnScope N_Monoid_init ["self", "right"] (defScope s_Monoid_init) := ⟨rfl, rfl, rfl, by decide +kernel, rfl, by decide +kernel, by decide +kernel⟩
abbrev N_Monoid_check_number : List Str := ["self", "number"]
theorem sc_Monoid_check_number : FnScope N_Monoid_check_number ["self", "number"] (defScope s_Monoid_check_number) := ⟨rfl, rfl, rfl, by decide +kernel, rfl, by decide +kernel, by decide +kernel⟩
abbrev N_Monoid_places_of : List Str := ["self", "word", "most", "known", "letter", "one"]
theorem sc_Monoid_places_of : FnScope N_Monoid_places_of ["self", "word", "most"] (defScope s_Monoid_places_of) := ⟨rfl, rfl, rfl, by decide +kernel, rfl, by decide +kernel, by decide +kernel⟩
abbrev N_Monoid_of_word : List Str := ["self", "word", "found", "letter"]
theorem sc_Monoid_of_word : FnScope N_Monoid_of_word ["self", "word"] (defScope s_Monoid_of_word) := ⟨rfl, rfl, rfl, by decide +kernel, rfl, by decide +kernel, by decide +kernel⟩
abbrev N_Monoid_least_right : List Str := ["self", "one", "other", "words", "waiting", "at", "number", "letter", "later"]
theorem sc_Monoid_least_right : FnScope N_Monoid_least_right ["self", "one", "other"] (defScope s_Monoid_least_right) := ⟨rfl, rfl, rfl, by decide +kernel, rfl, by decide +kernel, by decide +kernel⟩
abbrev N_Monoid_layers_left : List Str := ["self", "one", "found", "waiting", "at", "number", "later"]
theorem sc_Monoid_layers_left : FnScope N_Monoid_layers_left ["self", "one"] (defScope s_Monoid_layers_left) := ⟨rfl, rfl, rfl, by decide +kernel, rfl, by decide +kernel, by decide +kernel⟩
abbrev N_Monoid_least_left : List Str := ["self", "one", "other", "far", "goals", "word", "layers", "number", "length", "letter"]
theorem sc_Monoid_least_left : FnScope N_Monoid_least_left ["self", "one", "other"] (defScope s_Monoid_least_left) := ⟨rfl, rfl, rfl, by decide +kernel, rfl, by decide +kernel, by decide +kernel⟩
abbrev N_Monoid_first_led : List Str := ["self", "numbers", "goals", "known", "letter", "found", "goal", "number"]
theorem sc_Monoid_first_led : FnScope N_Monoid_first_led ["self", "numbers", "goals"] (defScope s_Monoid_first_led) := ⟨rfl, rfl, rfl, by decide +kernel, rfl, by decide +kernel, by decide +kernel⟩
structure Txt (K : PySem.W.Frag) (mg : Str → Option Value) : Prop where
  n_int : mg "int" = none
  n_isinstance : mg "isinstance" = none
  n_bool : mg "bool" = none
  n_list : mg "list" = none
  n_tuple : mg "tuple" = none
  n_len : mg "len" = none
  n_enumerate : mg "enumerate" = none
  n_all : mg "all" = none
  n_abs : mg "abs" = none
  n_range : mg "range" = none
  n_zip : mg "zip" = none
  n_sorted : mg "sorted" = none
  n_dict : mg "dict" = none
  n_str : mg "str" = none
  c_MOST_ELEMENTS : ∃ u, mg "MOST_ELEMENTS" = some u ∧ RelV (.int 2000) u
  c_MOST_LETTERS : ∃ u, mg "MOST_LETTERS" = some u ∧ RelV (.int 6) u
  c_LETTERS : ∃ u, mg "LETTERS" = some u ∧ RelV (.str (S [97, 98, 99, 100, 101, 102])) u
  c_MOST_WORD : ∃ u, mg "MOST_WORD" = some u ∧ RelV (.int 100) u
/-- the class, the table of code of the def that makes a lambda -/
structure Zed where
  C : Addr
  P__law_steps : Addr
def Zed.TT (z : Zed) : List (Addr × Str) := [(z.P__law_steps, (("_law_steps" : Str) ++ ".<locals>.") ++ "<lambda>")]
structure Zok (K : PySem.W.Frag) (mg : Str → Option Value) (z : Zed) : Prop where
  cl : Cls K z.C
  n_right : NoAttr K z.C "right"
  n_tree : NoAttr K z.C "tree"
  n_lefts : NoAttr K z.C "lefts"
  n_memory : NoAttr K z.C "memory"
theorem Zok.tab__law_steps {K : PySem.W.Frag} {mg : Str → Option Value} {z : Zed} (Z : Zok K mg z) : ∀ p ∈ z.TT, p.1 = z.P__law_steps → p.2 = (("_law_steps" : Str) ++ ".<locals>.") ++ "<lambda>" := fun p hp e => by
  rw [List.mem_singleton.mp hp]
/-! ### what lies -/
/-- the tree's list: None, then pairs -/
def Trl (H : Hp) (p : Addr) (tr : List (Nat × Nat)) : Prop := ∃ as : List Addr, H p = some (.lst (.non :: refs as)) ∧ as.length + 1 = tr.length ∧ ∀ (i : Nat) (a : Addr) (q : Nat × Nat), as[i]? = some a → tr[i + 1]? = some q → H a = some (.tup [vI q.1, vI q.2])
theorem Trl.kq {H H' : Hp} {p : Addr} {tr : List (Nat × Nat)} (h : Trl H p tr) (k : Kq H H') : Trl H' p tr := by
  obtain ⟨as, h1, h2, h3⟩ := h
  exact ⟨as, k.1 _ _ h1, h2, fun i a r e1 e2 => k.2 _ _ (h3 i a r e1 e2)⟩
structure GoodT (T : Tab) (m N : Nat) : Prop where
  len : T.length = N
  le : N ≤ 2000
  m1 : 1 ≤ m
  m6 : m ≤ 6
  g : Good T m N
  p : Mon.Prod T m N
abbrev kw : Key := .inr (S [119, 111, 114, 100, 115])
abbrev ke : Key := .inr (S [101, 110, 100, 115])
/-- the memory's dict: words and ends are what they must be, where they are -/
def Memo (H : Hp) (me : Addr) (T : Tab) (m N : Nat) : Prop := ∃ kvs : List (Key × V), H me = some (.dK kvs) ∧ kvs.length = (if (valV kvs kw).isSome then 1 else 0) + (if (valV kvs ke).isSome then 1 else 0) ∧ (∀ v, valV kvs kw = some v → ∃ p, v = .ref p ∧ H p = some (.lst (txV (wds (tree T m N))))) ∧ ∀ v, valV kvs ke = some v → ∃ p, v = .ref p ∧ H p = some (.lst (rowV (ends T (tree T m N))))
structure Ob (z : Zed) (H : Hp) (a me : Addr) (T : Tab) (m N : Nat) : Prop where
  ins : ∃ dx r t l, H a = some (.ins z.C dx [("right", .ref r), ("tree", .ref t), ("lefts", .ref l), ("memory", .ref me)]) ∧ Tb true true H r T ∧ Trl H t (tree T m N) ∧ Tb true true H l (lefts T (tree T m N))
  mem : Memo H me T m N
/-- all but the memory is kept -/
theorem Memo.dk {H : Hp} {me : Addr} {T : Tab} {m N : Nat} (h : Memo H me T m N) : ∃ kvs, H me = some (.dK kvs) := let ⟨kvs, e, _⟩ := h; ⟨kvs, e⟩
theorem kq_exB {H H' : Hp} {me : Addr} {kvs : List (Key × V)} (h : H me = some (.dK kvs)) (e : ExB me H H') : Kq H H' := ⟨fun a xs q => e a _ (ne_of q h (fun z => nomatch z)) q, fun a xs q => e a _ (ne_of q h (fun z => nomatch z)) q⟩
theorem kq_extN {H H' : Hp} (e : ExtN H H') : Kq H H' := ⟨fun a xs q => e a _ q (fun ps z => nomatch z), fun a xs q => e a _ q (fun ps z => nomatch z)⟩
/-- all but the memory and the tables of code is kept -/
def ExM (me : Addr) (H H' : Hp) : Prop := ∀ b o, b ≠ me → H b = some o → (∀ ps, o ≠ .tbl ps) → H' b = some o
theorem ExM.refl (me : Addr) (H : Hp) : ExM me H H := fun _ _ _ e _ => e
theorem ExM.trans {me : Addr} {H H1 H2 : Hp} (a : ExM me H H1) (b : ExM me H1 H2) : ExM me H H2 := fun c o n e t => b c o n (a c o n e t) t
theorem ExM.ofB {me : Addr} {H H' : Hp} (e : ExB me H H') : ExM me H H' := fun b o n q _ => e b o n q
theorem ExM.ofN {me : Addr} {H H' : Hp} (e : ExtN H H') : ExM me H H' := fun b o _ q t => e b o q t
theorem ExM.ofS {me : Addr} {H H' : Hp} (e : Same H H') : ExM me H H' := fun b o _ q _ => e b o q
theorem kq_exM {H H' : Hp} {me : Addr} {kvs : List (Key × V)} (h : H me = some (.dK kvs)) (e : ExM me H H') : Kq H H' := ⟨fun a xs q => e a _ (ne_of q h (fun z => nomatch z)) q (fun ps z => nomatch z), fun a xs q => e a _ (ne_of q h (fun z => nomatch z)) q (fun ps z => nomatch z)⟩
theorem Ob.same {z : Zed} {H H' : Hp} {a me : Addr} {T : Tab} {m N : Nat} (o : Ob z H a me T m N) (e : Same H H') : Ob z H' a me T m N := by
  obtain ⟨⟨dx, r, t, l, h1, h2, h3, h4⟩, ⟨kvs, m1, m2, m3, m4⟩⟩ := o
  have k := Kq.of e
  exact ⟨⟨dx, r, t, l, e _ _ h1, h2.kq k, h3.kq k, h4.kq k⟩, ⟨kvs, e _ _ m1, m2, fun v hv => let ⟨p, q1, q2⟩ := m3 v hv; ⟨p, q1, e _ _ q2⟩, fun v hv => let ⟨p, q1, q2⟩ := m4 v hv; ⟨p, q1, e _ _ q2⟩⟩⟩
theorem Ob.extN {z : Zed} {H H' : Hp} {a me : Addr} {T : Tab} {m N : Nat} (o : Ob z H a me T m N) (e : ExtN H H') : Ob z H' a me T m N := by
  obtain ⟨⟨dx, r, t, l, h1, h2, h3, h4⟩, ⟨kvs, m1, m2, m3, m4⟩⟩ := o
  have k := kq_extN e
  exact ⟨⟨dx, r, t, l, e _ _ h1 (fun ps z => nomatch z), h2.kq k, h3.kq k, h4.kq k⟩, ⟨kvs, e _ _ m1 (fun ps z => nomatch z), m2, fun v hv => let ⟨p, q1, q2⟩ := m3 v hv; ⟨p, q1, k.1 _ _ q2⟩, fun v hv => let ⟨p, q1, q2⟩ := m4 v hv; ⟨p, q1, k.1 _ _ q2⟩⟩⟩
theorem Tabs.exB {TT : List (Addr × Str)} {H H' : Hp} {me : Addr} {kvs : List (Key × V)} (h : H me = some (.dK kvs)) (t : Tabs TT H) (e : ExB me H H') : Tabs TT H' := fun p hp => by
  obtain ⟨ps, h1, h2, h3⟩ := t p hp
  refine ⟨ps, e _ _ (ne_of h1 h (fun z => nomatch z)) h1, h2, fun pos cv hc => ?_⟩
  obtain ⟨c, e1, e2⟩ := h3 pos cv hc
  refine ⟨c, e1, e _ _ (ne_of e2 h ?_) e2⟩
  unfold CodeO
  intro z
  cases z
theorem Tabs.same {TT : List (Addr × Str)} {H H' : Hp} (t : Tabs TT H) (e : Same H H') : Tabs TT H' := Tabs.ext t e
/-- nothing but a table of code could have been at p -/
def Nw (H : Hp) (p : Addr) : Prop := ∀ o, H p = some o → ∃ ps, o = .tbl ps
theorem Nw.ne {H : Hp} {p b : Addr} {o : HO} (n : Nw H p) (h : H b = some o) (t : ∀ ps, o ≠ .tbl ps) : b ≠ p := fun e => by
  rw [e] at h
  obtain ⟨ps, q⟩ := n o h
  exact t ps q
/-- a list of references is none of the object's lists -/
theorem Ob.updL {z : Zed} {H : Hp} {a me D : Addr} {T : Tab} {m N : Nat} {bs : List Addr} {xs : List V} (o : Ob z H a me T m N) (G : GoodT T m N) (hD : H D = some (.lst (refs bs))) : Ob z (L2.upd H D (.lst xs)) a me T m N := by
  obtain ⟨⟨dx, r, t, l, h1, h2, h3, h4⟩, ⟨kvs, m1, m2, m3, m4⟩⟩ := o
  have hpos := G.g.pos
  have kt : ∀ a ys, H a = some (.tup ys) → (L2.upd H D (.lst xs)) a = some (.tup ys) := fun a ys h => by rw [upd_ne (ne_of h hD (fun z => nomatch z))]; exact h
  have kl : ∀ p ys, H p = some (.lst ys) → ys ≠ refs bs → (L2.upd H D (.lst xs)) p = some (.lst ys) := fun p ys h n => by rw [upd_ne (ne_of h hD (fun z => n (HO.lst.inj z)))]; exact h
  have ktb : ∀ p S, Tb true true H p S → Tb true true (L2.upd H D (.lst xs)) p S := fun p S ⟨as, e1, e2, e3⟩ => ⟨as, kt _ _ e1, e2, fun i a r q1 q2 => kt _ _ (e3 i a r q1 q2)⟩
  refine ⟨⟨dx, r, t, l, by rw [upd_ne (ne_of h1 hD (fun z => nomatch z))]; exact h1, ktb _ _ h2, ?_, ktb _ _ h4⟩, ⟨kvs, by rw [upd_ne (ne_of m1 hD (fun z => nomatch z))]; exact m1, m2, fun v hv => ?_, fun v hv => ?_⟩⟩
  · obtain ⟨as, e1, e2, e3⟩ := h3
    refine ⟨as, kl _ _ e1 (fun z => ?_), e2, fun i a q q1 q2 => kt _ _ (e3 i a q q1 q2)⟩
    cases bs <;> cases z
  · obtain ⟨p, q1, q2⟩ := m3 v hv
    refine ⟨p, q1, kl _ _ q2 fun z => ?_⟩
    have hl := G.g.wlen
    cases hw : wds (tree T m N) with
    | nil => rw [hw] at hl; simp at hl; omega
    | cons x y => rw [hw] at z; cases bs <;> cases z
  · obtain ⟨p, q1, q2⟩ := m4 v hv
    refine ⟨p, q1, kl _ _ q2 fun z => ?_⟩
    have hl := G.g.elen
    cases hw : ends T (tree T m N) with
    | nil => rw [hw] at hl; simp at hl; omega
    | cons x y => rw [hw] at z; cases bs <;> cases z
theorem Tabs.updL {TT : List (Addr × Str)} {H : Hp} {D : Addr} {xs ys : List V} (t : Tabs TT H) (hD : H D = some (.lst ys)) : Tabs TT (L2.upd H D (.lst xs)) := fun p hp => by
  obtain ⟨ps, h1, h2, h3⟩ := t p hp
  refine ⟨ps, by rw [upd_ne (ne_of h1 hD (fun z => nomatch z))]; exact h1, h2, fun pos cv hc => ?_⟩
  obtain ⟨c, e1, e2⟩ := h3 pos cv hc
  refine ⟨c, e1, ?_⟩
  rw [upd_ne (ne_of e2 hD ?_)]
  · exact e2
  · unfold CodeO
    intro z
    cases z
/-! ### promises -/
def sp_is_number (_ : PySem.W.Frag) : Sp := fun vs H Q _ => ∃ i : Int, vs = [.int i] ∧ ∀ H', Same H H' → Q (.bl true) H'
def sp_is_sequence (_ : PySem.W.Frag) : Sp := fun vs H Q _ => ∃ (p : Addr) (b : Bool) (xs : List V), vs = [.ref p] ∧ H p = some (Bx b xs) ∧ ∀ H', Same H H' → Q (.bl true) H'
def sp_check_form (_ : PySem.W.Frag) : Sp := fun vs H Q _ => ∃ (p : Addr) (T : Tab) (m N : Nat), vs = [.ref p] ∧ Tb false false H p T ∧ GoodT T m N ∧ ∀ H', Same H H' → Q .non H'
def sp_check_order (_ : PySem.W.Frag) : Sp := fun vs H Q _ => ∃ (p : Addr) (T : Tab) (m N : Nat), vs = [.ref p] ∧ Tb true true H p T ∧ GoodT T m N ∧ ∀ H', Same H H' → Q .non H'
def sp_tree_of (_ : PySem.W.Frag) : Sp := fun vs H Q _ => ∃ (p : Addr) (T : Tab) (m N : Nat), vs = [.ref p] ∧ Tb true true H p T ∧ GoodT T m N ∧ ∀ q H', H q = none → Same H H' → Trl H' q (tree T m N) → Q (.ref q) H'
def sp_left_of (_ : PySem.W.Frag) : Sp := fun vs H Q _ => ∃ (p t : Addr) (T : Tab) (m N : Nat), vs = [.ref p, .ref t] ∧ Tb true true H p T ∧ Trl H t (tree T m N) ∧ GoodT T m N ∧ ∀ q H', Same H H' → Tb true true H' q (lefts T (tree T m N)) → Q (.ref q) H'
def sp_check_products (_ : PySem.W.Frag) : Sp := fun vs H Q _ => ∃ (p l : Addr) (T : Tab) (m N : Nat), vs = [.ref p, .ref l] ∧ Tb true true H p T ∧ Tb true true H l (lefts T (tree T m N)) ∧ GoodT T m N ∧ ∀ H', Same H H' → Q .non H'
def sp_Monoid_init (z : Zed) (_ : PySem.W.Frag) : Sp := fun vs H Q _ => ∃ (x dx p : Addr) (T : Tab) (m N : Nat), vs = [.ref x, .ref p] ∧ H x = some (.ins z.C dx []) ∧ Tb false false H p T ∧ GoodT T m N ∧ ∀ H' me, H me = none → ExB x H H' → Ob z H' x me T m N → Q .non H'
/-- None, or the text -/
def oV : Option (List Nat) → V
  | none => .non
  | some w => .str (S w)
abbrev lenK : Kw → List (Key × V) := kwK fun q => vI q.2.length
abbrev wordK : Kw → List (Key × V) := kwK fun q => .str (S q.2)
/-- products by number -/
def prT (T : Tab) (m N : Nat) : Tab := (List.range N).map fun x => (List.range N).map fun y => run T x (W T m N y)
def sp_Monoid_check_number (z : Zed) (_ : PySem.W.Frag) : Sp := fun vs H Q _ => ∃ (a me : Addr) (T : Tab) (m N n : Nat), vs = [.ref a, vI n] ∧ Ob z H a me T m N ∧ GoodT T m N ∧ n < N ∧ ∀ H', Same H H' → Q .non H'
def sp_Monoid_places_of (z : Zed) (_ : PySem.W.Frag) : Sp := fun vs H Q _ => ∃ (a me : Addr) (T : Tab) (m N : Nat) (w : List Nat) (most : Int), vs = [.ref a, .str (S w), .int most] ∧ Ob z H a me T m N ∧ GoodT T m N ∧ Lt m w ∧ (w.length : Int) ≤ most ∧ w.length ≤ 100 ∧ ∀ p H', H p = none → Same H H' → H' p = some (.lst (rowV (w.map fun c => c - 97))) → Q (.ref p) H'
def sp_Monoid_of_word (z : Zed) (_ : PySem.W.Frag) : Sp := fun vs H Q _ => ∃ (a me : Addr) (T : Tab) (m N : Nat) (w : List Nat), vs = [.ref a, .str (S w)] ∧ Ob z H a me T m N ∧ GoodT T m N ∧ Lt m w ∧ w.length ≤ 100 ∧ ∀ H', Same H H' → Q (vI (run T 0 w)) H'
def sp_Monoid_least_right (z : Zed) (_ : PySem.W.Frag) : Sp := fun vs H Q _ => ∃ (a me : Addr) (T : Tab) (m N x y : Nat), vs = [.ref a, vI x, vI y] ∧ Ob z H a me T m N ∧ GoodT T m N ∧ x < N ∧ y < N ∧ ∀ o H', IsLw (at2 T) m x y o → Same H H' → Q (oV o) H'
def sp_Monoid_layers_left (z : Zed) (_ : PySem.W.Frag) : Sp := fun vs H Q _ => ∃ (a me : Addr) (T : Tab) (m N x : Nat), vs = [.ref a, vI x] ∧ Ob z H a me T m N ∧ GoodT T m N ∧ x < N ∧ ∀ p kw H', H p = none → Same H H' → Bf (sl T m N) m x kw kw.length 0 → H' p = some (.dK (lenK kw)) → Q (.ref p) H'
def sp_Monoid_least_left (z : Zed) (_ : PySem.W.Frag) : Sp := fun vs H Q _ => ∃ (a me : Addr) (T : Tab) (m N x y : Nat), vs = [.ref a, vI x, vI y] ∧ Ob z H a me T m N ∧ GoodT T m N ∧ x < N ∧ y < N ∧ ∀ o H', IsLP (fun w => la T m N w x = y) m o → Same H H' → Q (oV o) H'
def sp_Monoid_first_led (z : Zed) (_ : PySem.W.Frag) : Sp := fun vs H Q _ => ∃ (a me pn pg : Addr) (T : Tab) (m N : Nat) (nums goals : List Nat), vs = [.ref a, .ref pn, .ref pg] ∧ Ob z H a me T m N ∧ GoodT T m N ∧ H pn = some (.lst (rowV nums)) ∧ H pg = some (.lst (rowV goals)) ∧ (∀ y ∈ nums, y < N) ∧ nums.length ≤ 2000 ∧ goals.length ≤ 2000 ∧ (∃ l, l < m ∧ ledBy T m N nums goals l ≠ []) ∧
  ∀ (t q : Addr) (l : Nat) (H' : Hp), Same H H' → l < m → ledBy T m N nums goals l ≠ [] → (∀ c, c < l → ledBy T m N nums goals c = []) → H' t = some (.tup [vI l, .ref q]) → H q = none → H' q = some (.lst (rowV (ledBy T m N nums goals l))) → Q (.ref t) H'
/-- the source of draws -/
def Src (H : Hp) (p : Addr) : Prop := ∃ a b c : Int, H p = some (.lst [.int a, .int b, .int c]) ∧ 0 ≤ a
theorem Src.same {H H' : Hp} {p : Addr} (s : Src H p) (k : Kq H H') : Src H' p := let ⟨a, b, c, h, r⟩ := s; ⟨a, b, c, k.1 _ _ h, r⟩
def sp__law_source (_ : PySem.W.Frag) : Sp := fun vs H Q _ => ∃ i : Int, vs = [.int i] ∧ ∀ p H', H p = none → Same H H' → Src H' p → Q (.ref p) H'
def sp__law_draw (_ : PySem.W.Frag) : Sp := fun vs H Q _ => ∃ (p : Addr) (n : Int), vs = [.ref p, .int n] ∧ Src H p ∧ 0 < n ∧ n < 1000000 ∧ ∀ (d : Int) (H' : Hp), 0 ≤ d → d < n → Src H' p → ExB p H H' → Q (.int d) H'
/-- the drawn maps -/
structure Mps (rows : Tab) (sz : Nat) : Prop where
  s1 : 1 ≤ sz
  s4 : sz ≤ 4
  r1 : 1 ≤ rows.length
  r6 : rows.length ≤ 6
  maps : ∀ r ∈ rows, IsMap sz r
def sp__law_maps (_ : PySem.W.Frag) : Sp := fun vs H Q _ => ∃ (p : Addr) (a b : Int), vs = [.ref p, .int a, .int b] ∧ Src H p ∧ 1 ≤ a ∧ a ≤ 4 ∧ 1 ≤ b ∧ b ≤ 6 ∧ ∀ (q : Addr) (rows : Tab) (sz : Nat) (H' : Hp), H q = none → q ≠ p → Mps rows sz → ((rows.length : Nat) : Int) ≤ b → Src H' p → Tb false true H' q rows → ExB p H H' → Q (.ref q) H'
def sp__law_table (_ : PySem.W.Frag) : Sp := fun vs H Q _ => ∃ (q : Addr) (rows : Tab) (sz : Nat), vs = [.ref q] ∧ Tb false true H q rows ∧ Mps rows sz ∧ ∀ (t f w tb : Addr) (N : Nat) (H' : Hp), Done rows sz N → Same H H' → H' t = some (.tup [.ref f, .ref w, .ref tb]) → Tb false true H' f (fdT rows sz N) → H' w = some (.lst (txV (wsT rows sz N))) → Tb false false H' tb (tbT rows sz N) → Q (.ref t) H'
def sp__law_steps (z : Zed) (_ : PySem.W.Frag) : Sp := fun vs H Q _ => ∃ (tb : Addr) (T : Tab) (m N x : Nat), vs = [.ref tb, vI x] ∧ Tb false false H tb T ∧ GoodT T m N ∧ x < N ∧ Tabs z.TT H ∧ ∀ p kvs H', ExtN H H' → Tabs z.TT H' → H' p = some (.dK kvs) → (∀ y, y < N → ∃ o, IsLw (at2 T) m x y o ∧ (valV kvs (.inl ((y : Nat) : Int))).getD .non = oV o) → Q (.ref p) H'
def sp__law_products (_ : PySem.W.Frag) : Sp := fun vs H Q _ => ∃ (f tb : Addr) (rows : Tab) (sz N : Nat), vs = [.ref f, .ref tb] ∧ Mps rows sz ∧ Done rows sz N ∧ Tb false true H f (fdT rows sz N) ∧ ∀ p H', Same H H' → Tb false false H' p (prT (tbT rows sz N) rows.length N) → Q (.ref p) H'
def sp__law_all_words (_ : PySem.W.Frag) : Sp := fun vs H Q _ => ∃ (m most : Nat), vs = [.str (S ((List.range m).map fun l => 97 + l)), .int (most : Nat)] ∧ m ≤ 6 ∧ most ≤ 9 ∧ m ^ most ≤ 300 ∧ 1 ≤ m ∧ ∀ p H', H p = none → Same H H' → H' p = some (.lst (txV (aw m most))) → Q (.ref p) H'
def sp__law_by_words (z : Zed) (_ : PySem.W.Frag) : Sp := fun vs H Q _ => ∃ (a me pr : Addr) (T : Tab) (m N most : Nat), vs = [.ref a, .ref pr, .str (S ((List.range m).map fun l => 97 + l)), .int (most : Nat)] ∧ Ob z H a me T m N ∧ GoodT T m N ∧ N ≤ 14 ∧ most ≤ 9 ∧ m ^ most ≤ 300 ∧ Tb false false H pr (prT T m N) ∧ ∀ H', Same H H' → Q (.bl true) H'
def sp__law_right (z : Zed) (_ : PySem.W.Frag) : Sp := fun vs H Q _ => ∃ (a me f tb : Addr) (rows : Tab) (sz N : Nat), vs = [.ref a, .ref f, .ref tb] ∧ Mps rows sz ∧ rows.length ≤ 3 ∧ Done rows sz N ∧ N ≤ 14 ∧ Ob z H a me (tbT rows sz N) rows.length N ∧ Tb false true H f (fdT rows sz N) ∧ Tb false false H tb (tbT rows sz N) ∧ Tabs z.TT H ∧ ∀ H', ExtN H H' → Tabs z.TT H' → Q (.bl true) H'
def sp_law (z : Zed) (K : PySem.W.Frag) : Sp := fun vs H Q _ => ∃ (a : Addr) (ns : List Int), vs = [.ref a] ∧ SqL K H a (ns.map V.int) ∧ ns.length ≤ 63 ∧ Tabs z.TT H ∧ ∀ H', Q (.bl true) H'
end My
namespace My
open PySem PySem.Spec L2 SX LamX Mon
open PyProof.Rows hiding St
local macro_rules | `(tactic| walk_at "kb") => `(tactic| first | exact kb_str_str | exact kb_str_int | exact kb_str_bool | exact kb_str_list | exact kb_str_tuple | exact kb_int_str | exact kb_int_int | exact kb_int_bool | exact kb_int_list | exact kb_int_tuple | exact kb_bool_str | exact kb_bool_int | exact kb_bool_bool | exact kb_bool_list | exact kb_bool_tuple | exact kb_list_str | exact kb_list_int | exact kb_list_bool | exact kb_list_list | exact kb_list_tuple | exact kb_tuple_str | exact kb_tuple_int | exact kb_tuple_bool | exact kb_tuple_list | exact kb_tuple_tuple | exact kb_NoneType_str | exact kb_NoneType_int | exact kb_NoneType_bool | exact kb_NoneType_list | exact kb_NoneType_tuple)
local macro_rules | `(tactic| walk_at "hp") => `(tactic| first | assumption | exact upd_same | (refine (upd_ne (by first | assumption | (apply Ne.symm; assumption))).trans ?_; walk_at "hp"))
local macro_rules | `(tactic| walk_at "sq") => `(tactic| first | assumption | exact SqL.of (by walk_at "hp"))
local macro_rules | `(tactic| walk_at "sqt") => `(tactic| first | assumption | exact SqT.of (by walk_at "hp"))
local macro_rules | `(tactic| walk_at "ar") => `(tactic| first | omega | (dsimp only; omega) | (unfold CMul; omega) | (unfold CDiv; omega) | (unfold CPow; refine ⟨?_, ?_, ?_⟩ <;> decide) | (simp only [List.length_cons, List.length_nil]; decide))
local macro_rules | `(tactic| walk_at "rd") => `(tactic| first
  | with_reducible refine rd_seq ?_
  | with_reducible refine rd_asg ?_
  | with_reducible refine rd_if ?_
  | with_reducible refine rd_ret ?_
  | with_reducible refine rd_drop ?_
  | with_reducible refine rd_name ?_
  | with_reducible refine rd_sub ?_
  | ((with_reducible refine' rd_var ?e ?_); (case e => exact rfl))
  | with_reducible refine rd_c ?_
  | with_reducible refine rd_op ?_
  | with_reducible refine rd_un ?_
  | with_reducible refine rd_I0 ?_
  | ((with_reducible refine' rd_I ?c ?_); (case c => walk_at "ar"))
  | with_reducible refine rd_U ?_
  | with_reducible refine rd_eqI ?_
  | with_reducible refine rd_neI ?_
  | with_reducible refine rd_eqS ?_
  | with_reducible refine rd_neS ?_
  | with_reducible refine rd_eqB ?_
  | with_reducible refine rd_neB ?_
  | with_reducible refine rd_test ?_
  | with_reducible refine rd_B ?_
  | with_reducible refine rd_and ?_
  | with_reducible refine rd_or ?_
  | with_reducible refine rd_not ?_
  | with_reducible refine rd_andV ?_
  | with_reducible refine rd_orV ?_
  | with_reducible refine rd_notV ?_
  | with_reducible refine rd_ifE ?_
  | with_reducible refine rd_isN ?_
  | with_reducible refine rd_notN ?_
  | with_reducible refine rd_cons ?_
  | with_reducible refine rd_nil ?_
  | with_reducible refine rd_lst ?_
  | with_reducible refine rd_tup ?_
  | with_reducible refine rd_CB ?_
  | with_reducible refine rd_call ?_
  | with_reducible refine rd_sl ?_
  | with_reducible refine rd_part ?_
  | with_reducible refine rd_nopart ?_
  | with_reducible refine rd_par ?_
  | with_reducible refine rd_two ?_
  | with_reducible refine rd_next ?_
  | with_reducible refine rd_retN ?_
  | with_reducible refine rd_bool ?_
  | with_reducible refine rd_int ?_
  | with_reducible refine rd_intI ?_
  | with_reducible refine rd_intB ?_
  | with_reducible refine rd_ltS ?_
  | with_reducible refine rd_leS ?_
  | with_reducible refine rd_gtS ?_
  | with_reducible refine rd_geS ?_
  | with_reducible refine rd_inC ?_
  | with_reducible refine rd_notInC ?_
  | with_reducible refine rd_abs ?_
  | with_reducible refine rd_max2 ?_
  | with_reducible refine rd_min2 ?_
  | with_reducible refine rd_M1 ?_
  | with_reducible refine rd_isStr ?_
  | ((with_reducible refine' rd_len ?b ?_); (case b => (simp only [List.length_cons, List.length_nil]; decide)))
  | ((with_reducible refine' rd_listS ?b ?_); (case b => first | (simp only [List.length_take, List.length_cons, List.length_nil]; omega) | omega))
  | ((with_reducible refine' rd_isi ?ty ?h ?_); (case ty => first | exact ty_str | exact ty_int | exact ty_bl | exact ty_non | exact ty_lst (by walk_at "hp") | exact ty_tup (by walk_at "hp")); (case h => walk_at "kb"))
  | with_reducible refine rd_lc ?_
  | with_reducible refine rd_for ?_
  | with_reducible refine rd_iList ?_
  | with_reducible refine rd_iTup ?_
  | with_reducible refine rd_iRng1 ?_
  | with_reducible refine rd_iRng2 ?_
  | with_reducible refine rd_iRng3 ?_
  | with_reducible refine rd_iStr ?_
  | with_reducible refine rd_qIs ?_
  | with_reducible refine rd_whb ?_
  | ((with_reducible refine' rd_qIl ?sq ?_); (case sq => walk_at "sq"))
  | ((with_reducible refine' rd_qItu ?sq ?_); (case sq => walk_at "sqt"))
  | ((with_reducible refine' rd_qIr1 ?b1 ?b2 ?_); (case b1 => walk_at "ar"); (case b2 => walk_at "ar"))
  | ((with_reducible refine' rd_qIr2 ?b1 ?b2 ?b3 ?b4 ?_); (case b1 => walk_at "ar"); (case b2 => walk_at "ar"); (case b3 => walk_at "ar"); (case b4 => walk_at "ar"))
  | ((with_reducible refine' rd_qIr3 ?b1 ?b2 ?b3 ?b4 ?_); (case b1 => walk_at "ar"); (case b2 => walk_at "ar"); (case b3 => walk_at "ar"); (case b4 => walk_at "ar"))
  | ((with_reducible refine' rd_mulS ?b1 ?b2 ?b3 ?_); (case b1 => walk_at "ar"); (case b2 => walk_at "ar"); (case b3 => walk_at "ar"))
  | ((with_reducible refine' rd_slS_to ?b1 ?b2 ?_); (case b1 => walk_at "ar"); (case b2 => walk_at "ar"))
  | ((with_reducible refine' rd_slS_from ?b1 ?b2 ?_); (case b1 => walk_at "ar"); (case b2 => walk_at "ar"))
  | ((with_reducible refine' rd_slS_mid ?b1 ?b2 ?b3 ?b4 ?_); (case b1 => walk_at "ar"); (case b2 => walk_at "ar"); (case b3 => walk_at "ar"); (case b4 => walk_at "ar"))
  | ((with_reducible refine' rd_slL ?sq ?_); (case sq => walk_at "sq"))
  | with_reducible refine rd_true ?_
  | with_reducible refine rd_false ?_
  | with_reducible refine rd_nt ?_
  | with_reducible refine rd_nf ?_
  | ((with_reducible refine' rd_decT ?h ?_); (case h => omega))
  | ((with_reducible refine' rd_decF ?h ?_); (case h => omega))
  | ((with_reducible refine' rd_ndecT ?h ?_); (case h => omega))
  | ((with_reducible refine' rd_ndecF ?h ?_); (case h => omega))
  | ((with_reducible refine' rd_evT ?h ?_); (case h => first | exact rfl | (simp; done)))
  | ((with_reducible refine' rd_evF ?h ?_); (case h => first | exact rfl | (simp; done)))
  | ((with_reducible refine' rd_ixL ?sq ?a1 ?_); (case sq => walk_at "sq"); (case a1 => first | exact rfl | exact at_of (by omega) (by assumption)))
  | ((with_reducible refine' rd_ixT ?sq ?a1 ?_); (case sq => walk_at "sqt"); (case a1 => first | exact rfl | exact at_of (by omega) (by assumption)))
  | ((with_reducible refine' rd_lenL ?sq ?_); (case sq => walk_at "sq"))
  | ((with_reducible refine' rd_lenT ?sq ?_); (case sq => walk_at "sqt"))
  | ((with_reducible refine' rd_setL ?h ?j ?_); (case h => walk_at "hp"); (case j => exact rfl); (with_reducible refine id ?_))
  | ((with_reducible refine' rd_strlen ?l ?_); (case l => walk_at "ar"))
  | ((with_reducible refine' rd_cat ?l ?_); (case l => walk_at "ar")))
local macro_rules | `(tactic| walk_at "go") => `(tactic| ((try dsimp only); (repeat (walk_at "rd"))))
local macro_rules | `(tactic| walk_at "rd") => `(tactic| first
  | with_reducible refine rd_lstRg ?_
  | with_reducible refine rd_tRg1 ?_
  | with_reducible refine rd_tRg2 ?_
  | with_reducible refine rd_rg1 ?_
  | with_reducible refine rd_rg2 ?_
  | ((with_reducible refine' rd_qRg ?b ?_); (case b => refine ⟨?_, ?_, ?_, ?_⟩ <;> omega))
  | with_reducible refine rd_sortSet ?_
  | with_reducible refine rd_tDGet ?_
  | with_reducible refine rd_sDPut ?_
  | with_reducible refine rd_dnew ?_
  | with_reducible refine rd_iZipS ?_
  | with_reducible refine rd_zipS ?_
  | ((with_reducible refine' rd_inI ?sq ?_); (case sq => walk_at "sq"))
  | ((with_reducible refine' rd_notInI ?sq ?_); (case sq => walk_at "sq"))
  | with_reducible refine rd_chain ?_)

local macro_rules | `(tactic| walk_at "rd") => `(tactic| first
  | with_reducible refine rd_fld ?_
  | with_reducible refine rd_par3 ?_
  | with_reducible refine rd_sFld ?_
  | with_reducible refine rd_meth ?_
  | with_reducible refine rd_make ?_
  | with_reducible refine rd_iEnT ?_
  | with_reducible refine rd_iEnL ?_
  | with_reducible refine rd_iZipSL ?_
  | with_reducible refine rd_dIn ?_
  | with_reducible refine rd_dNotIn ?_
  | with_reducible refine rd_tDGet ?_
  | with_reducible refine rd_thenT ?_
  | with_reducible refine rd_sortLam ?_
  | with_reducible refine rd_tupRg ?_
  | with_reducible refine rd_bm ?_
  | ((with_reducible refine' rd_kTupT ?sq ?_); (case sq => walk_at "sqt"))
  | ((with_reducible refine' rd_kTupL ?sq ?_); (case sq => walk_at "sq"))
  | with_reducible refine rd_sDPut ?_
  | ((with_reducible refine' rd_enT ?sq ?_); (case sq => walk_at "sqt"))
  | ((with_reducible refine' rd_enL ?sq ?_); (case sq => walk_at "sq"))
  | ((with_reducible refine' rd_zipSL ?sq ?_); (case sq => walk_at "sq")))

section
variable {P : Program} {w : World} {K : PySem.W.Frag} {mg : Str → Option Value} {base : Heap}
theorem ok_is_number {f : Addr} {fd : FuncData} (F : Fun K "is_number" "is_number" s_is_number f fd) (T : Txt K mg) : FnOk P w K mg base CX0 1 f fd ["thing"] (sp_is_number K) := by
  refine F.ok sc_is_number (fun vs H Q E h => by repeat (first | (obtain ⟨rfl, _⟩ := h; rfl) | obtain ⟨_, h⟩ := h)) (fun cdv A outer s H vs Q E hr h => ?_)
  refine ⟨_, (pss_one (ps_ret (pe_and (pe_callB call_isi rfl T.n_isinstance boot_isinstance (pa_cons (pv 0) (pa_cons (pe_bltn (v := .ty "int") rfl T.n_int boot_int rfl) pa_nil))) (pe_one (pe_not (pe_callB call_isi rfl T.n_isinstance boot_isinstance (pa_cons (pv 0) (pa_cons (pe_bltn (v := .ty "bool") rfl T.n_bool boot_bool rfl) pa_nil)))))))), ?_⟩
  try dsimp only [cxOf, Cx.nox, Cx.wish]
  obtain ⟨i, rfl, k⟩ := h
  walk_at "go"
  exact k _ (Same.refl _)
theorem ok_is_sequence {f : Addr} {fd : FuncData} (F : Fun K "is_sequence" "is_sequence" s_is_sequence f fd) (T : Txt K mg) : FnOk P w K mg base CX0 1 f fd ["thing"] (sp_is_sequence K) := by
  refine F.ok sc_is_sequence (fun vs H Q E h => by repeat (first | (obtain ⟨rfl, _⟩ := h; rfl) | obtain ⟨_, h⟩ := h)) (fun cdv A outer s H vs Q E hr h => ?_)
  refine ⟨_, (pss_one (ps_ret (pe_callB call_isiT rfl T.n_isinstance boot_isinstance (pa_cons (pv 0) (pa_cons (pe_tup (pa_cons (pe_bltn (v := .ty "list") rfl T.n_list boot_list rfl) (pa_cons (pe_bltn (v := .ty "tuple") rfl T.n_tuple boot_tuple rfl) pa_nil))) pa_nil))))), ?_⟩
  try dsimp only [cxOf, Cx.nox, Cx.wish]
  obtain ⟨p, b, xs, rfl, hp, k⟩ := h
  walk_at "go"
  intro p1 n1
  walk_at "go"
  cases b with
  | true => exact rd_isiLT upd_same (ty_tup (by rw [upd_ne (ne_of_none hp n1)]; exact hp)) kb_tuple_list kb_tuple_tuple (k _ (Same.new n1))
  | false => exact rd_isiLT upd_same (ty_lst (by rw [upd_ne (ne_of_none hp n1)]; exact hp)) kb_list_list kb_list_tuple (k _ (Same.new n1))
theorem trR_succ_len (T : Tab) (n j : Nat) (a : List (Nat × Nat)) : (trR T n (j + 1) a).length = if at2 T n j = (trR T n j a).length then (trR T n j a).length + 1 else (trR T n j a).length := by
  show (if at2 T n j = (trR T n j a).length then trR T n j a ++ [(n, j)] else trR T n j a).length = _
  split
  · simp
  · rfl
theorem row_at {T : Tab} {m N n j : Nat} (G : GoodT T m N) (hn : n < N) (hj : j < m) : (rowV (T.getD n []))[j]? = some (vI (at2 T n j)) := rowV_get (by rw [G.g.row n hn]; exact hj)
theorem ok_check_order {f : Addr} {fd : FuncData} (F : Fun K "check_order" "check_order" s_check_order f fd) (T : Txt K mg) : FnOk P w K mg base CX0 1 f fd ["right"] (sp_check_order K) := by
  refine F.ok sc_check_order (fun vs H Q E h => by repeat (first | (obtain ⟨rfl, _⟩ := h; rfl) | obtain ⟨_, h⟩ := h)) (fun cdv A outer s H vs Q E hr h => ?_)
  refine ⟨_, (pss_cons (ps_set (i := 1) sc_check_order.nd rfl (Or.inl rfl) pe_int)
  (pss_one (ps_for PassesOwn.never rfl (pi_enT rfl T.n_enumerate (pa_cons (pv 0) pa_nil)) (pg_two (i := 2) (j := 3) K rfl rfl sc_check_order.nd rfl (Or.inl rfl) rfl (Or.inl rfl))
  (pss_cons (ps_if (pt_cmpR op_ge (pv 2) (pv 1) (nomark _)) (pss_one ps_never) pss_nil)
  (pss_one (ps_for PassesOwn.never rfl (pi_tup (pv 3)) (pg_name (i := 4) sc_check_order.nd rfl (Or.inl rfl))
  (pss_cons (ps_if (pt_cmpR op_gt (pv 4) (pv 1) (nomark _)) (pss_one ps_never) pss_nil)
  (pss_one (ps_set (i := 1) sc_check_order.nd rfl (Or.inl rfl) (pe_op op_add (pv 1) (pe_callTy cq_int rfl T.n_int boot_int (pa_cons (pe_cmpR op_eq (pv 4) (pv 1) (nomark _)) pa_nil)))))))))))), ?_⟩
  try dsimp only [cxOf, Cx.nox, Cx.wish]
  obtain ⟨p, T, m, N, rfl, ⟨as, hp, hl, hr⟩, G, k⟩ := h
  have hN : as.length = N := by rw [hl, G.len]
  walk_at "go"
  refine forP (n := N) (by have := walk_enT (K := K) (a := p) (ys := refs as); rw [refs_len, hN] at this; exact this) (fun n σ' H' => ∃ v2 v3 v4, σ' = [some (.ref p), some (vI (trT T m n).length), v2, v3, v4] ∧ Same H H') ⟨_, _, _, rfl, Same.refl _⟩ (fun i σ' H' _ ⟨_, _, _, _, X1⟩ => Same.seqT X1 (SqT.of hp)) ?_ ?_
  · rintro n σ' H1 T1 x y hn ⟨v2, v3, v4, rfl, X1⟩ n1 hx hy
    obtain ⟨a, ha, rfl⟩ := refs_get hy
    cases hx
    have hrow := row_of hl hr ha
    obtain ⟨o1, o2⟩ := G.g.ord n hn
    walk_at "go"
    have hrow1 : (L2.upd H1 T1 (.tup [.int (n : Nat), .ref a])) a = some (.tup (rowV (T.getD n []))) := by
      have h2 := X1 _ _ hrow
      rw [upd_ne (ne_of_none h2 n1)]
      exact h2
    refine rd_qItu (SqT.of hrow1) ?_
    refine forT (K := K) (rowV (T.getD n [])) id (fun j σ' H' => ∃ v4, σ' = [some (.ref p), some (vI (trR T n j (trT T m n)).length), some (.int (n : Nat)), some (.ref a), v4] ∧ Same H H') ⟨_, rfl, X1.trans (Same.new n1)⟩ (fun i σ' H' _ ⟨_, _, X2⟩ => by rw [List.map_id]; exact Same.seqT X2 (SqT.of hrow)) ?_ ?_
    · rintro j y σ' H2 hy ⟨v4, rfl, X2⟩
      have hj : j < m := by
        have := (List.getElem?_eq_some_iff.mp hy).1
        rw [rowV_len, G.g.row n hn] at this
        exact this
      rw [row_at G hn hj] at hy
      cases hy
      have o3 := o2 j hj
      dsimp only [id]
      walk_at "go"
      refine ⟨some (.int (at2 T n j : Nat)), ?_, X2⟩
      have e : ((trR T n j (trT T m n)).length : Int) + (if decide (((at2 T n j : Nat) : Int) = ((trR T n j (trT T m n)).length : Int)) = true then 1 else 0) = ((trR T n (j + 1) (trT T m n)).length : Nat) := by
        rw [trR_succ_len]
        by_cases h1 : at2 T n j = (trR T n j (trT T m n)).length
        · rw [if_pos h1, h1]; simp
        · have h2 : ¬ (((at2 T n j : Nat) : Int) = ((trR T n j (trT T m n)).length : Int)) := by omega
          rw [if_neg h1]; simp [h2]
      dsimp only [List.set]
      rw [e]
    · rintro σ' H2 ⟨v4, rfl, X2⟩
      rw [rowV_len, G.g.row n hn]
      exact ⟨_, _, _, rfl, X2⟩
  · rintro σ' H1 ⟨v2, v3, v4, rfl, X1⟩
    exact k _ X1
theorem trl_snoc {H : Hp} {D p1 : Addr} {tr : List (Nat × Nat)} {n j : Nat} (h : Trl H D tr) (n1 : H p1 = none) : ∃ as : List Addr, H D = some (.lst (.non :: refs as)) ∧ Trl (L2.upd (L2.upd H p1 (.tup [vI n, vI j])) D (.lst ((.non :: refs as) ++ [.ref p1]))) D (tr ++ [(n, j)]) := by
  obtain ⟨as, h1, h2, h3⟩ := h
  refine ⟨as, h1, as ++ [p1], ?_, ?_, ?_⟩
  · rw [upd_same]; unfold refs; rw [List.map_append]; rfl
  · simp; omega
  · intro i a q e1 e2
    have hD : p1 ≠ D := (ne_of_none h1 n1).symm
    by_cases hi : i < as.length
    · rw [List.getElem?_append_left hi] at e1
      rw [List.getElem?_append_left (by omega)] at e2
      have h4 := h3 i a q e1 e2
      rw [upd_ne (ne_of h4 h1 (fun z => nomatch z)), upd_ne (ne_of_none h4 n1)]
      exact h4
    · have hi2 : i = as.length := by
        have := (List.getElem?_eq_some_iff.mp e1).1
        simp at this; omega
      subst hi2
      rw [List.getElem?_append_right (Nat.le_refl _), Nat.sub_self] at e1
      cases e1
      rw [List.getElem?_append_right (by omega), show as.length + 1 - tr.length = 0 by omega] at e2
      cases e2
      rw [upd_ne hD, upd_same]
theorem ok_tree_of {f : Addr} {fd : FuncData} (F : Fun K "tree_of" "tree_of" s_tree_of f fd) (T : Txt K mg) : FnOk P w K mg base CX0 1 f fd ["right"] (sp_tree_of K) := by
  refine F.ok sc_tree_of (fun vs H Q E h => by repeat (first | (obtain ⟨rfl, _⟩ := h; rfl) | obtain ⟨_, h⟩ := h)) (fun cdv A outer s H vs Q E hr h => ?_)
  refine ⟨_, (pss_cons (ps_set (i := 1) sc_tree_of.nd rfl (Or.inl rfl) (pe_lst (pa_cons pe_non pa_nil)))
  (pss_cons (ps_for PassesOwn.never rfl (pi_enT rfl T.n_enumerate (pa_cons (pv 0) pa_nil)) (pg_two (i := 2) (j := 3) K rfl rfl sc_tree_of.nd rfl (Or.inl rfl) rfl (Or.inl rfl))
  (pss_one (ps_for PassesOwn.never rfl (pi_enT rfl T.n_enumerate (pa_cons (pv 3) pa_nil)) (pg_two (i := 4) (j := 5) K rfl rfl sc_tree_of.nd rfl (Or.inl rfl) rfl (Or.inl rfl))
  (pss_one (ps_if (pt_cmpR op_eq (pv 5) (pe_callB cq_len rfl T.n_len boot_len (pa_cons (pv 1) pa_nil)) (nomark _)) (pss_one (ps_expr (pe_bm PySem.F.plainAttrs_list PySem.F.slot_list_append PySem.F.type_list_append mt_append (pv 1) (pa_cons (pe_tup (pa_cons (pv 2) (pa_cons (pv 4) pa_nil))) pa_nil)))) pss_nil)))))
  (pss_one (ps_ret (pv 1))))), ?_⟩
  try dsimp only [cxOf, Cx.nox, Cx.wish]
  obtain ⟨p, T, m, N, rfl, ⟨as, hp, hl, hr⟩, G, k⟩ := h
  have hN : as.length = N := by rw [hl, G.len]
  walk_at "go"
  intro D nD
  walk_at "go"
  have hp0 : (L2.upd H D (.lst [V.non])) p = some (.tup (refs as)) := by rw [upd_ne (ne_of_none hp nD)]; exact hp
  refine rd_enT (SqT.of hp0) ?_
  refine forP (n := N) (by have := walk_enT (K := K) (a := p) (ys := refs as); rw [refs_len, hN] at this; exact this) (fun n σ' H' => ∃ v2 v3 v4 v5, σ' = [some (.ref p), some (.ref D), v2, v3, v4, v5] ∧ Same H H' ∧ Trl H' D (trT T m n)) ⟨_, _, _, _, rfl, Same.new nD, [], upd_same, rfl, fun i a q e => by simp at e⟩ (fun i σ' H' _ ⟨_, _, _, _, _, X1, _⟩ => Same.seqT X1 (SqT.of hp)) ?_ ?_
  · rintro n σ' H1 T1 x y hn ⟨v2, v3, v4, v5, rfl, X1, R1⟩ n1 hx hy
    obtain ⟨a, ha, rfl⟩ := refs_get hy
    cases hx
    have hrow := row_of hl hr ha
    walk_at "go"
    have X1' := X1.trans (Same.new n1 (o := .tup [.int (n : Nat), .ref a]))
    refine rd_enT (SqT.of (X1' _ _ hrow)) ?_
    refine forP (n := m) (by have := walk_enT (K := K) (a := a) (ys := rowV (T.getD n [])); rw [rowV_len, G.g.row n hn] at this; exact this) (fun j σ' H' => ∃ v4 v5, σ' = [some (.ref p), some (.ref D), some (.int (n : Nat)), some (.ref a), v4, v5] ∧ Same H H' ∧ Trl H' D (trR T n j (trT T m n))) ⟨_, _, rfl, X1', R1.kq (Kq.of (Same.new n1))⟩ (fun i σ' H' _ ⟨_, _, _, X2, _⟩ => Same.seqT X2 (SqT.of hrow)) ?_ ?_
    · rintro j σ' H2 T2 x y hj ⟨v4, v5, rfl, X2, R2⟩ n2 hx hy
      cases hx
      rw [row_at G hn hj] at hy
      cases hy
      have X3 := X2.trans (Same.new n2 (o := .tup [.int (j : Nat), vI (at2 T n j)]))
      have R3 : Trl (L2.upd H2 T2 (.tup [.int (j : Nat), vI (at2 T n j)])) D (trR T n j (trT T m n)) := R2.kq (Kq.of (Same.new n2))
      obtain ⟨bs, e1, e2, e3⟩ := id R3
      walk_at "go"
      have elen : ((.non :: refs bs : List V)).length = (trR T n j (trT T m n)).length := by rw [List.length_cons, refs_len]; exact e2
      have hlt : (trR T n j (trT T m n)).length ≤ 2000 := Nat.le_trans (trR_le (B := N) (trT_le G.g.pos n fun i l hi hl => G.g.lt i l (by omega) hl) j fun i hi => G.g.lt n i hn (by omega)) G.le
      rw [elen]
      refine rd_dec (fun hyes => ?_) (fun hno => ?_)
      · have hy2 : at2 T n j = (trR T n j (trT T m n)).length := by omega
        walk_at "go"
        refine ⟨tyL e1, ?_⟩
        walk_at "go"
        intro p1 np1
        obtain ⟨as2, f1, f2⟩ := trl_snoc (n := n) (j := j) R3 np1
        have e4 : (L2.upd (L2.upd H2 T2 (.tup [.int (j : Nat), vI (at2 T n j)])) p1 (.tup [vI n, vI j])) D = some (.lst (.non :: refs as2)) := by rw [upd_ne (ne_of_none f1 np1)]; exact f1
        walk_at "go"
        refine rd_app e4 (by have h9 := congrArg (fun o => match o with | some (HO.lst xs) => xs.length | _ => 0) (e1.symm.trans f1); dsimp only at h9; omega) ?_
        walk_at "go"
        refine ⟨_, _, rfl, ?_, ?_⟩
        · exact Same.mut (X3.trans (Same.new np1)) nD
        · have e5 : trR T n (j + 1) (trT T m n) = trR T n j (trT T m n) ++ [(n, j)] := if_pos hy2
          rw [e5]
          exact f2
      · have hy2 : ¬ at2 T n j = (trR T n j (trT T m n)).length := by omega
        walk_at "go"
        refine ⟨_, _, rfl, X3, ?_⟩
        have e5 : trR T n (j + 1) (trT T m n) = trR T n j (trT T m n) := if_neg hy2
        rw [e5]
        exact R3
    · rintro σ' H2 ⟨v4, v5, rfl, X2, R2⟩
      exact ⟨_, _, _, _, rfl, X2, R2⟩
  · rintro σ' H1 ⟨v2, v3, v4, v5, rfl, X1, R1⟩
    walk_at "go"
    exact k D _ nD X1 R1
theorem lefts_len {T : Tab} {m N : Nat} (G : GoodT T m N) : (lefts T (tree T m N)).length = N := G.g.llen
theorem ok_left_of {f : Addr} {fd : FuncData} (F : Fun K "left_of" "left_of" s_left_of f fd) (T : Txt K mg) : FnOk P w K mg base CX0 1 f fd ["right", "tree"] (sp_left_of K) := by
  refine F.ok sc_left_of (fun vs H Q E h => by repeat (first | (obtain ⟨rfl, _⟩ := h; rfl) | obtain ⟨_, h⟩ := h)) (fun cdv A outer s H vs Q E hr h => ?_)
  refine ⟨_, (pss_cons (ps_set (i := 2) sc_left_of.nd rfl (Or.inl rfl) (pe_lst (pa_cons (pe_tupleOf rfl T.n_tuple (pe_ix ix_tup (pv 0) pe_int (fun _ _ => rfl))) pa_nil)))
  (pss_cons (ps_for PassesOwn.never rfl (pi_list (pe_slice sl_list (pv 1) (po_some pe_int) po_none)) (pg_two (i := 3) (j := 4) K rfl rfl sc_left_of.nd rfl (Or.inl rfl) rfl (Or.inr rfl))
  (pss_one (ps_expr (pe_bm PySem.F.plainAttrs_list PySem.F.slot_list_append PySem.F.type_list_append mt_append (pv 2) (pa_cons (pe_tupleOf rfl T.n_tuple (pe_lc (own := [("number", 5)]) rfl sc_left_of.nd (pi_tup (pe_ix ix_list (pv 2) (pv 3) (fun _ _ => rfl))) (blkOk_by (N := N_left_of) (sc := defScope s_left_of) (by decide +kernel)) (fun _ _ _ _ _ => (pg_name (i := 5) sc_left_of.nd rfl (Or.inl rfl))) (fun _ _ _ _ _ => pts_nil) (fun _ _ _ _ _ => (pe_ix (ix_tupK K rfl) (pe_ix (ix_tupK K rfl) (pv 0) (pv 5) (fun _ _ => rfl)) (pv 4) (fun _ _ => rfl))))) pa_nil)))))
  (pss_one (ps_ret (pe_tupleOf rfl T.n_tuple (pv 2)))))), ?_⟩
  try dsimp only [cxOf, Cx.nox, Cx.wish]
  obtain ⟨p, t, T, m, N, rfl, ⟨as, hp, hl, hr⟩, ⟨ts, ht, htl, htr⟩, G, k⟩ := h
  have hN : as.length = N := by rw [hl, G.len]
  have hpos := G.g.pos
  have htl2 : (tree T m N).length = N := G.g.len
  obtain ⟨a0, ha0⟩ : ∃ a0, as[0]? = some a0 := ⟨as[0], List.getElem?_eq_getElem (by omega)⟩
  have hr0 := row_of hl hr ha0
  walk_at "go"
  refine rd_ixT (SqT.of hp) (atI_nat (j := 0) (getElem?_refs ha0)) ?_
  refine rd_kTupT (SqT.of hr0) ?_
  walk_at "go"
  intro D nD
  walk_at "go"
  refine rd_slL (SqL.of (by rw [upd_ne (ne_of_none ht nD)]; exact ht)) fun p2 np2 => ?_
  rw [cutV_from1]
  have S0 : Same H (L2.upd (L2.upd H D (.lst [V.ref a0])) p2 (.lst (refs ts))) := (Same.new nD).trans (Same.new np2)
  have hDp : D ≠ p2 := ne_of_none (o := .lst [V.ref a0]) upd_same np2
  have hLr : ∀ k, k < N → (Lf T m N k).length = m := G.g.Lf_len
  refine rd_qIl (SqL.of upd_same) ?_
  refine forLP (K := K) (ls := refs ts) (fun i σ' H' => ∃ fs v3 v4, σ' = [some (.ref p), some (.ref t), some (.ref D), v3, v4, none] ∧ ExB D (L2.upd (L2.upd H D (.lst [V.ref a0])) p2 (.lst (refs ts))) H' ∧ H' D = some (.lst (refs fs)) ∧ fs.length = ((lefts T (tree T m N)).take (i + 1)).length ∧ ∀ (j : Nat) (a : Addr) (r : List Nat), fs[j]? = some a → ((lefts T (tree T m N)).take (i + 1))[j]? = some r → H' a = some (Bx true (rowV r)))
    ⟨[a0], _, _, rfl, ExB.refl _ _, by rw [upd_ne hDp, upd_same]; rfl, by rw [List.length_take, lefts_len G]; simp; omega, fun j a r e1 e2 => ?_⟩ (fun i σ' H' _ ⟨_, _, _, _, X1, _⟩ => SqL.of (X1 _ _ hDp.symm upd_same)) ?_ ?_
  · have hj : j = 0 := by
      have := (List.getElem?_eq_some_iff.mp e1).1
      simp at this; omega
    subst hj
    cases e1
    have e3 : r = T.getD 0 [] := by
      rw [List.getElem?_take_of_lt (by omega)] at e2
      have := G.g.Lf0
      unfold Lf at this
      rw [List.getD_eq_getElem?_getD, e2] at this
      exact this
    rw [e3]
    exact S0 _ _ hr0
  · rintro i v σ' H1 hv ⟨fs, v3, v4, rfl, X1, hD, hfl, hfr⟩
    obtain ⟨ta, hta, rfl⟩ := refs_get hv
    have hi : i + 1 < N := by have := (List.getElem?_eq_some_iff.mp hta).1; omega
    have hq := htr i ta _ hta (get_getD (0, 0) (by rw [htl2]; exact hi))
    have X0 : Same H H1 := ExB.same S0 nD X1
    have hf := G.g.fst (k := i + 1) (by omega) hi
    refine ⟨ta, _, _, rfl, SqT.of (X0 _ _ hq), ?_⟩
    walk_at "go"
    refine ⟨tyL hD, ?_⟩
    have hfl2 : fs.length = i + 1 := by rw [hfl, List.length_take, lefts_len G]; omega
    obtain ⟨b, hb⟩ : ∃ b, fs[P1 T m N (i + 1)]? = some b := ⟨_, List.getElem?_eq_getElem (by omega)⟩
    have hrb : H1 b = some (.tup (rowV (Lf T m N (P1 T m N (i + 1))))) := hfr _ b _ hb (by
      rw [List.getElem?_take_of_lt hf.1]
      exact get_getD [] (by rw [lefts_len G]; exact hf.2.2.2))
    walk_at "go"
    refine rd_ixL (SqL.of hD) (at_vI (getElem?_refs hb)) ?_
    refine rd_qItu (SqT.of hrb) ?_
    refine lcT (K := K) (Lf T m N (P1 T m N (i + 1))) vI (SqT.of hrb) (fun _ => true) (fun y => vI (at2 T y (P2 T m N (i + 1)))) (by rw [hLr _ hf.2.2.2]; have := G.m6; omega) (fun _ => rfl) (fun y hy => pt_yes) ?_ ?_
    · intro y hy _ H2 s2 Q2 q2
      have hyN := G.g.Lf_lt hf.2.2.2 y hy
      obtain ⟨ay, hay⟩ : ∃ a, as[y]? = some a := ⟨_, List.getElem?_eq_getElem (by omega)⟩
      have hry := row_of hl hr hay
      have X2 : Same H H2 := X0.trans s2
      walk_at "go"
      refine rd_ixT (SqT.of (X2 _ _ hp)) (at_vI (getElem?_refs hay)) ?_
      walk_at "go"
      refine rd_ixT (SqT.of (X2 _ _ hry)) (at_vI (row_at G hyN hf.2.1)) ?_
      exact q2 _ (Same.refl _)
    · intro D2 H2 nD2 s2 hD2
      rw [filter_yes] at hD2
      walk_at "go"
      intro r nr
      have hd2 : H2 D = some (.lst (refs fs)) := s2 _ _ hD
      have hDr : r ≠ D := (ne_of_none hd2 nr).symm
      walk_at "go"
      refine rd_app (by rw [upd_ne hDr.symm]; exact hd2) (by rw [refs_len, hfl2]; have := G.le; omega) ?_
      walk_at "go"
      have hrow : (Lf T m N (P1 T m N (i + 1))).map (fun y => vI (at2 T y (P2 T m N (i + 1)))) = rowV (Lf T m N (i + 1)) := by
        rw [G.g.Lfk (by omega) hi]
        unfold rowV
        rw [List.map_map]
        rfl
      have hnew := tb_snoc (b2 := true) (H := H1) (H' := L2.upd (L2.upd H2 r (.tup (rowV (Lf T m N (i + 1))))) D (.lst (refs fs ++ [V.ref r]))) (D := D) (q := r) (r := Lf T m N (i + 1)) hfl hfr (fun a ha h0 => ?_) (by rw [upd_ne hDr, upd_same]; rfl)
      · have etk : (lefts T (tree T m N)).take (i + 1 + 1) = (lefts T (tree T m N)).take (i + 1) ++ [Lf T m N (i + 1)] := by
          rw [List.take_succ, get_getD [] (by rw [lefts_len G]; exact hi)]
          rfl
        rw [hrow]
        refine ⟨fs ++ [r], _, _, rfl, ?_, ?_, ?_, ?_⟩
        · exact fun b o nb e => by
            rw [upd_ne nb, upd_ne (ne_of_none (s2 _ _ (X1 b o nb e)) nr)]
            exact s2 _ _ (X1 b o nb e)
        · rw [upd_same]; unfold refs; rw [List.map_append]; rfl
        · rw [etk]; exact hnew.1
        · rw [etk]; exact hnew.2
      · cases e : H1 a with
        | none => exact absurd e h0
        | some o =>
          obtain ⟨jj, hjj⟩ := List.mem_iff_getElem?.mp ha
          have h9 := hfr jj a _ hjj (get_getD [] (by rw [← hfl]; exact (List.getElem?_eq_some_iff.mp hjj).1))
          have hne : a ≠ D := ne_of h9 hD (fun z => nomatch z)
          have h10 := s2 _ _ e
          rw [upd_ne hne, upd_ne (ne_of_none h10 nr)]
          exact h10
  · rintro σ' H1 ⟨fs, v3, v4, rfl, X1, hD, hfl, hfr⟩
    have hts : (refs ts).length + 1 = N := by rw [refs_len]; omega
    have etk : (lefts T (tree T m N)).take ((refs ts).length + 1) = lefts T (tree T m N) := List.take_of_length_le (by rw [lefts_len G]; omega)
    rw [etk] at hfl hfr
    walk_at "go"
    intro r nr
    walk_at "go"
    refine k r _ ((ExB.same S0 nD X1).trans (Same.new nr)) ⟨fs, upd_same, hfl, fun j a s e1 e2 => ?_⟩
    have h9 := hfr j a s e1 e2
    rw [upd_ne (ne_of_none h9 nr)]
    exact h9
theorem ok_check_products {f : Addr} {fd : FuncData} (F : Fun K "check_products" "check_products" s_check_products f fd) (T : Txt K mg) : FnOk P w K mg base CX0 1 f fd ["right", "left"] (sp_check_products K) := by
  refine F.ok sc_check_products (fun vs H Q E h => by repeat (first | (obtain ⟨rfl, _⟩ := h; rfl) | obtain ⟨_, h⟩ := h)) (fun cdv A outer s H vs Q E hr h => ?_)
  refine ⟨_, (pss_one (ps_for PassesOwn.never rfl (pi_enT rfl T.n_enumerate (pa_cons (pv 0) pa_nil)) (pg_two (i := 2) (j := 3) K rfl rfl sc_check_products.nd rfl (Or.inl rfl) rfl (Or.inl rfl))
  (pss_one (ps_for PassesOwn.never rfl (pi_enT rfl T.n_enumerate (pa_cons (pv 3) pa_nil)) (pg_two (i := 4) (j := 5) K rfl rfl sc_check_products.nd rfl (Or.inr rfl) rfl (Or.inl rfl))
  (pss_one (ps_if (pt_cmpR (op_neD hr.units) (pe_ix ix_tup (pv 1) (pv 5) (fun _ _ => rfl)) (pe_tupleOf rfl T.n_tuple (pe_lc (own := [("one", 6)]) rfl sc_check_products.nd (pi_tup (pe_ix ix_tup (pv 1) (pv 2) (fun _ _ => rfl))) (blkOk_by (N := N_check_products) (sc := defScope s_check_products) (by decide +kernel)) (fun _ _ _ _ _ => (pg_name (i := 6) sc_check_products.nd rfl (Or.inl rfl))) (fun _ _ _ _ _ => pts_nil) (fun _ _ _ _ _ => (pe_ix (ix_tupK K rfl) (pe_ix (ix_tupK K rfl) (pv 0) (pv 6) (fun _ _ => rfl)) (pv 4) (fun _ _ => rfl))))) (nomark _)) (pss_one ps_never) pss_nil)))))), ?_⟩
  try dsimp only [cxOf, Cx.nox, Cx.wish]
  obtain ⟨p, l, T, m, N, rfl, ⟨as, hp, hl, hr⟩, ⟨ls, hL, hll, hlr⟩, G, k⟩ := h
  have hN : as.length = N := by rw [hl, G.len]
  have hlN : ls.length = N := by rw [hll, lefts_len G]
  walk_at "go"
  refine forP (n := N) (by have := walk_enT (K := K) (a := p) (ys := refs as); rw [refs_len, hN] at this; exact this) (fun n σ' H' => ∃ v2 v3 v4 v5, σ' = [some (.ref p), some (.ref l), v2, v3, v4, v5, none] ∧ Same H H') ⟨_, _, _, _, rfl, Same.refl _⟩ (fun i σ' H' _ ⟨_, _, _, _, _, X1⟩ => Same.seqT X1 (SqT.of hp)) ?_ ?_
  · rintro n σ' H1 T1 x y hn ⟨v2, v3, v4, v5, rfl, X1⟩ n1 hx hy
    obtain ⟨a, ha, rfl⟩ := refs_get hy
    cases hx
    have hrow := row_of hl hr ha
    have X1' := X1.trans (Same.new n1 (o := .tup [.int (n : Nat), .ref a]))
    walk_at "go"
    refine rd_enT (SqT.of (X1' _ _ hrow)) ?_
    refine forP (n := m) (by have := walk_enT (K := K) (a := a) (ys := rowV (T.getD n [])); rw [rowV_len, G.g.row n hn] at this; exact this) (fun j σ' H' => ∃ v4 v5, σ' = [some (.ref p), some (.ref l), some (.int (n : Nat)), some (.ref a), v4, v5, none] ∧ Same H H') ⟨_, _, rfl, X1'⟩ (fun i σ' H' _ ⟨_, _, _, X2⟩ => Same.seqT X2 (SqT.of hrow)) ?_ ?_
    · rintro j σ' H2 T2 x y hj ⟨v4, v5, rfl, X2⟩ n2 hx hy
      cases hx
      rw [row_at G hn hj] at hy
      cases hy
      have X3 := X2.trans (Same.new n2 (o := .tup [.int (j : Nat), vI (at2 T n j)]))
      have hv := G.g.lt n j hn hj
      obtain ⟨b, hb⟩ : ∃ b, ls[at2 T n j]? = some b := ⟨_, List.getElem?_eq_getElem (by omega)⟩
      have hrb : H b = some (.tup (rowV (Lf T m N (at2 T n j)))) := row_of hll hlr hb
      obtain ⟨c, hc⟩ : ∃ c, ls[n]? = some c := ⟨_, List.getElem?_eq_getElem (by omega)⟩
      have hrc : H c = some (.tup (rowV (Lf T m N n))) := row_of hll hlr hc
      walk_at "go"
      refine rd_ixT (SqT.of (X3 _ _ hL)) (at_vI (getElem?_refs hb)) ?_
      walk_at "go"
      refine rd_ixT (SqT.of (X3 _ _ hL)) (at_vI (getElem?_refs hc)) ?_
      refine rd_qItu (SqT.of (X3 _ _ hrc)) ?_
      refine lcT (K := K) (Lf T m N n) vI (SqT.of (X3 _ _ hrc)) (fun _ => true) (fun y => vI (at2 T y j)) (by rw [G.g.Lf_len n hn]; have := G.m6; omega) (fun _ => rfl) (fun y hy => pt_yes) ?_ ?_
      · intro y hy _ H4 s4 Q4 q4
        have hyN := G.g.Lf_lt hn y hy
        obtain ⟨ay, hay⟩ : ∃ a, as[y]? = some a := ⟨_, List.getElem?_eq_getElem (by omega)⟩
        have hry := row_of hl hr hay
        have X4 : Same H H4 := X3.trans s4
        walk_at "go"
        refine rd_ixT (SqT.of (X4 _ _ hp)) (at_vI (getElem?_refs hay)) ?_
        walk_at "go"
        refine rd_ixT (SqT.of (X4 _ _ hry)) (at_vI (row_at G hyN hj)) ?_
        exact q4 _ (Same.refl _)
      · intro D2 H4 nD2 s4 hD2
        rw [filter_yes] at hD2
        walk_at "go"
        intro r nr
        have hrow2 : (Lf T m N n).map (fun y => vI (at2 T y j)) = rowV (Lf T m N (at2 T n j)) := by
          rw [G.p n j hn hj]
          unfold rowV
          rw [List.map_map]
          rfl
        rw [hrow2, rowV_int]
        have X5 := (X3.trans s4).trans (Same.new nr (o := .tup (rowV (Lf T m N (at2 T n j)))))
        rw [rowV_int] at X5
        have h11 : _ = some (HO.tup (rowV (Lf T m N (at2 T n j)))) := X5 _ _ hrb
        rw [rowV_int] at h11
        walk_at "go"
        refine rd_neTI (SqT.of h11) (SqT.of upd_same) ?_
        walk_at "go"
        exact ⟨_, _, rfl, X5⟩
    · rintro σ' H2 ⟨v4, v5, rfl, X2⟩
      exact ⟨_, _, _, _, rfl, X2⟩
  · rintro σ' H1 ⟨v2, v3, v4, v5, rfl, X1⟩
    exact k _ X1
theorem ok_check_form {f : Addr} {fd : FuncData} (F : Fun K "check_form" "check_form" s_check_form f fd) (T : Txt K mg) (C_is_sequence : Cal P w K mg base 1 "is_sequence" (sp_is_sequence K)) (C_is_number : Cal P w K mg base 1 "is_number" (sp_is_number K)) : FnOk P w K mg base CX0 2 f fd ["right"] (sp_check_form K) := by
  refine F.ok sc_check_form (fun vs H Q E h => by repeat (first | (obtain ⟨rfl, _⟩ := h; rfl) | obtain ⟨_, h⟩ := h)) (fun cdv A outer s H vs Q E hr h => ?_)
  refine ⟨_, (pss_cons (ps_if (PW.pt (pw_or (pt_not (pt_val (pe_c C_is_sequence hr (by decide) rfl (pa_cons (pv 0) pa_nil)))) (pw_or1 (pt_not (pt_chain op_le op_le pe_int (pe_callB cq_len rfl T.n_len boot_len (pa_cons (pv 0) pa_nil)) (C8.pe_gc rfl T.c_MOST_ELEMENTS)))))) (pss_one ps_never) pss_nil)
  (pss_one (ps_for PassesOwn.never rfl (pi_enum rfl T.n_enumerate (pa_cons (pv 0) pa_nil)) (pg_two (i := 1) (j := 2) K rfl rfl sc_check_form.nd rfl (Or.inl rfl) rfl (Or.inl rfl))
  (pss_cons (ps_if (PW.pt (pw_or (pt_not (pt_val (pe_c C_is_sequence hr (by decide) rfl (pa_cons (pv 2) pa_nil)))) (pw_or (pt_not (pt_chain op_le op_le pe_int (pe_callB cq_len rfl T.n_len boot_len (pa_cons (pv 2) pa_nil)) (C8.pe_gc rfl T.c_MOST_LETTERS))) (pw_or1 (pt_cmpR op_ne (pe_callB cq_len rfl T.n_len boot_len (pa_cons (pv 2) pa_nil)) (pe_callB cq_len rfl T.n_len boot_len (pa_cons (pe_ix ix_list (pv 0) pe_int (fun _ _ => rfl)) pa_nil)) (nomark _)))))) (pss_one ps_never) pss_nil)
  (pss_one (ps_if (pt_not (pt_val (pe_callB (cr_all rfl) rfl T.n_all boot_all (pa_cons (pe_lc (own := [("number", 3)]) rfl sc_check_form.nd (pi_list (pv 2)) (blkOk_by (N := N_check_form) (sc := defScope s_check_form) (by decide +kernel)) (fun _ _ _ _ _ => (pg_name (i := 3) sc_check_form.nd rfl (Or.inl rfl))) (fun _ _ _ _ _ => pts_nil) (fun _ _ _ _ _ => (pe_and (pe_c C_is_number hr (by decide) rfl (pa_cons (pv 3) pa_nil)) (pe_one (pe_chain op_le op_lt pe_int (pv 3) (pe_callB (cq_lenK K rfl) rfl T.n_len boot_len (pa_cons (pv 0) pa_nil))))))) pa_nil)))) (pss_one ps_never) pss_nil)))))), ?_⟩
  try dsimp only [cxOf, Cx.nox, Cx.wish]
  obtain ⟨p, T, m, N, rfl, ⟨as, hp, hl, hr⟩, G, k⟩ := h
  have hN : as.length = N := by rw [hl, G.len]
  have hpos := G.g.pos
  have hle := G.le
  have m1 := G.m1
  have m6 := G.m6
  obtain ⟨a0, ha0⟩ : ∃ a0, as[0]? = some a0 := ⟨as[0], List.getElem?_eq_getElem (by omega)⟩
  have hr0 := row_of hl hr ha0
  have e0 : (rowV (T.getD 0 [])).length = m := by rw [rowV_len, G.g.row 0 hpos]
  walk_at "go"
  refine ⟨p, false, _, rfl, hp, fun H0 X0 => ?_⟩
  have hp0 := X0 _ _ hp
  walk_at "go"
  have hal : (refs as).length = N := by rw [refs_len, hN]
  rw [hal]
  walk_at "go"
  try refine rd_enL (SqL.of hp0) ?_
  refine forP (n := N) (by have := walk_enum (K := K) (a := p) (xs := refs as); rw [hal] at this; exact this) (fun n σ' H' => ∃ v1 v2, σ' = [some (.ref p), v1, v2, none] ∧ Same H H') ⟨_, _, rfl, X0⟩ (fun i σ' H' _ ⟨_, _, _, X1⟩ => Same.seq X1 (SqL.of hp)) ?_ ?_
  · rintro n σ' H1 T1 x y hn ⟨v1, v2, rfl, X1⟩ n1 hx hy
    obtain ⟨a, ha, rfl⟩ := refs_get hy
    cases hx
    have hrow := row_of hl hr ha
    have X1' := X1.trans (Same.new n1 (o := .tup [.int (n : Nat), .ref a]))
    have en : (rowV (T.getD n [])).length = m := by rw [rowV_len, G.g.row n hn]
    walk_at "go"
    refine ⟨a, false, _, rfl, X1' _ _ hrow, fun H2 X2 => ?_⟩
    have X3 := X1'.trans X2
    walk_at "go"
    try refine rd_lenL (SqL.of (X3 _ _ hrow)) ?_
    walk_at "go"
    try refine rd_lenL (SqL.of (X3 _ _ hrow)) ?_
    walk_at "go"
    try refine rd_ixL (SqL.of (X3 _ _ hp)) (atI_nat (j := 0) (getElem?_refs ha0)) ?_
    walk_at "go"
    try refine rd_lenL (SqL.of (X3 _ _ hr0)) ?_
    rw [en, e0]
    walk_at "go"
    try refine rd_qIl (SqL.of (X3 _ _ hrow)) ?_
    refine lcL (K := K) (T.getD n []) vI (SqL.of (X3 _ _ hrow)) (fun _ => true) (fun _ => .bl true) (by rw [G.g.row n hn]; omega) (fun _ => rfl) (fun y hy => pt_yes) ?_ ?_
    · intro y hy _ H4 s4 Q4 q4
      have hyN : y < N := by
        obtain ⟨j, hj⟩ := List.mem_iff_getElem?.mp hy
        have hjm : j < m := by have := (List.getElem?_eq_some_iff.mp hj).1; rw [G.g.row n hn] at this; exact this
        have e1 := G.g.lt n j hn hjm
        unfold at2 at e1
        rw [getD_some hj] at e1
        exact e1
      walk_at "go"
      refine ⟨(y : Nat), rfl, fun H5 s5 => ?_⟩
      walk_at "go"
      try refine rd_lenL (SqL.of (s5 _ _ (s4 _ _ (X3 _ _ hp)))) ?_
      rw [hal]
      walk_at "go"
      rw [decide_eq_true (show ((y : Nat) : Int) < ((N : Nat) : Int) by omega)]
      exact q4 _ s5
    · intro D2 H4 nD2 s4 hD2
      rw [filter_yes] at hD2
      have hD3 : H4 D2 = some (.lst (((T.getD n []).map fun _ => true).map V.bl)) := by rw [hD2, List.map_map]; rfl
      walk_at "go"
      refine rd_all (SqL.of hD3) ?_
      have e9 : ((T.getD n []).map fun _ => true).all id = true := by simp
      rw [e9]
      walk_at "go"
      exact ⟨_, _, rfl, X3.trans s4⟩
  · rintro σ' H1 ⟨v1, v2, rfl, X1⟩
    exact k _ X1
theorem kq_ins {H : Hp} {x C dx : Addr} {fs : List (Str × V)} {o : HO} (h : H x = some (.ins C dx fs)) : Kq H (L2.upd H x o) := ⟨fun a xs q => by rw [upd_ne (ne_of q h (fun z => nomatch z))]; exact q, fun a xs q => by rw [upd_ne (ne_of q h (fun z => nomatch z))]; exact q⟩
theorem ok_Monoid_init {f : Addr} {fd : FuncData} {z : Zed} (Z : Zok K mg z) (F : Fun K "__init__" "Monoid.__init__" s_Monoid_init f fd) (T : Txt K mg) (C_check_form : Cal P w K mg base 2 "check_form" (sp_check_form K)) (C_check_order : Cal P w K mg base 1 "check_order" (sp_check_order K)) (C_tree_of : Cal P w K mg base 1 "tree_of" (sp_tree_of K)) (C_left_of : Cal P w K mg base 1 "left_of" (sp_left_of K)) (C_check_products : Cal P w K mg base 1 "check_products" (sp_check_products K)) : FnOk P w K mg base CX0 3 f fd ["self", "right"] (sp_Monoid_init z K) := by
  refine F.ok sc_Monoid_init (fun vs H Q E h => by repeat (first | (obtain ⟨rfl, _⟩ := h; rfl) | obtain ⟨_, h⟩ := h)) (fun cdv A outer s H vs Q E hr h => ?_)
  refine ⟨_, (pss_cons (ps_expr (pe_c C_check_form hr (by decide) rfl (pa_cons (pv 1) pa_nil)))
  (pss_cons (ps_set (i := 2) sc_Monoid_init.nd rfl (Or.inl rfl) (pe_tupleOf rfl T.n_tuple (pe_lc (own := [("row", 3)]) rfl sc_Monoid_init.nd (pi_list (pv 1)) (blkOk_by (N := N_Monoid_init) (sc := defScope s_Monoid_init) (by decide +kernel)) (fun _ _ _ _ _ => (pg_name (i := 3) sc_Monoid_init.nd rfl (Or.inl rfl))) (fun _ _ _ _ _ => pts_nil) (fun _ _ _ _ _ => (pe_tupleOfK K rfl rfl T.n_tuple (pv 3))))))
  (pss_cons (ps_expr (pe_c C_check_order hr (by decide) rfl (pa_cons (pv 2) pa_nil)))
  (pss_cons (ps_fld (pv 0) (pv 2) rfl)
  (pss_cons (ps_fld (pv 0) (pe_c C_tree_of hr (by decide) rfl (pa_cons (pv 2) pa_nil)) rfl)
  (pss_cons (ps_fld (pv 0) (pe_c C_left_of hr (by decide) rfl (pa_cons (pv 2) (pa_cons (pe_fld (pv 0) rfl) pa_nil))) rfl)
  (pss_cons (ps_expr (pe_c C_check_products hr (by decide) rfl (pa_cons (pv 2) (pa_cons (pe_fld (pv 0) rfl) pa_nil))))
  (pss_one (ps_fld (pv 0) pe_dnewK rfl))))))))), ?_⟩
  try dsimp only [cxOf, Cx.nox, Cx.wish]
  obtain ⟨x, dx, p, T, m, N, rfl, hx, hT, G, k⟩ := h
  have hN := G.len
  have hpos := G.g.pos
  have hle := G.le
  walk_at "go"
  refine ⟨p, T, m, N, rfl, hT, G, fun H0 X0 => ?_⟩
  obtain ⟨as, hp, hl, hr⟩ := hT.kq (Kq.of X0)
  have hasN : as.length = N := by omega
  walk_at "go"
  have w1 := walk_list (K := K) (a := p) (xs := refs as)
  refine lc_inv (ls := refs as) w1 (fun D i acc H' => Same H0 H' ∧ ∃ bs : List Addr, acc = refs bs ∧ bs.length = (T.take i).length ∧ ∀ (j : Nat) (a : Addr) (r : List Nat), bs[j]? = some a → (T.take i)[j]? = some r → H' a = some (Bx true (rowV r))) (by rw [refs_len]; omega) (fun _ => rfl) (fun D i acc H' h => Same.seq h.1 (SqL.of hp)) (fun D nD => ⟨Same.new nD, [], rfl, rfl, fun j a r e => by simp at e⟩) ?_ ?_
  · rintro D i v acc H' Q' hv nD hacc ⟨X1, bs, rfl, hb1, hb2⟩ hD kk
    obtain ⟨a, ha, rfl⟩ := refs_get hv
    have hrow := row_of hl hr ha
    have hi : i < N := by have := (List.getElem?_eq_some_iff.mp ha).1; omega
    walk_at "go"
    refine rd_kTupL (SqL.of (X1 _ _ hrow)) fun r nr => ?_
    have hDr : r ≠ D := (ne_of_none hD nr).symm
    refine kk _ _ (by rw [upd_ne hDr.symm]; exact hD) ⟨Same.mut (X1.trans (Same.new nr)) nD, bs ++ [r], by unfold refs; rw [List.map_append]; rfl, ?_⟩
    have etk : T.take (i + 1) = T.take i ++ [T.getD i []] := by
      rw [List.take_succ, get_getD [] (by rw [hN]; exact hi)]
      rfl
    rw [etk]
    refine tb_snoc (b2 := true) (H := H') (D := D) hb1 hb2 (fun b hb h0 => ?_) (by rw [upd_ne hDr, upd_same]; rfl)
    obtain ⟨jj, hjj⟩ := List.mem_iff_getElem?.mp hb
    have h9 := hb2 jj b _ hjj (get_getD [] (by rw [← hb1]; exact (List.getElem?_eq_some_iff.mp hjj).1))
    rw [upd_ne (ne_of h9 hD (fun z => nomatch z)), upd_ne (ne_of_none h9 nr)]
  · rintro D acc H1 nD hacc ⟨X1, bs, rfl, hb1, hb2⟩ hD
    rw [refs_len, hasN, ← hN, List.take_length] at hb1 hb2
    walk_at "go"
    intro r nr
    have hTr : Tb true true (L2.upd H1 r (.tup (refs bs))) r T := ⟨bs, upd_same, hb1, fun j a s e1 e2 => by
      have h9 := hb2 j a s e1 e2
      rw [upd_ne (ne_of_none h9 nr)]
      exact h9⟩
    have Y1 : Same H (L2.upd H1 r (.tup (refs bs))) := (X0.trans X1).trans (Same.new nr)
    walk_at "go"
    refine ⟨r, T, m, N, rfl, hTr, G, fun H2 X2 => ?_⟩
    have hx2 := X2 _ _ (Y1 _ _ hx)
    have hT2 := hTr.kq (Kq.of X2)
    walk_at "go"
    refine rd_qSFld Z.cl hx2 Z.n_right (by simp) ?_
    have K3 := kq_ins (o := .ins z.C dx (putF "right" (.ref r) [])) hx2
    have hx3 : (L2.upd H2 x (.ins z.C dx (putF "right" (.ref r) []))) x = some (.ins z.C dx [("right", .ref r)]) := upd_same
    have hT3 := hT2.kq K3
    have E3 : ExB x H (L2.upd H2 x (.ins z.C dx (putF "right" (.ref r) []))) := (ExB.of (Y1.trans X2)).trans ExB.upd
    generalize hH3 : L2.upd H2 x (.ins z.C dx (putF "right" (.ref r) [])) = H3 at *
    walk_at "go"
    refine ⟨r, T, m, N, rfl, hT3, G, fun t H4 nt X4 hTr4 => ?_⟩
    have hx4 := X4 _ _ hx3
    have hT4 := hT3.kq (Kq.of X4)
    walk_at "go"
    refine rd_qSFld Z.cl hx4 Z.n_tree (by simp) ?_
    have K5 := kq_ins (o := .ins z.C dx (putF "tree" (.ref t) [("right", .ref r)])) hx4
    have hx5 : (L2.upd H4 x (.ins z.C dx (putF "tree" (.ref t) [("right", .ref r)]))) x = some (.ins z.C dx [("right", .ref r), ("tree", .ref t)]) := upd_same
    have hT5 := hT4.kq K5
    have hR5 := hTr4.kq K5
    have E5 : ExB x H (L2.upd H4 x (.ins z.C dx (putF "tree" (.ref t) [("right", .ref r)]))) := (E3.trans (ExB.of X4)).trans ExB.upd
    generalize hH5 : L2.upd H4 x (.ins z.C dx (putF "tree" (.ref t) [("right", .ref r)])) = H5 at *
    walk_at "go"
    refine rd_qFld Z.cl hx5 Z.n_tree rfl ?_
    walk_at "go"
    refine ⟨r, t, T, m, N, rfl, hT5, hR5, G, fun l H6 X6 hL6 => ?_⟩
    have hx6 := X6 _ _ hx5
    have hT6 := hT5.kq (Kq.of X6)
    have hR6 := hR5.kq (Kq.of X6)
    walk_at "go"
    refine rd_qSFld Z.cl hx6 Z.n_lefts (by simp) ?_
    have K7 := kq_ins (o := .ins z.C dx (putF "lefts" (.ref l) [("right", .ref r), ("tree", .ref t)])) hx6
    have hx7 : (L2.upd H6 x (.ins z.C dx (putF "lefts" (.ref l) [("right", .ref r), ("tree", .ref t)]))) x = some (.ins z.C dx [("right", .ref r), ("tree", .ref t), ("lefts", .ref l)]) := upd_same
    have hT7 := hT6.kq K7
    have hR7 := hR6.kq K7
    have hL7 := hL6.kq K7
    have E7 : ExB x H (L2.upd H6 x (.ins z.C dx (putF "lefts" (.ref l) [("right", .ref r), ("tree", .ref t)]))) := (E5.trans (ExB.of X6)).trans ExB.upd
    generalize hH7 : L2.upd H6 x (.ins z.C dx (putF "lefts" (.ref l) [("right", .ref r), ("tree", .ref t)])) = H7 at *
    walk_at "go"
    refine rd_qFld Z.cl hx7 Z.n_lefts rfl ?_
    walk_at "go"
    refine ⟨r, l, T, m, N, rfl, hT7, hL7, G, fun H8 X8 => ?_⟩
    have hx8 := X8 _ _ hx7
    walk_at "go"
    intro me nme
    walk_at "go"
    have hx9 : (L2.upd H8 me (.dK [])) x = some (.ins z.C dx [("right", .ref r), ("tree", .ref t), ("lefts", .ref l)]) := by rw [upd_ne (ne_of_none hx8 nme)]; exact hx8
    refine rd_qSFld Z.cl hx9 Z.n_memory (by simp) ?_
    have hmx : me ≠ x := (ne_of_none hx8 nme).symm
    have Kf : Kq H8 (L2.upd (L2.upd H8 me (.dK [])) x (.ins z.C dx (putF "memory" (.ref me) [("right", .ref r), ("tree", .ref t), ("lefts", .ref l)]))) := (Kq.of (Same.new nme)).trans (kq_ins hx9)
    have Ef := ((E7.trans (ExB.of X8)).trans (ExB.new (h := x) (o := .dK []) nme)).trans (ExB.upd (h := x) (o := .ins z.C dx (putF "memory" (.ref me) [("right", .ref r), ("tree", .ref t), ("lefts", .ref l)])))
    have hmeH : H me = none := by
      cases e : H me with
      | none => rfl
      | some o =>
        have := (E7.trans (ExB.of X8)) _ _ hmx e
        rw [nme] at this
        cases this
    walk_at "go"
    refine k _ me hmeH Ef ⟨⟨dx, r, t, l, upd_same, (hT7.kq (Kq.of X8)).kq Kf, (hR7.kq (Kq.of X8)).kq Kf, (hL7.kq (Kq.of X8)).kq Kf⟩, [], ?_, rfl, fun v hv => by simp [valV] at hv, fun v hv => by simp [valV] at hv⟩
    rw [upd_ne hmx, upd_same]
end
end My
namespace My
open PySem PySem.Spec L2 SX LamX Mon
open PyProof.Rows hiding St
local macro_rules | `(tactic| walk_at "kb") => `(tactic| first | exact kb_str_str | exact kb_str_int | exact kb_str_bool | exact kb_str_list | exact kb_str_tuple | exact kb_int_str | exact kb_int_int | exact kb_int_bool | exact kb_int_list | exact kb_int_tuple | exact kb_bool_str | exact kb_bool_int | exact kb_bool_bool | exact kb_bool_list | exact kb_bool_tuple | exact kb_list_str | exact kb_list_int | exact kb_list_bool | exact kb_list_list | exact kb_list_tuple | exact kb_tuple_str | exact kb_tuple_int | exact kb_tuple_bool | exact kb_tuple_list | exact kb_tuple_tuple | exact kb_NoneType_str | exact kb_NoneType_int | exact kb_NoneType_bool | exact kb_NoneType_list | exact kb_NoneType_tuple)
local macro_rules | `(tactic| walk_at "hp") => `(tactic| first | assumption | exact upd_same | (refine (upd_ne (by first | assumption | (apply Ne.symm; assumption))).trans ?_; walk_at "hp"))
local macro_rules | `(tactic| walk_at "sq") => `(tactic| first | assumption | exact SqL.of (by walk_at "hp"))
local macro_rules | `(tactic| walk_at "sqt") => `(tactic| first | assumption | exact SqT.of (by walk_at "hp"))
local macro_rules | `(tactic| walk_at "ar") => `(tactic| first | omega | (dsimp only; omega) | (unfold CMul; omega) | (unfold CDiv; omega) | (unfold CPow; refine ⟨?_, ?_, ?_⟩ <;> decide) | (simp only [List.length_cons, List.length_nil]; decide))
local macro_rules | `(tactic| walk_at "rd") => `(tactic| first
  | with_reducible refine rd_seq ?_
  | with_reducible refine rd_asg ?_
  | with_reducible refine rd_if ?_
  | with_reducible refine rd_ret ?_
  | with_reducible refine rd_drop ?_
  | with_reducible refine rd_name ?_
  | with_reducible refine rd_sub ?_
  | ((with_reducible refine' rd_var ?e ?_); (case e => exact rfl))
  | with_reducible refine rd_c ?_
  | with_reducible refine rd_op ?_
  | with_reducible refine rd_un ?_
  | with_reducible refine rd_I0 ?_
  | ((with_reducible refine' rd_I ?c ?_); (case c => walk_at "ar"))
  | with_reducible refine rd_U ?_
  | with_reducible refine rd_eqI ?_
  | with_reducible refine rd_neI ?_
  | with_reducible refine rd_eqS ?_
  | with_reducible refine rd_neS ?_
  | with_reducible refine rd_eqB ?_
  | with_reducible refine rd_neB ?_
  | with_reducible refine rd_test ?_
  | with_reducible refine rd_B ?_
  | with_reducible refine rd_and ?_
  | with_reducible refine rd_or ?_
  | with_reducible refine rd_not ?_
  | with_reducible refine rd_andV ?_
  | with_reducible refine rd_orV ?_
  | with_reducible refine rd_notV ?_
  | with_reducible refine rd_ifE ?_
  | with_reducible refine rd_isN ?_
  | with_reducible refine rd_notN ?_
  | with_reducible refine rd_cons ?_
  | with_reducible refine rd_nil ?_
  | with_reducible refine rd_lst ?_
  | with_reducible refine rd_tup ?_
  | with_reducible refine rd_CB ?_
  | with_reducible refine rd_call ?_
  | with_reducible refine rd_sl ?_
  | with_reducible refine rd_part ?_
  | with_reducible refine rd_nopart ?_
  | with_reducible refine rd_par ?_
  | with_reducible refine rd_two ?_
  | with_reducible refine rd_next ?_
  | with_reducible refine rd_retN ?_
  | with_reducible refine rd_bool ?_
  | with_reducible refine rd_int ?_
  | with_reducible refine rd_intI ?_
  | with_reducible refine rd_intB ?_
  | with_reducible refine rd_ltS ?_
  | with_reducible refine rd_leS ?_
  | with_reducible refine rd_gtS ?_
  | with_reducible refine rd_geS ?_
  | with_reducible refine rd_inC ?_
  | with_reducible refine rd_notInC ?_
  | with_reducible refine rd_abs ?_
  | with_reducible refine rd_max2 ?_
  | with_reducible refine rd_min2 ?_
  | with_reducible refine rd_M1 ?_
  | with_reducible refine rd_isStr ?_
  | ((with_reducible refine' rd_len ?b ?_); (case b => (simp only [List.length_cons, List.length_nil]; decide)))
  | ((with_reducible refine' rd_listS ?b ?_); (case b => first | (simp only [List.length_take, List.length_cons, List.length_nil]; omega) | omega))
  | ((with_reducible refine' rd_isi ?ty ?h ?_); (case ty => first | exact ty_str | exact ty_int | exact ty_bl | exact ty_non | exact ty_lst (by walk_at "hp") | exact ty_tup (by walk_at "hp")); (case h => walk_at "kb"))
  | with_reducible refine rd_lc ?_
  | with_reducible refine rd_for ?_
  | with_reducible refine rd_iList ?_
  | with_reducible refine rd_iTup ?_
  | with_reducible refine rd_iRng1 ?_
  | with_reducible refine rd_iRng2 ?_
  | with_reducible refine rd_iRng3 ?_
  | with_reducible refine rd_iStr ?_
  | with_reducible refine rd_qIs ?_
  | with_reducible refine rd_whb ?_
  | ((with_reducible refine' rd_qIl ?sq ?_); (case sq => walk_at "sq"))
  | ((with_reducible refine' rd_qItu ?sq ?_); (case sq => walk_at "sqt"))
  | ((with_reducible refine' rd_qIr1 ?b1 ?b2 ?_); (case b1 => walk_at "ar"); (case b2 => walk_at "ar"))
  | ((with_reducible refine' rd_qIr2 ?b1 ?b2 ?b3 ?b4 ?_); (case b1 => walk_at "ar"); (case b2 => walk_at "ar"); (case b3 => walk_at "ar"); (case b4 => walk_at "ar"))
  | ((with_reducible refine' rd_qIr3 ?b1 ?b2 ?b3 ?b4 ?_); (case b1 => walk_at "ar"); (case b2 => walk_at "ar"); (case b3 => walk_at "ar"); (case b4 => walk_at "ar"))
  | ((with_reducible refine' rd_mulS ?b1 ?b2 ?b3 ?_); (case b1 => walk_at "ar"); (case b2 => walk_at "ar"); (case b3 => walk_at "ar"))
  | ((with_reducible refine' rd_slS_to ?b1 ?b2 ?_); (case b1 => walk_at "ar"); (case b2 => walk_at "ar"))
  | ((with_reducible refine' rd_slS_from ?b1 ?b2 ?_); (case b1 => walk_at "ar"); (case b2 => walk_at "ar"))
  | ((with_reducible refine' rd_slS_mid ?b1 ?b2 ?b3 ?b4 ?_); (case b1 => walk_at "ar"); (case b2 => walk_at "ar"); (case b3 => walk_at "ar"); (case b4 => walk_at "ar"))
  | ((with_reducible refine' rd_slL ?sq ?_); (case sq => walk_at "sq"))
  | with_reducible refine rd_true ?_
  | with_reducible refine rd_false ?_
  | with_reducible refine rd_nt ?_
  | with_reducible refine rd_nf ?_
  | ((with_reducible refine' rd_decT ?h ?_); (case h => omega))
  | ((with_reducible refine' rd_decF ?h ?_); (case h => omega))
  | ((with_reducible refine' rd_ndecT ?h ?_); (case h => omega))
  | ((with_reducible refine' rd_ndecF ?h ?_); (case h => omega))
  | ((with_reducible refine' rd_evT ?h ?_); (case h => first | exact rfl | (simp; done)))
  | ((with_reducible refine' rd_evF ?h ?_); (case h => first | exact rfl | (simp; done)))
  | ((with_reducible refine' rd_ixL ?sq ?a1 ?_); (case sq => walk_at "sq"); (case a1 => first | exact rfl | exact at_of (by omega) (by assumption)))
  | ((with_reducible refine' rd_ixT ?sq ?a1 ?_); (case sq => walk_at "sqt"); (case a1 => first | exact rfl | exact at_of (by omega) (by assumption)))
  | ((with_reducible refine' rd_lenL ?sq ?_); (case sq => walk_at "sq"))
  | ((with_reducible refine' rd_lenT ?sq ?_); (case sq => walk_at "sqt"))
  | ((with_reducible refine' rd_setL ?h ?j ?_); (case h => walk_at "hp"); (case j => exact rfl); (with_reducible refine id ?_))
  | ((with_reducible refine' rd_strlen ?l ?_); (case l => walk_at "ar"))
  | ((with_reducible refine' rd_cat ?l ?_); (case l => walk_at "ar")))
local macro_rules | `(tactic| walk_at "go") => `(tactic| ((try dsimp only); (repeat (walk_at "rd"))))
local macro_rules | `(tactic| walk_at "rd") => `(tactic| first
  | with_reducible refine rd_lstRg ?_
  | with_reducible refine rd_tRg1 ?_
  | with_reducible refine rd_tRg2 ?_
  | with_reducible refine rd_rg1 ?_
  | with_reducible refine rd_rg2 ?_
  | ((with_reducible refine' rd_qRg ?b ?_); (case b => refine ⟨?_, ?_, ?_, ?_⟩ <;> omega))
  | with_reducible refine rd_sortSet ?_
  | with_reducible refine rd_tDGet ?_
  | with_reducible refine rd_sDPut ?_
  | with_reducible refine rd_dnew ?_
  | with_reducible refine rd_iZipS ?_
  | with_reducible refine rd_zipS ?_
  | ((with_reducible refine' rd_inI ?sq ?_); (case sq => walk_at "sq"))
  | ((with_reducible refine' rd_notInI ?sq ?_); (case sq => walk_at "sq"))
  | with_reducible refine rd_chain ?_)

local macro_rules | `(tactic| walk_at "rd") => `(tactic| first
  | with_reducible refine rd_fld ?_
  | with_reducible refine rd_par3 ?_
  | with_reducible refine rd_sFld ?_
  | with_reducible refine rd_meth ?_
  | with_reducible refine rd_make ?_
  | with_reducible refine rd_iEnT ?_
  | with_reducible refine rd_iEnL ?_
  | with_reducible refine rd_iZipSL ?_
  | with_reducible refine rd_dIn ?_
  | with_reducible refine rd_dNotIn ?_
  | with_reducible refine rd_tDGet ?_
  | with_reducible refine rd_thenT ?_
  | with_reducible refine rd_sortLam ?_
  | with_reducible refine rd_tupRg ?_
  | with_reducible refine rd_bm ?_
  | ((with_reducible refine' rd_kTupT ?sq ?_); (case sq => walk_at "sqt"))
  | ((with_reducible refine' rd_kTupL ?sq ?_); (case sq => walk_at "sq"))
  | with_reducible refine rd_sDPut ?_
  | ((with_reducible refine' rd_enT ?sq ?_); (case sq => walk_at "sqt"))
  | ((with_reducible refine' rd_enL ?sq ?_); (case sq => walk_at "sq"))
  | ((with_reducible refine' rd_zipSL ?sq ?_); (case sq => walk_at "sq")))

section
variable {P : Program} {w : World} {K : PySem.W.Frag} {mg : Str → Option Value} {base : Heap}
theorem ok__law_source {f : Addr} {fd : FuncData} (F : Fun K "_law_source" "_law_source" s__law_source f fd) (T : Txt K mg) : FnOk P w K mg base CX0 1 f fd ["cell"] (sp__law_source K) := by
  refine F.ok sc__law_source (fun vs H Q E h => by repeat (first | (obtain ⟨rfl, _⟩ := h; rfl) | obtain ⟨_, h⟩ := h)) (fun cdv A outer s H vs Q E hr h => ?_)
  refine ⟨_, (pss_cons (ps_set (i := 0) sc__law_source.nd rfl (Or.inl rfl) (pe_callB cq_abs rfl T.n_abs boot_abs (pa_cons (pv 0) pa_nil)))
  (pss_one (ps_ret (pe_lst (pa_cons (pe_op op_mul (pv 0) (pe_callTy cq_int rfl T.n_int boot_int (pa_cons (pe_cmpR op_ge (pv 0) (pe_op op_pow pe_int pe_int) (nomark _)) pa_nil))) (pa_cons (pe_op op_mod (pe_callTy cq_int rfl T.n_int boot_int (pa_cons (pv 0) pa_nil)) pe_int) (pa_cons pe_int pa_nil))))))), ?_⟩
  try dsimp only [cxOf, Cx.nox, Cx.wish]
  obtain ⟨i, rfl, k⟩ := h
  walk_at "go"
  intro p np
  exact k p _ np (Same.new np) ⟨_, _, _, upd_same, Int.mul_nonneg (by split <;> omega) (by split <;> omega)⟩
theorem ok__law_draw {f : Addr} {fd : FuncData} (F : Fun K "_law_draw" "_law_draw" s__law_draw f fd) (T : Txt K mg) : FnOk P w K mg base CX0 1 f fd ["source", "many"] (sp__law_draw K) := by
  refine F.ok sc__law_draw (fun vs H Q E h => by repeat (first | (obtain ⟨rfl, _⟩ := h; rfl) | obtain ⟨_, h⟩ := h)) (fun cdv A outer s H vs Q E hr h => ?_)
  refine ⟨_, (pss_cons (ps_if (pt_cmpR op_gt (pe_ix ix_list (pv 0) pe_int (fun _ _ => rfl)) pe_int (nomark _)) (pss_cons (ps_set (i := 2) sc__law_draw.nd rfl (Or.inl rfl) (pe_op op_mod (pe_callTy cq_int rfl T.n_int boot_int (pa_cons (pe_ix ix_list (pv 0) pe_int (fun _ _ => rfl)) pa_nil)) (pv 1)))
  (pss_cons (ps_asg (pe_op op_fdiv (pe_ix ix_list (pv 0) pe_int (fun _ _ => rfl)) (pv 1)) (pg_sub (pv 0) pe_int set_list))
  (pss_one (ps_ret (pv 2))))) pss_nil)
  (pss_cons (ps_asg (pe_op op_add (pe_ix ix_list (pv 0) pe_int (fun _ _ => rfl)) pe_int) (pg_sub (pv 0) pe_int set_list))
  (pss_cons (ps_set (i := 3) sc__law_draw.nd rfl (Or.inl rfl) (pe_op op_mod (pe_callTy cq_int rfl T.n_int boot_int (pa_cons (pe_op op_mul (pe_op op_add (pe_op op_add (pe_ix ix_list (pv 0) pe_int (fun _ _ => rfl)) (pe_op op_mul pe_int (pe_ix ix_list (pv 0) pe_int (fun _ _ => rfl)))) pe_int) pe_int) pa_nil)) pe_int))
  (pss_cons (ps_set (i := 3) sc__law_draw.nd rfl (Or.inl rfl) (pe_op op_mod (pe_callTy cq_int rfl T.n_int boot_int (pa_cons (pe_op op_mul (pv 3) (pe_op op_add (pe_op op_fdiv (pv 3) pe_int) pe_int)) pa_nil)) pe_int))
  (pss_one (ps_ret (pe_op op_mod (pe_callTy cq_int rfl T.n_int boot_int (pa_cons (pe_op op_fdiv (pe_op op_mod (pe_callTy cq_int rfl T.n_int boot_int (pa_cons (pe_op op_mul (pv 3) (pe_op op_add (pe_op op_fdiv (pv 3) pe_int) pe_int)) pa_nil)) pe_int) pe_int) pa_nil)) (pv 1)))))))), ?_⟩
  try dsimp only [cxOf, Cx.nox, Cx.wish]
  obtain ⟨p, n, rfl, ⟨a, b, c, hp, ha⟩, hn, hn2, k⟩ := h
  walk_at "go"
  refine rd_dec (fun h1 => ?_) (fun h1 => ?_)
  · walk_at "go"
    refine k _ _ (Int.emod_nonneg _ (by omega)) (Int.emod_lt_of_pos _ hn) ⟨_, _, _, upd_same, Int.ediv_nonneg ha (by omega)⟩ ExB.upd
  · walk_at "go"
    exact k _ _ (Int.emod_nonneg _ (by omega)) (Int.emod_lt_of_pos _ hn) ⟨a, b, c + 1, upd_same, ha⟩ ExB.upd
theorem Src.ne {H : Hp} {p q : Addr} (s : Src H p) (n : H q = none) : q ≠ p := by
  obtain ⟨a, b, c, h, _⟩ := s
  exact (ne_of_none h n).symm
theorem Src.new {H : Hp} {p q : Addr} {o : HO} (s : Src H p) (n : H q = none) : Src (L2.upd H q o) p := by
  obtain ⟨a, b, c, h, h2⟩ := s
  exact ⟨a, b, c, by rw [upd_ne (ne_of_none h n)]; exact h, h2⟩
theorem Src.upd {H : Hp} {p q : Addr} {o : HO} (s : Src H p) (n : q ≠ p) : Src (L2.upd H q o) p := by
  obtain ⟨a, b, c, h, h2⟩ := s
  exact ⟨a, b, c, by rw [upd_ne n.symm]; exact h, h2⟩
theorem _root_.My.ExB.back2 {h D : Addr} {H H' : Hp} (e : ExB h H H') (n : H' D = none) (hD : D ≠ h) : H D = none := by
  cases q : H D with
  | none => rfl
  | some o => rw [e _ _ hD q] at n; cases n
theorem ok__law_maps {f : Addr} {fd : FuncData} (F : Fun K "_law_maps" "_law_maps" s__law_maps f fd) (T : Txt K mg) (C__law_draw : Cal P w K mg base 1 "_law_draw" (sp__law_draw K)) : FnOk P w K mg base CX0 2 f fd ["source", "most_points", "most_letters"] (sp__law_maps K) := by
  refine F.ok sc__law_maps (fun vs H Q E h => by repeat (first | (obtain ⟨rfl, _⟩ := h; rfl) | obtain ⟨_, h⟩ := h)) (fun cdv A outer s H vs Q E hr h => ?_)
  refine ⟨_, (pss_cons (ps_asg (pe_tup (pa_cons (pe_op op_add pe_int (pe_c C__law_draw hr (by decide) rfl (pa_cons (pv 0) (pa_cons (pv 1) pa_nil)))) (pa_cons (pe_op op_add pe_int (pe_c C__law_draw hr (by decide) rfl (pa_cons (pv 0) (pa_cons (pv 2) pa_nil)))) pa_nil))) (pg_two (i := 3) (j := 4) K rfl rfl sc__law_maps.nd rfl (Or.inr rfl) rfl (Or.inl rfl)))
  (pss_one (ps_ret (pe_lc (own := [("turn", 5)]) rfl sc__law_maps.nd (pi_range1 rfl T.n_range (pa_cons (pv 4) pa_nil)) (blkOk_by (N := N__law_maps) (sc := defScope s__law_maps) (by decide +kernel)) (fun _ _ _ _ _ => (pg_name (i := 5) sc__law_maps.nd rfl (Or.inl rfl))) (fun _ _ _ _ _ => pts_nil) (fun _ _ _ _ _ => (pe_tupleOfK K rfl rfl T.n_tuple (pe_lc (own := [("point", 6)]) rfl sc__law_maps.nd (pi_range1 rfl T.n_range (pa_cons (pv 3) pa_nil)) (blkOk_by (N := N__law_maps)  (by kernel_rfl)) (fun _ _ _ _ _ => (pg_name (i := 6) sc__law_maps.nd rfl (Or.inl rfl))) (fun _ _ _ _ _ => pts_nil) (fun _ _ _ _ _ => (pe_c C__law_draw hr (by decide) rfl (pa_cons (pv 0) (pa_cons (pv 3) pa_nil))))))))))), ?_⟩
  try dsimp only [cxOf, Cx.nox, Cx.wish]
  obtain ⟨p, a, b, rfl, S0, ha1, ha4, hb1, hb6, k⟩ := h
  walk_at "go"
  refine ⟨p, a, rfl, S0, by omega, by omega, fun d1 H1 h0 h1 S1 X1 => ?_⟩
  walk_at "go"
  refine ⟨p, b, rfl, S1, by omega, by omega, fun d2 H2 g0 g1 S2 X2 => ?_⟩
  walk_at "go"
  obtain ⟨sz, hsz⟩ : ∃ sz : Nat, 1 + d1 = (sz : Int) := ⟨(1 + d1).toNat, by omega⟩
  obtain ⟨m, hm⟩ : ∃ m : Nat, 1 + d2 = (m : Int) := ⟨(1 + d2).toNat, by omega⟩
  rw [hsz, hm]
  intro p1 np1
  refine rd_g2 (SqT.of upd_same) ?_
  have S2 := S2.new np1 (o := .tup [.int (sz : Nat), .int (m : Nat)])
  have X12 := (X1.trans X2).trans (ExB.new (h := p) (o := .tup [.int (sz : Nat), .int (m : Nat)]) np1)
  walk_at "go"
  refine lcR_inv (fun D i acc H' => Src H' p ∧ ExB p H H' ∧ D ≠ p ∧ ∃ (as : List Addr) (rows : Tab), acc = refs as ∧ as.length = rows.length ∧ (∀ r ∈ rows, IsMap sz r) ∧ ∀ (j : Nat) (a : Addr) (r : List Nat), as[j]? = some a → rows[j]? = some r → H' a = some (.tup (rowV r))) (by omega) (fun _ => rfl) ?_ ?_ ?_
  · intro D nD
    exact ⟨S2.new nD, X12.trans (ExB.new nD), S2.ne nD, [], [], rfl, rfl, by simp, by simp⟩
  · rintro D i acc H3 Q3 hi nD hacc ⟨S3, X3, hDp, as, rows, rfl, hl, hmaps, hrows⟩ hD kk
    walk_at "go"
    refine lcR_inv (fun D2 i2 acc2 H' => Src H' p ∧ ExB p H3 H' ∧ D2 ≠ p ∧ ∃ ns : List Nat, acc2 = rowV ns ∧ ∀ x ∈ ns, x < sz) (by omega) (fun _ => rfl) ?_ ?_ ?_
    · intro D2 nD2
      exact ⟨S3.new nD2, ExB.new nD2, S3.ne nD2, [], rfl, by simp⟩
    · rintro D2 i2 acc2 H4 Q4 hi2 nD2 hacc2 ⟨S4, X4, hD2p, ns, rfl, hns⟩ hD2 kk2
      walk_at "go"
      refine ⟨p, sz, rfl, S4, by omega, by omega, fun d H5 h0 h1 S5 X5 => ?_⟩
      obtain ⟨x, rfl⟩ : ∃ x : Nat, d = (x : Int) := ⟨d.toNat, by omega⟩
      refine kk2 _ _ (X5 _ _ hD2p hD2) ⟨S5.upd hD2p, ExB.mut (X4.trans X5) nD2, hD2p, ns ++ [x], by unfold rowV; rw [List.map_append]; rfl, fun y hy => ?_⟩
      · rcases List.mem_append.mp hy with hy | hy
        · exact hns y hy
        · rw [List.mem_singleton.mp hy]; omega
    · rintro D2 acc2 H4 nD2 hacc2 ⟨S4, X4, hD2p, ns, rfl, hns⟩ hD2
      rw [rowV_len] at hacc2
      walk_at "go"
      intro r nr
      have hD4 := X4 _ _ hDp hD
      refine kk _ _ (by rw [upd_ne (ne_of_none hD4 nr)]; exact hD4) ⟨(S4.new nr).upd hDp, ?_, hDp, as ++ [r], rows ++ [ns], by unfold refs; rw [List.map_append]; rfl, by simp [hl], fun r' hr' => ?_, ?_⟩
      · exact ExB.mut ((X3.trans X4).trans (ExB.new nr)) (X12.back2 nD hDp)
      · rcases List.mem_append.mp hr' with h | h
        · exact hmaps _ h
        · rw [List.mem_singleton.mp h]; exact ⟨by omega, hns⟩
      · have hDr : r ≠ D := (ne_of_none hD4 nr).symm
        refine (tb_snoc (b2 := true) (H := H3) (D := D) hl hrows (fun b hb h0 => ?_) (by rw [upd_ne hDr, upd_same]; rfl)).2
        obtain ⟨jj, hjj⟩ := List.mem_iff_getElem?.mp hb
        have h9 := hrows jj b _ hjj (get_getD [] (by rw [← hl]; exact (List.getElem?_eq_some_iff.mp hjj).1))
        obtain ⟨_, _, _, hsp, _⟩ := S3
        have h10 := X4 _ _ (ne_of h9 hsp (fun z => nomatch z)) h9
        rw [upd_ne (ne_of h9 hD (fun z => nomatch z)), upd_ne (ne_of_none h10 nr), h9]
        exact h10
  · rintro D acc H3 nD hacc ⟨S3, X3, hDp, as, rows, rfl, hl, hmaps, hrows⟩ hD
    walk_at "go"
    rw [refs_len] at hacc
    have nDH : H D = none := X12.back2 nD hDp
    refine k D rows sz H3 nDH hDp ⟨by omega, by omega, by omega, by omega, hmaps⟩ (by omega) S3 ⟨as, hD, hl, hrows⟩ X3
end
end My
namespace My
open PySem PySem.Spec L2 SX LamX Mon
open PyProof.Rows hiding St
local macro_rules | `(tactic| walk_at "kb") => `(tactic| first | exact kb_str_str | exact kb_str_int | exact kb_str_bool | exact kb_str_list | exact kb_str_tuple | exact kb_int_str | exact kb_int_int | exact kb_int_bool | exact kb_int_list | exact kb_int_tuple | exact kb_bool_str | exact kb_bool_int | exact kb_bool_bool | exact kb_bool_list | exact kb_bool_tuple | exact kb_list_str | exact kb_list_int | exact kb_list_bool | exact kb_list_list | exact kb_list_tuple | exact kb_tuple_str | exact kb_tuple_int | exact kb_tuple_bool | exact kb_tuple_list | exact kb_tuple_tuple | exact kb_NoneType_str | exact kb_NoneType_int | exact kb_NoneType_bool | exact kb_NoneType_list | exact kb_NoneType_tuple)
local macro_rules | `(tactic| walk_at "hp") => `(tactic| first | assumption | exact upd_same | (refine (upd_ne (by first | assumption | (apply Ne.symm; assumption))).trans ?_; walk_at "hp"))
local macro_rules | `(tactic| walk_at "sq") => `(tactic| first | assumption | exact SqL.of (by walk_at "hp"))
local macro_rules | `(tactic| walk_at "sqt") => `(tactic| first | assumption | exact SqT.of (by walk_at "hp"))
local macro_rules | `(tactic| walk_at "ar") => `(tactic| first | omega | (dsimp only; omega) | (unfold CMul; omega) | (unfold CDiv; omega) | (unfold CPow; refine ⟨?_, ?_, ?_⟩ <;> decide) | (simp only [List.length_cons, List.length_nil]; decide))
local macro_rules | `(tactic| walk_at "rd") => `(tactic| first
  | with_reducible refine rd_seq ?_
  | with_reducible refine rd_asg ?_
  | with_reducible refine rd_if ?_
  | with_reducible refine rd_ret ?_
  | with_reducible refine rd_drop ?_
  | with_reducible refine rd_name ?_
  | with_reducible refine rd_sub ?_
  | ((with_reducible refine' rd_var ?e ?_); (case e => exact rfl))
  | with_reducible refine rd_c ?_
  | with_reducible refine rd_op ?_
  | with_reducible refine rd_un ?_
  | with_reducible refine rd_I0 ?_
  | ((with_reducible refine' rd_I ?c ?_); (case c => walk_at "ar"))
  | with_reducible refine rd_U ?_
  | with_reducible refine rd_eqI ?_
  | with_reducible refine rd_neI ?_
  | with_reducible refine rd_eqS ?_
  | with_reducible refine rd_neS ?_
  | with_reducible refine rd_eqB ?_
  | with_reducible refine rd_neB ?_
  | with_reducible refine rd_test ?_
  | with_reducible refine rd_B ?_
  | with_reducible refine rd_and ?_
  | with_reducible refine rd_or ?_
  | with_reducible refine rd_not ?_
  | with_reducible refine rd_andV ?_
  | with_reducible refine rd_orV ?_
  | with_reducible refine rd_notV ?_
  | with_reducible refine rd_ifE ?_
  | with_reducible refine rd_isN ?_
  | with_reducible refine rd_notN ?_
  | with_reducible refine rd_cons ?_
  | with_reducible refine rd_nil ?_
  | with_reducible refine rd_lst ?_
  | with_reducible refine rd_tup ?_
  | with_reducible refine rd_CB ?_
  | with_reducible refine rd_call ?_
  | with_reducible refine rd_sl ?_
  | with_reducible refine rd_part ?_
  | with_reducible refine rd_nopart ?_
  | with_reducible refine rd_par ?_
  | with_reducible refine rd_two ?_
  | with_reducible refine rd_next ?_
  | with_reducible refine rd_retN ?_
  | with_reducible refine rd_bool ?_
  | with_reducible refine rd_int ?_
  | with_reducible refine rd_intI ?_
  | with_reducible refine rd_intB ?_
  | with_reducible refine rd_ltS ?_
  | with_reducible refine rd_leS ?_
  | with_reducible refine rd_gtS ?_
  | with_reducible refine rd_geS ?_
  | with_reducible refine rd_inC ?_
  | with_reducible refine rd_notInC ?_
  | with_reducible refine rd_abs ?_
  | with_reducible refine rd_max2 ?_
  | with_reducible refine rd_min2 ?_
  | with_reducible refine rd_M1 ?_
  | with_reducible refine rd_isStr ?_
  | ((with_reducible refine' rd_len ?b ?_); (case b => (simp only [List.length_cons, List.length_nil]; decide)))
  | ((with_reducible refine' rd_listS ?b ?_); (case b => first | (simp only [List.length_take, List.length_cons, List.length_nil]; omega) | omega))
  | ((with_reducible refine' rd_isi ?ty ?h ?_); (case ty => first | exact ty_str | exact ty_int | exact ty_bl | exact ty_non | exact ty_lst (by walk_at "hp") | exact ty_tup (by walk_at "hp")); (case h => walk_at "kb"))
  | with_reducible refine rd_lc ?_
  | with_reducible refine rd_for ?_
  | with_reducible refine rd_iList ?_
  | with_reducible refine rd_iTup ?_
  | with_reducible refine rd_iRng1 ?_
  | with_reducible refine rd_iRng2 ?_
  | with_reducible refine rd_iRng3 ?_
  | with_reducible refine rd_iStr ?_
  | with_reducible refine rd_qIs ?_
  | with_reducible refine rd_whb ?_
  | ((with_reducible refine' rd_qIl ?sq ?_); (case sq => walk_at "sq"))
  | ((with_reducible refine' rd_qItu ?sq ?_); (case sq => walk_at "sqt"))
  | ((with_reducible refine' rd_qIr1 ?b1 ?b2 ?_); (case b1 => walk_at "ar"); (case b2 => walk_at "ar"))
  | ((with_reducible refine' rd_qIr2 ?b1 ?b2 ?b3 ?b4 ?_); (case b1 => walk_at "ar"); (case b2 => walk_at "ar"); (case b3 => walk_at "ar"); (case b4 => walk_at "ar"))
  | ((with_reducible refine' rd_qIr3 ?b1 ?b2 ?b3 ?b4 ?_); (case b1 => walk_at "ar"); (case b2 => walk_at "ar"); (case b3 => walk_at "ar"); (case b4 => walk_at "ar"))
  | ((with_reducible refine' rd_mulS ?b1 ?b2 ?b3 ?_); (case b1 => walk_at "ar"); (case b2 => walk_at "ar"); (case b3 => walk_at "ar"))
  | ((with_reducible refine' rd_slS_to ?b1 ?b2 ?_); (case b1 => walk_at "ar"); (case b2 => walk_at "ar"))
  | ((with_reducible refine' rd_slS_from ?b1 ?b2 ?_); (case b1 => walk_at "ar"); (case b2 => walk_at "ar"))
  | ((with_reducible refine' rd_slS_mid ?b1 ?b2 ?b3 ?b4 ?_); (case b1 => walk_at "ar"); (case b2 => walk_at "ar"); (case b3 => walk_at "ar"); (case b4 => walk_at "ar"))
  | ((with_reducible refine' rd_slL ?sq ?_); (case sq => walk_at "sq"))
  | with_reducible refine rd_true ?_
  | with_reducible refine rd_false ?_
  | with_reducible refine rd_nt ?_
  | with_reducible refine rd_nf ?_
  | ((with_reducible refine' rd_decT ?h ?_); (case h => omega))
  | ((with_reducible refine' rd_decF ?h ?_); (case h => omega))
  | ((with_reducible refine' rd_ndecT ?h ?_); (case h => omega))
  | ((with_reducible refine' rd_ndecF ?h ?_); (case h => omega))
  | ((with_reducible refine' rd_evT ?h ?_); (case h => first | exact rfl | (simp; done)))
  | ((with_reducible refine' rd_evF ?h ?_); (case h => first | exact rfl | (simp; done)))
  | ((with_reducible refine' rd_ixL ?sq ?a1 ?_); (case sq => walk_at "sq"); (case a1 => first | exact rfl | exact at_of (by omega) (by assumption)))
  | ((with_reducible refine' rd_ixT ?sq ?a1 ?_); (case sq => walk_at "sqt"); (case a1 => first | exact rfl | exact at_of (by omega) (by assumption)))
  | ((with_reducible refine' rd_lenL ?sq ?_); (case sq => walk_at "sq"))
  | ((with_reducible refine' rd_lenT ?sq ?_); (case sq => walk_at "sqt"))
  | ((with_reducible refine' rd_setL ?h ?j ?_); (case h => walk_at "hp"); (case j => exact rfl); (with_reducible refine id ?_))
  | ((with_reducible refine' rd_strlen ?l ?_); (case l => walk_at "ar"))
  | ((with_reducible refine' rd_cat ?l ?_); (case l => walk_at "ar")))
local macro_rules | `(tactic| walk_at "go") => `(tactic| ((try dsimp only); (repeat (walk_at "rd"))))
local macro_rules | `(tactic| walk_at "rd") => `(tactic| first
  | with_reducible refine rd_lstRg ?_
  | with_reducible refine rd_tRg1 ?_
  | with_reducible refine rd_tRg2 ?_
  | with_reducible refine rd_rg1 ?_
  | with_reducible refine rd_rg2 ?_
  | ((with_reducible refine' rd_qRg ?b ?_); (case b => refine ⟨?_, ?_, ?_, ?_⟩ <;> omega))
  | with_reducible refine rd_sortSet ?_
  | with_reducible refine rd_tDGet ?_
  | with_reducible refine rd_sDPut ?_
  | with_reducible refine rd_dnew ?_
  | with_reducible refine rd_iZipS ?_
  | with_reducible refine rd_zipS ?_
  | ((with_reducible refine' rd_inI ?sq ?_); (case sq => walk_at "sq"))
  | ((with_reducible refine' rd_notInI ?sq ?_); (case sq => walk_at "sq"))
  | with_reducible refine rd_chain ?_)

local macro_rules | `(tactic| walk_at "rd") => `(tactic| first
  | with_reducible refine rd_fld ?_
  | with_reducible refine rd_par3 ?_
  | with_reducible refine rd_sFld ?_
  | with_reducible refine rd_meth ?_
  | with_reducible refine rd_make ?_
  | with_reducible refine rd_iEnT ?_
  | with_reducible refine rd_iEnL ?_
  | with_reducible refine rd_iZipSL ?_
  | with_reducible refine rd_dIn ?_
  | with_reducible refine rd_dNotIn ?_
  | with_reducible refine rd_tDGet ?_
  | with_reducible refine rd_thenT ?_
  | with_reducible refine rd_sortLam ?_
  | with_reducible refine rd_tupRg ?_
  | with_reducible refine rd_bm ?_
  | ((with_reducible refine' rd_kTupT ?sq ?_); (case sq => walk_at "sqt"))
  | ((with_reducible refine' rd_kTupL ?sq ?_); (case sq => walk_at "sq"))
  | with_reducible refine rd_sDPut ?_
  | ((with_reducible refine' rd_enT ?sq ?_); (case sq => walk_at "sqt"))
  | ((with_reducible refine' rd_enL ?sq ?_); (case sq => walk_at "sq"))
  | ((with_reducible refine' rd_zipSL ?sq ?_); (case sq => walk_at "sq")))

section
variable {P : Program} {w : World} {K : PySem.W.Frag} {mg : Str → Option Value} {base : Heap}
theorem ok__law_table {f : Addr} {fd : FuncData} (F : Fun K "_law_table" "_law_table" s__law_table f fd) (T : Txt K mg) : FnOk P w K mg base CX0 1 f fd ["rows"] (sp__law_table K) := by
  refine F.ok sc__law_table (fun vs H Q E h => by repeat (first | (obtain ⟨rfl, _⟩ := h; rfl) | obtain ⟨_, h⟩ := h)) (fun cdv A outer s H vs Q E hr h => ?_)
  refine ⟨_, (pss_cons (ps_par3 (i := 1) (j := 2) (l := 3) rfl sc__law_table.nd rfl rfl rfl (by decide) (by decide) (by decide) rfl rfl rfl (pa_cons (pe_lst (pa_cons (pe_tupRg rfl rfl T.n_tuple (prg_1 rfl T.n_range (pe_callB cq_len rfl T.n_len boot_len (pa_cons (pe_ix ix_list (pv 0) pe_int (fun _ _ => rfl)) pa_nil)))) pa_nil)) (pa_cons (pe_lst (pa_cons (pe_strS [] rfl) pa_nil)) (pa_cons (pe_lst pa_nil) pa_nil))) (by rfl))
  (pss_cons (ps_set (i := 4) sc__law_table.nd rfl (Or.inl rfl) (pe_disp1T (hu_of hr) (pe_ix ix_list (pv 1) pe_int (fun _ _ => rfl)) pe_int))
  (pss_cons (ps_for PassesOwn.never rfl (pi_range1 rfl T.n_range (pa_cons pe_int pa_nil)) (pg_name (i := 5) sc__law_table.nd rfl (Or.inl rfl))
  (pss_cons (ps_if (pt_cmpR op_ge (pv 5) (pe_callB cq_len rfl T.n_len boot_len (pa_cons (pv 1) pa_nil)) (nomark _)) (pss_one (ps_ret (pe_tup (pa_cons (pv 1) (pa_cons (pv 2) (pa_cons (pv 3) pa_nil)))))) pss_nil)
  (pss_cons (ps_set (i := 6) sc__law_table.nd rfl (Or.inl rfl) (pe_lst pa_nil))
  (pss_cons (ps_for PassesOwn.never rfl (pi_zipSL rfl T.n_zip (pa_cons (pe_strS [97, 98, 99, 100, 101, 102] rfl) (pa_cons (pv 0) pa_nil))) (pg_two (i := 7) (j := 8) K rfl rfl sc__law_table.nd rfl (Or.inl rfl) rfl (Or.inr rfl))
  (pss_cons (ps_set (i := 9) sc__law_table.nd rfl (Or.inl rfl) (pe_tupleOf rfl T.n_tuple (pe_lc (own := [("image", 10)]) rfl sc__law_table.nd (pi_tup (pe_ix ix_list (pv 1) (pv 5) (fun _ _ => rfl))) (blkOk_by (N := N__law_table) (sc := defScope s__law_table) (by decide +kernel)) (fun _ _ _ _ _ => (pg_name (i := 10) sc__law_table.nd rfl (Or.inl rfl))) (fun _ _ _ _ _ => pts_nil) (fun _ _ _ _ _ => (pe_ix (ix_tupK K rfl) (pv 8) (pv 10) (fun _ _ => rfl))))))
  (pss_cons (ps_if (pt_cmp (pc_dnotin (hu_of hr) (pv 9) (pv 4))) (pss_cons (ps_dput (hu_of hr) (pv 4) (pv 9) (pe_callB cq_len rfl T.n_len boot_len (pa_cons (pv 1) pa_nil)) rfl)
  (pss_cons (ps_expr (pe_bm PySem.F.plainAttrs_list PySem.F.slot_list_append PySem.F.type_list_append mt_append (pv 1) (pa_cons (pv 9) pa_nil)))
  (pss_one (ps_expr (pe_bm PySem.F.plainAttrs_list PySem.F.slot_list_append PySem.F.type_list_append mt_append (pv 2) (pa_cons (pe_op oq_addS (pe_ix ix_list (pv 2) (pv 5) (fun _ _ => rfl)) (pv 7)) pa_nil)))))) pss_nil)
  (pss_one (ps_expr (pe_bm PySem.F.plainAttrs_list PySem.F.slot_list_append PySem.F.type_list_append mt_append (pv 6) (pa_cons (pe_dget (hu_of hr) (pv 4) (pv 9) (fun _ _ => rfl)) pa_nil)))))))
  (pss_one (ps_expr (pe_bm PySem.F.plainAttrs_list PySem.F.slot_list_append PySem.F.type_list_append mt_append (pv 3) (pa_cons (pv 6) pa_nil))))))))
  (pss_one (ps_ret (pe_tup (pa_cons (pv 1) (pa_cons (pv 2) (pa_cons (pv 3) pa_nil))))))))), ?_⟩
  try dsimp only [cxOf, Cx.nox, Cx.wish]
  obtain ⟨q, rows, sz, rfl, ⟨rs, hq, hl, hr⟩, M, k⟩ := h
  have hs1 := M.s1
  have hs4 := M.s4
  have hr1 := M.r1
  have hr6 := M.r6
  have hrs : (refs rs).length = rows.length := by rw [refs_len, hl]
  obtain ⟨a0, ha0⟩ : ∃ a, rs[0]? = some a := ⟨_, List.getElem?_eq_getElem (by omega)⟩
  have hr0 := hr 0 a0 (rows.getD 0 []) ha0 (get_getD [] (by omega))
  have hsz : (rowV (rows.getD 0 [])).length = sz := by rw [rowV_len, (M.maps _ (getD_mem (by omega))).1]
  walk_at "go"
  refine rd_ixL (SqL.of hq) (at_vI (n := 0) (getElem?_refs ha0)) ?_
  walk_at "go"
  rw [hsz]
  walk_at "go"
  refine rd_qTg (n := sz) (by omega) fun e0 ne0 => ?_
  walk_at "go"
  intro f nf
  walk_at "go"
  intro wl nwl
  walk_at "go"
  intro tb ntb
  walk_at "go"
  refine ⟨_, _, _, rfl, ?_⟩
  intro d nd
  have sA : Same H (L2.upd H e0 (.tup (rowV (List.range sz)))) := Same.new ne0
  have sB := sA.trans (Same.new (o := .lst [.ref e0]) nf)
  have sC := sB.trans (Same.new (o := .lst [.str (S [])]) nwl)
  have sD := sC.trans (Same.new (o := .lst []) ntb)
  have f1 : (L2.upd (L2.upd (L2.upd (L2.upd (L2.upd H e0 (.tup (rowV (List.range sz)))) f (.lst [.ref e0])) wl (.lst [.str (S [])])) tb (.lst [])) d (.dT [])) f = some (.lst [.ref e0]) := (Same.new nd) _ _ ((Same.new ntb) _ _ ((Same.new nwl) _ _ upd_same))
  walk_at "go"
  refine ⟨upd_same, e0, kk (List.range sz), rfl, ?_, ?_⟩
  · rw [kk_map]
    exact (Same.new nd) _ _ ((Same.new ntb) _ _ ((Same.new nwl) _ _ ((Same.new nf) _ _ upd_same)))
  have w1 : (L2.upd (L2.upd (L2.upd (L2.upd (L2.upd H e0 (.tup (rowV (List.range sz)))) f (.lst [.ref e0])) wl (.lst [.str (S [])])) tb (.lst [])) d (.dT [])) wl = some (.lst [.str (S [])]) := (Same.new nd) _ _ ((Same.new ntb) _ _ upd_same)
  have t1 : (L2.upd (L2.upd (L2.upd (L2.upd (L2.upd H e0 (.tup (rowV (List.range sz)))) f (.lst [.ref e0])) wl (.lst [.str (S [])])) tb (.lst [])) d (.dT [])) tb = some (.lst []) := (Same.new nd) _ _ upd_same
  have e0f : (L2.upd H e0 (.tup (rowV (List.range sz)))) e0 = some (.tup (rowV (List.range sz))) := upd_same
  have fB : (L2.upd (L2.upd H e0 (.tup (rowV (List.range sz)))) f (.lst [.ref e0])) f = some (.lst [.ref e0]) := upd_same
  have fC := (Same.new (o := .lst [.str (S [])]) nwl) _ _ fB
  have wC : (L2.upd (L2.upd (L2.upd H e0 (.tup (rowV (List.range sz)))) f (.lst [.ref e0])) wl (.lst [.str (S [])])) wl = some (.lst [.str (S [])]) := upd_same
  have e1 := (Same.new (o := .dT []) nd) _ _ ((Same.new (o := .lst []) ntb) _ _ ((Same.new (o := .lst [.str (S [])]) nwl) _ _ ((Same.new (o := .lst [.ref e0]) nf) _ _ e0f)))
  have L00 : LT H _ f wl tb d (fdT rows sz 0) (wsT rows sz 0) (tbT rows sz 0) [] [] := ⟨sD.trans (Same.new (o := .dT []) nd), Same.nn sA nf, Same.nn sB nwl, Same.nn sC ntb, Same.nn sD nd,
    ne_of_none fB nwl, ne_of_none fC ntb, ne_of_none wC ntb, ⟨[e0], f1, rfl, fun i a r q1 q2 => by
      have hi : i = 0 := by have := (List.getElem?_eq_some_iff.mp q1).1; simp at this; omega
      subst hi
      cases q1
      cases q2
      exact e1⟩, w1, t1, ⟨rfl, fun i a r q1 => by simp at q1⟩, fun t ht => (by cases ht), upd_same⟩
  have L0 := L00.put (fdT rows sz 0)
  have ekk : putK [] (kk (List.range sz)) (V.int 0) = numT (fdT rows sz 0) := putK_numT (fd := []) (by simp)
  rw [ekk]
  walk_at "go"
  have bd : ∀ i, (∀ k, k < i → k < (fdT rows sz k).length) → (fdT rows sz i).length ≤ 256 := fun i go => maps_le hs4 (fdT_nodup i) (fdT_maps M.maps i go)
  refine forR (n := 3000) (fun i σ' H' => ∃ v5 v6 v7 v8 v9 v10, σ' = [some (.ref q), some (.ref f), some (.ref wl), some (.ref tb), some (.ref d), v5, v6, v7, v8, v9, v10] ∧ (∀ k, k < i → k < (fdT rows sz k).length) ∧ ∃ ts, LT H H' f wl tb d (fdT rows sz i) (wsT rows sz i) (tbT rows sz i) (fdT rows sz i) ts) ⟨_, _, _, _, _, _, rfl, fun k hk => absurd hk (Nat.not_lt_zero _), [], L0⟩ ?_ ?_
  · rintro i σ' H1 hi ⟨v5, v6, v7, v8, v9, v10, rfl, go, ts, L⟩
    have hb := bd i go
    have hge := fdT_go_le i go
    obtain ⟨fs, hf, hF⟩ := L.hf
    have hfl : (refs fs).length = (fdT rows sz i).length := by rw [refs_len, hF.1]
    walk_at "go"
    rw [hfl]
    walk_at "go"
    refine rd_dec (fun c => ?_) (fun c => ?_)
    · walk_at "go"
      intro t nt
      have hlen : (fdT rows sz i).length = i := by omega
      have s := Same.new (o := .tup [.ref f, .ref wl, .ref tb]) nt
      have Lb := L.keep s
      obtain ⟨fs2, hf2, hF2⟩ := Lb.hf
      exact k t f wl tb i _ ⟨M.maps, go, hlen⟩ Lb.same upd_same ⟨fs2, hf2, hF2⟩ Lb.hw ⟨ts, Lb.ht, Lb.hT⟩
    · have hil : i < (fdT rows sz i).length := by omega
      walk_at "go"
      intro ro nro
      have L1 := L.keep (Same.new (o := .lst []) nro)
      walk_at "go"
      refine rd_zipSL (SqL.of (L1.same _ _ hq)) ?_
      have hgm := getD_mem (l := fdT rows sz i) hil
      have hfd := fdT_maps M.maps i go
      have hg := hfd _ hgm
      have bdR : ∀ j, j ≤ rows.length → (fdR rows ((fdT rows sz i).getD i []) j (fdT rows sz i)).length ≤ 256 := fun j hj => maps_le hs4 (fdR_nodup (fdT_nodup i) j) (fdR_maps M.maps hg hfd j hj)
      have wl0 := wsT_len (rows := rows) (sz := sz) i
      have hub : ((wsT rows sz i).getD i []).length ≤ i := getD_len (wsT_bd i)
      have ro0 : H ro = none := Same.nn L.same nro
      have rof : ro ≠ f := (ne_of_none hf nro).symm
      have row : ro ≠ wl := (ne_of_none L.hw nro).symm
      have rot : ro ≠ tb := (ne_of_none L.ht nro).symm
      have rts : ro ∉ ts := fun h => by
        obtain ⟨jj, hjj⟩ := List.mem_iff_getElem?.mp h
        have h9 := L.hT.2 jj _ _ hjj (get_getD [] (by rw [← L.hT.1]; exact (List.getElem?_eq_some_iff.mp hjj).1))
        rw [nro] at h9; cases h9
      refine forP (n := rows.length) (by have := walk_zipSL (K := K) (l := [97, 98, 99, 100, 101, 102]) (b := q) (ys := refs rs) (by rw [hrs]; exact hr6); rw [hrs] at this; exact this) (fun j σ' H' => ∃ v7 v8 v9 v10, σ' = [some (.ref q), some (.ref f), some (.ref wl), some (.ref tb), some (.ref d), some (.int (i : Nat)), some (.ref ro), v7, v8, v9, v10] ∧ LT H H' f wl tb d (fdR rows ((fdT rows sz i).getD i []) j (fdT rows sz i)) (wsR rows ((fdT rows sz i).getD i []) ((wsT rows sz i).getD i []) j (fdT rows sz i) (wsT rows sz i)) (tbT rows sz i) (fdR rows ((fdT rows sz i).getD i []) j (fdT rows sz i)) ts ∧ H' ro = some (.lst (rowV (rowR rows ((fdT rows sz i).getD i []) j (fdT rows sz i))))) ⟨v7, v8, v9, v10, by rw [Int.zero_add]; rfl, L1, upd_same⟩ (fun j σ' H' _ ⟨_, _, _, _, _, L, _⟩ => SqL.of (L.same _ _ hq)) ?_ ?_
      · rintro j σ' H2 T1 x y hj ⟨v7, v8, v9, v10, rfl, Lb, hro⟩ nT hx hy
        obtain ⟨b, hb2, rfl⟩ := refs_get hy
        have hxx : x = .str (S [97 + j]) := by
          have hj6 : j < 6 := by omega
          match j, hj6, hx with
          | 0, _, h => exact (Option.some.inj h).symm
          | 1, _, h => exact (Option.some.inj h).symm
          | 2, _, h => exact (Option.some.inj h).symm
          | 3, _, h => exact (Option.some.inj h).symm
          | 4, _, h => exact (Option.some.inj h).symm
          | 5, _, h => exact (Option.some.inj h).symm
        subst hxx
        have hjl := hj
        have hrow := hr j b (rows.getD j []) hb2 (get_getD [] hj)
        have L3 := Lb.keep (Same.new (o := .tup [.str (S [97 + j]), .ref b]) nT)
        have hro3 := (Same.new (o := .tup [.str (S [97 + j]), .ref b]) nT) _ _ hro
        obtain ⟨fs3, hf3, hF3⟩ := L3.hf
        obtain ⟨cc, hcc⟩ := fdR_pre (rows := rows) ((fdT rows sz i).getD i []) (fdT rows sz i) 0 j
        rw [Nat.zero_add] at hcc
        have hgi : (fdR rows ((fdT rows sz i).getD i []) j (fdT rows sz i)).getD i [] = (fdT rows sz i).getD i [] := by rw [hcc]; exact getD_left hil
        have hfl3 : i < (fdR rows ((fdT rows sz i).getD i []) j (fdT rows sz i)).length := by rw [hcc, List.length_append]; show i < (fdT rows sz i).length + _; omega
        obtain ⟨ga, hga, hgr⟩ := hF3.at hfl3
        rw [hgi] at hgr
        walk_at "go"
        refine rd_ixL (SqL.of hf3) (at_vI (getElem?_refs hga)) ?_
        walk_at "go"
        refine lcT (K := K) ((fdT rows sz i).getD i []) vI (SqT.of hgr) (fun _ => true) (fun y => vI ((rows.getD j []).getD y 0)) (by rw [hg.1]; omega) (fun _ => rfl) (fun y hy => pt_yes) ?_ ?_
        · intro y hy _ H4 s4 Q4 q4
          walk_at "go"
          refine rd_ixT (SqT.of (s4 _ _ (L3.same _ _ hrow))) (at_vI (rowV_get (by rw [(M.maps _ (getD_mem hj)).1]; exact hg.2 y hy))) ?_
          exact q4 _ (fun _ _ e => e)
        · intro D H3 nD s3 hD
          have eMul : (List.map (fun y => vI ((rows.getD j []).getD y 0)) (List.filter (fun _ => true) ((fdT rows sz i).getD i []))) = rowV (mul ((fdT rows sz i).getD i []) (rows.getD j [])) := by
            rw [List.filter_eq_self.mpr (fun _ _ => rfl)]
            unfold rowV mul
            rw [List.map_map]; rfl
          rw [eMul] at hD
          have L4 := L3.keep s3
          have hro4 := s3 _ _ hro3
          walk_at "go"
          intro qp nqp
          have L5 := L4.keep (Same.new (o := .tup (rowV (mul ((fdT rows sz i).getD i []) (rows.getD j [])))) nqp)
          have hro5 := (Same.new (o := .tup (rowV (mul ((fdT rows sz i).getD i []) (rows.getD j [])))) nqp) _ _ hro4
          have hkey : (L2.upd H3 qp (.tup (rowV (mul ((fdT rows sz i).getD i []) (rows.getD j []))))) qp = some (.tup ((kk (mul ((fdT rows sz i).getD i []) (rows.getD j []))).map kV)) := by rw [kk_map]; exact upd_same
          have hqr : (L2.upd H3 qp (.tup (rowV (mul ((fdT rows sz i).getD i []) (rows.getD j []))))) qp = some (.tup (rowV (mul ((fdT rows sz i).getD i []) (rows.getD j [])))) := upd_same
          generalize L2.upd H3 qp (.tup (rowV (mul ((fdT rows sz i).getD i []) (rows.getD j [])))) = H5 at *
          have hbj := bdR j (by omega)
          have hbj1 := bdR (j + 1) hj
          have e1 := fdR_succ rows ((fdT rows sz i).getD i []) j (fdT rows sz i)
          have e3 := rowR_succ rows ((fdT rows sz i).getD i []) j (fdT rows sz i)
          have ew : wsR rows ((fdT rows sz i).getD i []) ((wsT rows sz i).getD i []) (j + 1) (fdT rows sz i) (wsT rows sz i) = if mul ((fdT rows sz i).getD i []) (rows.getD j []) ∈ fdR rows ((fdT rows sz i).getD i []) j (fdT rows sz i) then wsR rows ((fdT rows sz i).getD i []) ((wsT rows sz i).getD i []) j (fdT rows sz i) (wsT rows sz i) else wsR rows ((fdT rows sz i).getD i []) ((wsT rows sz i).getD i []) j (fdT rows sz i) (wsT rows sz i) ++ [(wsT rows sz i).getD i [] ++ [97 + j]] := rfl
          have ewl := wsR_len (rows := rows) ((fdT rows sz i).getD i []) ((wsT rows sz i).getD i []) (fdT rows sz i) (wsT rows sz i) wl0 j
          have ewg : (wsR rows ((fdT rows sz i).getD i []) ((wsT rows sz i).getD i []) j (fdT rows sz i) (wsT rows sz i)).getD i [] = (wsT rows sz i).getD i [] := by
            obtain ⟨cw, hcw⟩ := wsR_pre0 (rows := rows) ((fdT rows sz i).getD i []) ((wsT rows sz i).getD i []) (fdT rows sz i) (wsT rows sz i) j
            rw [hcw]; exact getD_left (by omega)
          have erl : (rowR rows ((fdT rows sz i).getD i []) j (fdT rows sz i)).length = j := by unfold rowR; simp
          generalize mul ((fdT rows sz i).getD i []) (rows.getD j []) = pr at *
          have evl := valV_numT pr (fdR rows ((fdT rows sz i).getD i []) j (fdT rows sz i))
          generalize fdR rows ((fdT rows sz i).getD i []) j (fdT rows sz i) = fdj at *
          generalize fdR rows ((fdT rows sz i).getD i []) (j + 1) (fdT rows sz i) = fdj1 at *
          generalize wsR rows ((fdT rows sz i).getD i []) ((wsT rows sz i).getD i []) j (fdT rows sz i) (wsT rows sz i) = wsj at *
          generalize wsR rows ((fdT rows sz i).getD i []) ((wsT rows sz i).getD i []) (j + 1) (fdT rows sz i) (wsT rows sz i) = wsj1 at *
          walk_at "go"
          refine rd_qInT (kk pr) L5.hd hkey ?_
          by_cases hin : pr ∈ fdj
          · rw [if_pos hin] at evl e1 ew
            rw [evl]
            subst e1 ew
            walk_at "go"
            refine ⟨tyL hro5, ?_⟩
            walk_at "go"
            refine rd_qGetT (kk pr) L5.hd hkey evl ?_
            walk_at "go"
            refine rd_app hro5 (by rw [rowV_len, erl]; omega) ?_
            rw [e3, rowV_snoc]
            exact ⟨_, _, _, _, rfl, L5.other hro5 ro0 rof row rot rts, upd_same⟩
          · rw [if_neg hin] at evl e1 ew
            rw [evl]
            subst e1 ew
            walk_at "go"
            obtain ⟨fs5, hf5, hF5⟩ := L5.hf
            have hfl5 : (refs fs5).length = fdj.length := by rw [refs_len, hF5.1]
            refine rd_lenL (SqL.of hf5) ?_
            rw [hfl5]
            walk_at "go"
            rw [List.length_append] at hbj1
            refine rd_qPutT (kk pr) L5.hd hkey (by rw [numT_len]; omega) ?_
            rw [putK_numT hin]
            have L6 := L5.put (fdj ++ [pr])
            have hro6 : (L2.upd H5 d (.dT (numT (fdj ++ [pr])))) ro = some (.lst (rowV (rowR rows ((fdT rows sz i).getD i []) j (fdT rows sz i)))) := by rw [upd_ne (ne_of hro5 L5.hd (fun z => nomatch z))]; exact hro5
            have hqr6 : (L2.upd H5 d (.dT (numT (fdj ++ [pr])))) qp = some (.tup (rowV pr)) := by rw [upd_ne (ne_of hqr L5.hd (fun z => nomatch z))]; exact hqr
            generalize L2.upd H5 d (.dT (numT (fdj ++ [pr]))) = H6 at *
            obtain ⟨xs, hx1, hx2, L7⟩ := L6.pushf hqr6
            walk_at "go"
            refine ⟨tyL hx1, ?_⟩
            walk_at "go"
            refine rd_app hx1 (by omega) ?_
            have hro7 : (L2.upd H6 f (.lst (xs ++ [.ref qp]))) ro = some (.lst (rowV (rowR rows ((fdT rows sz i).getD i []) j (fdT rows sz i)))) := by rw [upd_ne rof]; exact hro6
            have hqr7 : (L2.upd H6 f (.lst (xs ++ [.ref qp]))) qp = some (.tup (rowV pr)) := by rw [upd_ne (ne_of hqr6 hx1 (fun z => nomatch z))]; exact hqr6
            generalize L2.upd H6 f (.lst (xs ++ [.ref qp])) = H7 at *
            walk_at "go"
            refine ⟨tyL L7.hw, ?_⟩
            walk_at "go"
            refine rd_ixL (SqL.of L7.hw) (at_vI (v := .str (S (wsj.getD i []))) (txV_get (by omega))) ?_
            rw [ewg]
            walk_at "go"
            refine rd_cat (by show _ + 1 ≤ 100000; omega) ?_
            walk_at "go"
            refine rd_app L7.hw (by rw [txV_len]; omega) ?_
            have L8 := L7.pushw ((wsT rows sz i).getD i [] ++ [97 + j])
            have hro8 : (L2.upd H7 wl (.lst (txV wsj ++ [.str (S ((wsT rows sz i).getD i [] ++ [97 + j]))]))) ro = some (.lst (rowV (rowR rows ((fdT rows sz i).getD i []) j (fdT rows sz i)))) := by rw [upd_ne row]; exact hro7
            have hqr8 : (L2.upd H7 wl (.lst (txV wsj ++ [.str (S ((wsT rows sz i).getD i [] ++ [97 + j]))]))) qp = some (.tup ((kk pr).map kV)) := by rw [kk_map, upd_ne (ne_of hqr7 L7.hw (fun z => nomatch z))]; exact hqr7
            generalize L2.upd H7 wl (.lst (txV wsj ++ [.str (S ((wsT rows sz i).getD i [] ++ [97 + j]))])) = H8 at *
            walk_at "go"
            refine ⟨tyL hro8, ?_⟩
            walk_at "go"
            have evl2 := valV_numT pr (fdj ++ [pr])
            rw [if_pos (by simp)] at evl2
            refine rd_qGetT (kk pr) L8.hd hqr8 evl2 ?_
            walk_at "go"
            refine rd_app hro8 (by rw [rowV_len, erl]; omega) ?_
            rw [e3, rowV_snoc]
            exact ⟨_, _, _, _, rfl, L8.other hro8 ro0 rof row rot rts, upd_same⟩
      · rintro σ' H2 ⟨v7, v8, v9, v10, rfl, Lb, hro⟩
        walk_at "go"
        refine ⟨tyL Lb.ht, ?_⟩
        walk_at "go"
        refine rd_app Lb.ht (by rw [refs_len, Lb.hT.1]; unfold tbT; simp; omega) ?_
        walk_at "go"
        refine ⟨_, _, _, _, _, _, rfl, fun k hk => ?_, ts ++ [ro], ?_⟩
        · by_cases e : k = i
          · subst e; exact hil
          · exact go k (by omega)
        · have L9 := Lb.pusht hro rof row rot
          rw [← tbT_succ] at L9
          exact L9
  · rintro σ' H1 ⟨v5, v6, v7, v8, v9, v10, rfl, go, _⟩
    have h1 := bd _ go
    have h2 := fdT_go_le _ go
    omega
end
end My
namespace My
open PySem PySem.Spec L2 SX LamX Mon
open PyProof.Rows hiding St
local macro_rules | `(tactic| walk_at "kb") => `(tactic| first | exact kb_str_str | exact kb_str_int | exact kb_str_bool | exact kb_str_list | exact kb_str_tuple | exact kb_int_str | exact kb_int_int | exact kb_int_bool | exact kb_int_list | exact kb_int_tuple | exact kb_bool_str | exact kb_bool_int | exact kb_bool_bool | exact kb_bool_list | exact kb_bool_tuple | exact kb_list_str | exact kb_list_int | exact kb_list_bool | exact kb_list_list | exact kb_list_tuple | exact kb_tuple_str | exact kb_tuple_int | exact kb_tuple_bool | exact kb_tuple_list | exact kb_tuple_tuple | exact kb_NoneType_str | exact kb_NoneType_int | exact kb_NoneType_bool | exact kb_NoneType_list | exact kb_NoneType_tuple)
local macro_rules | `(tactic| walk_at "hp") => `(tactic| first | assumption | exact upd_same | (refine (upd_ne (by first | assumption | (apply Ne.symm; assumption))).trans ?_; walk_at "hp"))
local macro_rules | `(tactic| walk_at "sq") => `(tactic| first | assumption | exact SqL.of (by walk_at "hp"))
local macro_rules | `(tactic| walk_at "sqt") => `(tactic| first | assumption | exact SqT.of (by walk_at "hp"))
local macro_rules | `(tactic| walk_at "ar") => `(tactic| first | omega | (dsimp only; omega) | (unfold CMul; omega) | (unfold CDiv; omega) | (unfold CPow; refine ⟨?_, ?_, ?_⟩ <;> decide) | (simp only [List.length_cons, List.length_nil]; decide))
local macro_rules | `(tactic| walk_at "rd") => `(tactic| first
  | with_reducible refine rd_seq ?_
  | with_reducible refine rd_asg ?_
  | with_reducible refine rd_if ?_
  | with_reducible refine rd_ret ?_
  | with_reducible refine rd_drop ?_
  | with_reducible refine rd_name ?_
  | with_reducible refine rd_sub ?_
  | ((with_reducible refine' rd_var ?e ?_); (case e => exact rfl))
  | with_reducible refine rd_c ?_
  | with_reducible refine rd_op ?_
  | with_reducible refine rd_un ?_
  | with_reducible refine rd_I0 ?_
  | ((with_reducible refine' rd_I ?c ?_); (case c => walk_at "ar"))
  | with_reducible refine rd_U ?_
  | with_reducible refine rd_eqI ?_
  | with_reducible refine rd_neI ?_
  | with_reducible refine rd_eqS ?_
  | with_reducible refine rd_neS ?_
  | with_reducible refine rd_eqB ?_
  | with_reducible refine rd_neB ?_
  | with_reducible refine rd_test ?_
  | with_reducible refine rd_B ?_
  | with_reducible refine rd_and ?_
  | with_reducible refine rd_or ?_
  | with_reducible refine rd_not ?_
  | with_reducible refine rd_andV ?_
  | with_reducible refine rd_orV ?_
  | with_reducible refine rd_notV ?_
  | with_reducible refine rd_ifE ?_
  | with_reducible refine rd_isN ?_
  | with_reducible refine rd_notN ?_
  | with_reducible refine rd_cons ?_
  | with_reducible refine rd_nil ?_
  | with_reducible refine rd_lst ?_
  | with_reducible refine rd_tup ?_
  | with_reducible refine rd_CB ?_
  | with_reducible refine rd_call ?_
  | with_reducible refine rd_sl ?_
  | with_reducible refine rd_part ?_
  | with_reducible refine rd_nopart ?_
  | with_reducible refine rd_par ?_
  | with_reducible refine rd_two ?_
  | with_reducible refine rd_next ?_
  | with_reducible refine rd_retN ?_
  | with_reducible refine rd_bool ?_
  | with_reducible refine rd_int ?_
  | with_reducible refine rd_intI ?_
  | with_reducible refine rd_intB ?_
  | with_reducible refine rd_ltS ?_
  | with_reducible refine rd_leS ?_
  | with_reducible refine rd_gtS ?_
  | with_reducible refine rd_geS ?_
  | with_reducible refine rd_inC ?_
  | with_reducible refine rd_notInC ?_
  | with_reducible refine rd_abs ?_
  | with_reducible refine rd_max2 ?_
  | with_reducible refine rd_min2 ?_
  | with_reducible refine rd_M1 ?_
  | with_reducible refine rd_isStr ?_
  | ((with_reducible refine' rd_len ?b ?_); (case b => (simp only [List.length_cons, List.length_nil]; decide)))
  | ((with_reducible refine' rd_listS ?b ?_); (case b => first | (simp only [List.length_take, List.length_cons, List.length_nil]; omega) | omega))
  | ((with_reducible refine' rd_isi ?ty ?h ?_); (case ty => first | exact ty_str | exact ty_int | exact ty_bl | exact ty_non | exact ty_lst (by walk_at "hp") | exact ty_tup (by walk_at "hp")); (case h => walk_at "kb"))
  | with_reducible refine rd_lc ?_
  | with_reducible refine rd_for ?_
  | with_reducible refine rd_iList ?_
  | with_reducible refine rd_iTup ?_
  | with_reducible refine rd_iRng1 ?_
  | with_reducible refine rd_iRng2 ?_
  | with_reducible refine rd_iRng3 ?_
  | with_reducible refine rd_iStr ?_
  | with_reducible refine rd_qIs ?_
  | with_reducible refine rd_whb ?_
  | ((with_reducible refine' rd_qIl ?sq ?_); (case sq => walk_at "sq"))
  | ((with_reducible refine' rd_qItu ?sq ?_); (case sq => walk_at "sqt"))
  | ((with_reducible refine' rd_qIr1 ?b1 ?b2 ?_); (case b1 => walk_at "ar"); (case b2 => walk_at "ar"))
  | ((with_reducible refine' rd_qIr2 ?b1 ?b2 ?b3 ?b4 ?_); (case b1 => walk_at "ar"); (case b2 => walk_at "ar"); (case b3 => walk_at "ar"); (case b4 => walk_at "ar"))
  | ((with_reducible refine' rd_qIr3 ?b1 ?b2 ?b3 ?b4 ?_); (case b1 => walk_at "ar"); (case b2 => walk_at "ar"); (case b3 => walk_at "ar"); (case b4 => walk_at "ar"))
  | ((with_reducible refine' rd_mulS ?b1 ?b2 ?b3 ?_); (case b1 => walk_at "ar"); (case b2 => walk_at "ar"); (case b3 => walk_at "ar"))
  | ((with_reducible refine' rd_slS_to ?b1 ?b2 ?_); (case b1 => walk_at "ar"); (case b2 => walk_at "ar"))
  | ((with_reducible refine' rd_slS_from ?b1 ?b2 ?_); (case b1 => walk_at "ar"); (case b2 => walk_at "ar"))
  | ((with_reducible refine' rd_slS_mid ?b1 ?b2 ?b3 ?b4 ?_); (case b1 => walk_at "ar"); (case b2 => walk_at "ar"); (case b3 => walk_at "ar"); (case b4 => walk_at "ar"))
  | ((with_reducible refine' rd_slL ?sq ?_); (case sq => walk_at "sq"))
  | with_reducible refine rd_true ?_
  | with_reducible refine rd_false ?_
  | with_reducible refine rd_nt ?_
  | with_reducible refine rd_nf ?_
  | ((with_reducible refine' rd_decT ?h ?_); (case h => omega))
  | ((with_reducible refine' rd_decF ?h ?_); (case h => omega))
  | ((with_reducible refine' rd_ndecT ?h ?_); (case h => omega))
  | ((with_reducible refine' rd_ndecF ?h ?_); (case h => omega))
  | ((with_reducible refine' rd_evT ?h ?_); (case h => first | exact rfl | (simp; done)))
  | ((with_reducible refine' rd_evF ?h ?_); (case h => first | exact rfl | (simp; done)))
  | ((with_reducible refine' rd_ixL ?sq ?a1 ?_); (case sq => walk_at "sq"); (case a1 => first | exact rfl | exact at_of (by omega) (by assumption)))
  | ((with_reducible refine' rd_ixT ?sq ?a1 ?_); (case sq => walk_at "sqt"); (case a1 => first | exact rfl | exact at_of (by omega) (by assumption)))
  | ((with_reducible refine' rd_lenL ?sq ?_); (case sq => walk_at "sq"))
  | ((with_reducible refine' rd_lenT ?sq ?_); (case sq => walk_at "sqt"))
  | ((with_reducible refine' rd_setL ?h ?j ?_); (case h => walk_at "hp"); (case j => exact rfl); (with_reducible refine id ?_))
  | ((with_reducible refine' rd_strlen ?l ?_); (case l => walk_at "ar"))
  | ((with_reducible refine' rd_cat ?l ?_); (case l => walk_at "ar")))
local macro_rules | `(tactic| walk_at "go") => `(tactic| ((try dsimp only); (repeat (walk_at "rd"))))
local macro_rules | `(tactic| walk_at "rd") => `(tactic| first
  | with_reducible refine rd_lstRg ?_
  | with_reducible refine rd_tRg1 ?_
  | with_reducible refine rd_tRg2 ?_
  | with_reducible refine rd_rg1 ?_
  | with_reducible refine rd_rg2 ?_
  | ((with_reducible refine' rd_qRg ?b ?_); (case b => refine ⟨?_, ?_, ?_, ?_⟩ <;> omega))
  | with_reducible refine rd_sortSet ?_
  | with_reducible refine rd_tDGet ?_
  | with_reducible refine rd_sDPut ?_
  | with_reducible refine rd_dnew ?_
  | with_reducible refine rd_iZipS ?_
  | with_reducible refine rd_zipS ?_
  | ((with_reducible refine' rd_inI ?sq ?_); (case sq => walk_at "sq"))
  | ((with_reducible refine' rd_notInI ?sq ?_); (case sq => walk_at "sq"))
  | with_reducible refine rd_chain ?_)

local macro_rules | `(tactic| walk_at "rd") => `(tactic| first
  | with_reducible refine rd_fld ?_
  | with_reducible refine rd_par3 ?_
  | with_reducible refine rd_sFld ?_
  | with_reducible refine rd_meth ?_
  | with_reducible refine rd_make ?_
  | with_reducible refine rd_iEnT ?_
  | with_reducible refine rd_iEnL ?_
  | with_reducible refine rd_iZipSL ?_
  | with_reducible refine rd_dIn ?_
  | with_reducible refine rd_dNotIn ?_
  | with_reducible refine rd_tDGet ?_
  | with_reducible refine rd_thenT ?_
  | with_reducible refine rd_sortLam ?_
  | with_reducible refine rd_sortLam1 ?_
  | with_reducible refine rd_dget1 ?_
  | with_reducible refine rd_dsetd ?_
  | with_reducible refine rd_dsetdT ?_
  | with_reducible refine rd_bmS ?_
  | with_reducible refine rd_tupRg ?_
  | with_reducible refine rd_bm ?_
  | ((with_reducible refine' rd_kTupT ?sq ?_); (case sq => walk_at "sqt"))
  | ((with_reducible refine' rd_kTupL ?sq ?_); (case sq => walk_at "sq"))
  | with_reducible refine rd_sDPut ?_
  | ((with_reducible refine' rd_enT ?sq ?_); (case sq => walk_at "sqt"))
  | ((with_reducible refine' rd_enL ?sq ?_); (case sq => walk_at "sq"))
  | ((with_reducible refine' rd_zipSL ?sq ?_); (case sq => walk_at "sq")))

section
variable {P : Program} {w : World} {K : PySem.W.Frag} {mg : Str → Option Value} {base : Heap}
theorem Ob.right {z : Zed} {H : Hp} {a me : Addr} {T : Tab} {m N : Nat} (O : Ob z H a me T m N) (G : GoodT T m N) : ∃ dx r t l as, H a = some (.ins z.C dx [("right", .ref r), ("tree", .ref t), ("lefts", .ref l), ("memory", .ref me)]) ∧ H r = some (.tup (refs as)) ∧ (refs as).length = N ∧ as.length = N ∧ ∀ (i : Nat), i < N → ∃ b, as[i]? = some b ∧ H b = some (.tup (rowV (T.getD i []))) ∧ (rowV (T.getD i [])).length = m := by
  obtain ⟨⟨dx, r, t, l, hx, ⟨as, hp, hl, hr⟩, _, _⟩, _⟩ := O
  have hN : as.length = N := by rw [hl, G.len]
  refine ⟨dx, r, t, l, as, hx, hp, by rw [refs_len, hN], hN, fun i hi => ?_⟩
  have h1 : i < as.length := by omega
  exact ⟨as[i], List.getElem?_eq_getElem h1, row_of hl hr (List.getElem?_eq_getElem h1), by rw [rowV_len]; exact G.g.row i hi⟩
theorem ok_Monoid_check_number {f : Addr} {fd : FuncData} {z : Zed} (Z : Zok K mg z) (F : Fun K "check_number" "Monoid.check_number" s_Monoid_check_number f fd) (T : Txt K mg) (C_is_number : Cal P w K mg base 1 "is_number" (sp_is_number K)) : FnOk P w K mg base CX0 2 f fd ["self", "number"] (sp_Monoid_check_number z K) := by
  refine F.ok sc_Monoid_check_number (fun vs H Q E h => by repeat (first | (obtain ⟨rfl, _⟩ := h; rfl) | obtain ⟨_, h⟩ := h)) (fun cdv A outer s H vs Q E hr h => ?_)
  refine ⟨_, (pss_one (ps_if (PW.pt (pw_or (pt_not (pt_val (pe_c C_is_number hr (by decide) rfl (pa_cons (pv 1) pa_nil)))) (pw_or1 (pt_not (pt_chain op_le op_lt pe_int (pv 1) (pe_callB cq_len rfl T.n_len boot_len (pa_cons (pe_fld (pv 0) rfl) pa_nil))))))) (pss_one ps_never) pss_nil)), ?_⟩
  try dsimp only [cxOf, Cx.nox, Cx.wish]
  obtain ⟨a, me, T, m, N, n, rfl, O, G, hn, k⟩ := h
  obtain ⟨dx, r, t, l, as, hx, hp, hlen, hal, hrow⟩ := O.right G
  walk_at "go"
  refine ⟨n, rfl, fun H1 s1 => ?_⟩
  have hx1 := s1 _ _ hx
  have hp1 := s1 _ _ hp
  walk_at "go"
  refine rd_qFld Z.cl hx1 Z.n_right rfl ?_
  walk_at "go"
  exact k H1 s1
theorem ok_Monoid_places_of {f : Addr} {fd : FuncData} {z : Zed} (Z : Zok K mg z) (F : Fun K "places_of" "Monoid.places_of" s_Monoid_places_of f fd) (T : Txt K mg) : FnOk P w K mg base CX0 1 f fd ["self", "word", "most"] (sp_Monoid_places_of z K) := by
  refine F.ok sc_Monoid_places_of (fun vs H Q E h => by repeat (first | (obtain ⟨rfl, _⟩ := h; rfl) | obtain ⟨_, h⟩ := h)) (fun cdv A outer s H vs Q E hr h => ?_)
  refine ⟨_, (pss_cons (ps_set (i := 3) sc_Monoid_places_of.nd rfl (Or.inr rfl) (pe_slice C8.sl_txt (C8.pe_gc rfl T.c_LETTERS) po_none (po_some (pe_callB cq_len rfl T.n_len boot_len (pa_cons (pe_ix ix_tup (pe_fld (pv 0) rfl) pe_int (fun _ _ => rfl)) pa_nil)))))
  (pss_cons (ps_if (PW.pt (pw_or (pt_not (pt_val (pe_callB call_isi rfl T.n_isinstance boot_isinstance (pa_cons (pv 1) (pa_cons (pe_bltn (v := .ty "str") rfl T.n_str boot_str rfl) pa_nil))))) (pw_or (pt_cmpR op_gt (pe_callB cq_lenS rfl T.n_len boot_len (pa_cons (pv 1) pa_nil)) (pv 2) (nomark _)) (pw_or1 (pt_cmpR (op_neD hr.units) (pe_lc (own := [("one", 5)]) rfl sc_Monoid_places_of.nd (pi_str (pv 1)) (blkOk_by (N := N_Monoid_places_of) (sc := defScope s_Monoid_places_of) (by decide +kernel)) (fun _ _ _ _ _ => (pg_name (i := 5) sc_Monoid_places_of.nd rfl (Or.inl rfl))) (fun _ _ _ _ _ => (pts_one (pt_cmpR oq_notInC (pv 5) (pv 3) rfl))) (fun _ _ _ _ _ => (pv 5))) (pe_lst pa_nil) (nomark _)))))) (pss_one ps_never) pss_nil)
  (pss_one (ps_ret (pe_lc (own := [("letter", 4)]) rfl sc_Monoid_places_of.nd (pi_str (pv 1)) (blkOk_by (N := N_Monoid_places_of) (sc := defScope s_Monoid_places_of) (by decide +kernel)) (fun _ _ _ _ _ => (pg_name (i := 4) sc_Monoid_places_of.nd rfl (Or.inl rfl))) (fun _ _ _ _ _ => pts_nil) (fun _ _ _ _ _ => (pe_bmK K rfl PySem.F.plainAttrs_str PySem.F.slot_str_index PySem.F.type_str_index mt_sindexL (C8.pe_gc rfl T.c_LETTERS) (pa_cons (pv 4) pa_nil)))))))), ?_⟩
  try dsimp only [cxOf, Cx.nox, Cx.wish]
  obtain ⟨a, me, T, m, N, w, most, rfl, O, G, hw, hl, hl2, k⟩ := h
  obtain ⟨dx, r, t, l, as, hx, hp, hlen, hal, hrow⟩ := O.right G
  have m6 := G.m6
  obtain ⟨b, hb, hb2, hb3⟩ := hrow 0 G.g.pos
  walk_at "go"
  refine rd_qFld Z.cl hx Z.n_right rfl ?_
  walk_at "go"
  refine rd_ixT (SqT.of hp) (at_vI (n := 0) (getElem?_refs hb)) ?_
  walk_at "go"
  rw [hb3]
  walk_at "go"
  try refine rd_decF (by omega) ?_
  try walk_at "go"
  refine lcS (l := w) (fun _ => false) (fun c => .str (S [c])) (by omega) (fun _ => rfl) ?_ (fun y _ h => by cases h) ?_
  · intro c hc H1 s1 Q1 q1
    have hk := mem_known m6 (hw c hc)
    walk_at "go"
    rw [show ((m : Int)).toNat = m by omega, decide_eq_true hk]
    walk_at "go"
    exact q1 _ (Same.refl _)
  · intro D H1 nD s1 hD
    rw [show (List.filter (fun _ => false) w) = [] from List.filter_eq_nil_iff.mpr (fun _ _ h => by cases h)] at hD
    walk_at "go"
    intro p2 np2
    have s2 := s1.trans (Same.new (o := .lst []) np2)
    have hD2 := (Same.new (o := .lst []) np2) _ _ hD
    have hp2 : (L2.upd H1 p2 (.lst [])) p2 = some (.lst []) := upd_same
    generalize L2.upd H1 p2 (.lst []) = H2 at *
    walk_at "go"
    refine rd_neLI (ns := []) (ms := []) (SqL.of hD2) (SqL.of hp2) ?_
    walk_at "go"
    refine lcS (l := w) (fun _ => true) (fun c => vI (c - 97)) (by omega) (fun _ => rfl) (fun y _ => pt_yes) ?_ ?_
    · intro c hc _ H3 s3 Q3 q3
      have hcc := hw c hc
      walk_at "go"
      refine ⟨tyS, ?_⟩
      walk_at "go"
      refine rd_qIdx' hcc.1 (by omega) ?_
      exact q3 _ (Same.refl _)
    · intro D3 H3 nD3 s3 hD3
      rw [List.filter_eq_self.mpr (fun _ _ => rfl)] at hD3
      refine k D3 H3 (Same.nn s2 nD3) (s2.trans s3) ?_
      rw [hD3]
      unfold rowV
      rw [List.map_map]
      rfl
theorem ok_Monoid_of_word {f : Addr} {fd : FuncData} {z : Zed} (Z : Zok K mg z) (F : Fun K "of_word" "Monoid.of_word" s_Monoid_of_word f fd) (T : Txt K mg) (C_Monoid_places_of : C8.Met P w K mg base 1 z.C "places_of" (sp_Monoid_places_of z K) []) : FnOk P w K mg base CX0 2 f fd ["self", "word"] (sp_Monoid_of_word z K) := by
  refine F.ok sc_Monoid_of_word (fun vs H Q E h => by repeat (first | (obtain ⟨rfl, _⟩ := h; rfl) | obtain ⟨_, h⟩ := h)) (fun cdv A outer s H vs Q E hr h => ?_)
  refine ⟨_, (pss_cons (ps_set (i := 2) sc_Monoid_of_word.nd rfl (Or.inl rfl) pe_int)
  (pss_cons (ps_for PassesOwn.never rfl (pi_list (C8.pe_mt C_Monoid_places_of hr (by decide) (pv 0) (pa_cons (pv 1) (pa_cons (C8.pe_gc rfl T.c_MOST_WORD) pa_nil)))) (pg_name (i := 3) sc_Monoid_of_word.nd rfl (Or.inl rfl))
  (pss_one (ps_set (i := 2) sc_Monoid_of_word.nd rfl (Or.inl rfl) (pe_ix ix_tup (pe_ix ix_tup (pe_fld (pv 0) rfl) (pv 2) (fun _ _ => rfl)) (pv 3) (fun _ _ => rfl)))))
  (pss_one (ps_ret (pv 2))))), ?_⟩
  try dsimp only [cxOf, Cx.nox, Cx.wish]
  obtain ⟨a, me, T, m, N, w, rfl, O, G, hw, hl2, k⟩ := h
  obtain ⟨dx, r, t, l, as, hx, hp, hlen, hal, hrow⟩ := O.right G
  walk_at "go"
  refine ⟨a, dx, _, rfl, hx, rfl, ?_⟩
  walk_at "go"
  refine ⟨a, me, T, m, N, w, 100, rfl, O, G, hw, by omega, hl2, fun p H1 np s1 hp1 => ?_⟩
  walk_at "go"
  refine forL (w.map fun c => c - 97) vI (fun i σ' H' => ∃ v3, σ' = [some (.ref a), some (.str (S w)), some (vI (run T 0 (w.take i))), v3] ∧ Same H1 H') ⟨_, by rw [List.take_zero]; rfl, Same.refl _⟩ (fun i σ' H' _ ⟨_, _, s⟩ => SqL.of (s _ _ hp1)) ?_ ?_
  · rintro i y σ' H2 hy ⟨v3, rfl, s2⟩
    rw [List.getElem?_map] at hy
    cases hc : w[i]? with
    | none => rw [hc] at hy; cases hy
    | some c =>
      rw [hc] at hy
      have ey : y = c - 97 := (Option.some.inj hy).symm
      subst ey
      have hcc := hw c (List.mem_of_getElem? hc)
      have hlt : Lt m (w.take i) := fun x hx => hw x (List.mem_of_mem_take hx)
      have hr := G.g.run_lt _ hlt
      obtain ⟨b, hb, hb2, hb3⟩ := hrow _ hr
      have s3 := s1.trans s2
      have et : w.take (i + 1) = w.take i ++ [c] := by rw [List.take_succ, hc]; rfl
      walk_at "go"
      refine rd_qFld Z.cl (s3 _ _ hx) Z.n_right rfl ?_
      walk_at "go"
      refine rd_ixT (SqT.of (s3 _ _ hp)) (at_vI (getElem?_refs hb)) ?_
      walk_at "go"
      refine rd_ixT (SqT.of (s3 _ _ hb2)) (at_vI (rowV_get (by rw [G.g.row _ hr]; omega))) ?_
      walk_at "go"
      exact ⟨_, by rw [et, run_snoc]; rfl, s2⟩
  · rintro σ' H2 ⟨v3, rfl, s2⟩
    rw [show w.take (w.map fun c => c - 97).length = w by rw [List.length_map]; exact List.take_of_length_le (Nat.le_refl _)]
    walk_at "go"
    exact k H2 (s1.trans s2)
theorem ok_Monoid_least_right {f : Addr} {fd : FuncData} {z : Zed} (Z : Zok K mg z) (F : Fun K "least_right" "Monoid.least_right" s_Monoid_least_right f fd) (T : Txt K mg) (C_Monoid_check_number : C8.Met P w K mg base 2 z.C "check_number" (sp_Monoid_check_number z K) []) : FnOk P w K mg base CX0 3 f fd ["self", "one", "other"] (sp_Monoid_least_right z K) := by
  refine F.ok sc_Monoid_least_right (fun vs H Q E h => by repeat (first | (obtain ⟨rfl, _⟩ := h; rfl) | obtain ⟨_, h⟩ := h)) (fun cdv A outer s H vs Q E hr h => ?_)
  refine ⟨_, (pss_cons (ps_expr (C8.pe_mt C_Monoid_check_number hr (by decide) (pv 0) (pa_cons (pv 1) pa_nil)))
  (pss_cons (ps_expr (C8.pe_mt C_Monoid_check_number hr (by decide) (pv 0) (pa_cons (pv 2) pa_nil)))
  (pss_cons (ps_par3 (i := 3) (j := 4) (l := 5) rfl sc_Monoid_least_right.nd rfl rfl rfl (by decide) (by decide) (by decide) rfl rfl rfl (pa_cons (pe_disp (pps_cons (pv 1) (pe_strS [] rfl) pps_nil) rfl rfl (by decide) (by decide)) (pa_cons (pe_lst (pa_cons (pv 1) pa_nil)) (pa_cons pe_int pa_nil))) (by rfl))
  (pss_cons (ps_while PassesOwn.never (PW.pt (pw_and (pt_cmpR op_lt (pv 5) (pe_callB cq_len rfl T.n_len boot_len (pa_cons (pv 4) pa_nil)) (nomark _)) (pw_and1 (pt_cmp (pc_dnotin (hu_of hr) (pv 2) (pv 3)))))) (pss_cons (ps_set (i := 6) sc_Monoid_least_right.nd rfl (Or.inl rfl) (pe_ix ix_list (pv 4) (pv 5) (fun _ _ => rfl)))
  (pss_cons (ps_for PassesOwn.never rfl (pi_enT rfl T.n_enumerate (pa_cons (pe_ix ix_tup (pe_fld (pv 0) rfl) (pv 6) (fun _ _ => rfl)) pa_nil)) (pg_two (i := 7) (j := 8) K rfl rfl sc_Monoid_least_right.nd rfl (Or.inl rfl) rfl (Or.inl rfl))
  (pss_one (ps_if (pt_cmp (pc_dnotin (hu_of hr) (pv 8) (pv 3))) (pss_cons (ps_dput (hu_of hr) (pv 3) (pv 8) (pe_op oq_addS (pe_dget (hu_of hr) (pv 3) (pv 6) (fun _ _ => rfl)) (pe_ix ix_str (C8.pe_gc rfl T.c_LETTERS) (pv 7) (fun _ _ => rfl))) rfl)
  (pss_one (ps_expr (pe_bm PySem.F.plainAttrs_list PySem.F.slot_list_append PySem.F.type_list_append mt_append (pv 4) (pa_cons (pv 8) pa_nil))))) pss_nil)))
  (pss_one (ps_set (i := 5) sc_Monoid_least_right.nd rfl (Or.inl rfl) (pe_op op_add (pv 5) pe_int))))))
  (pss_one (ps_ret (pe_dget1 (hu_of hr) (pv 3) (pv 2) ⟨rfl, rfl, rfl, rfl⟩))))))), ?_⟩
  try dsimp only [cxOf, Cx.nox, Cx.wish]
  obtain ⟨a, me, T, m, N, x, y, rfl, O, G, hx0, hy0, k⟩ := h
  obtain ⟨dx, r, t, l, as, hx, hp, hlen, hal, hrow⟩ := O.right G
  walk_at "go"
  refine ⟨a, dx, _, rfl, hx, rfl, ?_⟩
  walk_at "go"
  refine ⟨a, me, T, m, N, x, rfl, O, G, hx0, fun H1 s1 => ?_⟩
  have O1 := O.same s1
  walk_at "go"
  refine ⟨a, dx, _, rfl, s1 _ _ hx, rfl, ?_⟩
  walk_at "go"
  refine ⟨a, me, T, m, N, y, rfl, O1, G, hy0, fun H2 s2 => ?_⟩
  have s02 := s1.trans s2
  walk_at "go"
  refine rd_disp1 fun wd nwd => ?_
  walk_at "go"
  refine ⟨upd_same, kI x, rfl, ?_⟩
  have sd : Same H2 (L2.upd (L2.upd H2 wd (.dK [])) wd (.dK [(kI x, .str (S []))])) := Same.updN (Same.new nwd) nwd
  have hwd : (L2.upd (L2.upd H2 wd (.dK [])) wd (.dK [(kI x, .str (S []))])) wd = some (.dK (wordK [(x, [])])) := upd_same
  generalize L2.upd (L2.upd H2 wd (.dK [])) wd (.dK [(kI x, .str (S []))]) = H3 at *
  walk_at "go"
  intro wa nwa
  have sa := sd.trans (Same.new (o := .lst [vI x]) nwa)
  have hwd4 := (Same.new (o := .lst [vI x]) nwa) _ _ hwd
  have hwa4 : (L2.upd H3 wa (.lst [vI x])) wa = some (.lst (rowV (keys [(x, ([] : List Nat))]))) := upd_same
  have nwaH2 := Same.nn sd nwa
  have hne : wd ≠ wa := ne_of_none hwd nwa
  generalize L2.upd H3 wa (.lst [vI x]) = H4 at *
  walk_at "go"
  refine ⟨_, _, _, rfl, ?_⟩
  walk_at "go"
  have hst : ∀ n c, n < N → c < m → at2 T n c < N := fun n c hn hc => G.g.lt n c hn hc
  refine rd_whileX (fun k σ' H' => ∃ (kw : Kw) (t : Nat) (v6 v7 v8 : Option V), k = N - t ∧ σ' = [some (.ref a), some (vI x), some (vI y), some (.ref wd), some (.ref wa), some (vI t), v6, v7, v8] ∧ Bf (at2 T) m x kw t 0 ∧ t ≤ kw.length ∧ H' wd = some (.dK (wordK kw)) ∧ H' wa = some (.lst (rowV (keys kw))) ∧ Same H2 H') (fun σ' H' => ∃ (kw : Kw) (t : Nat) (v5 v6 v7 v8 : Option V), σ' = [some (.ref a), some (vI x), some (vI y), some (.ref wd), some (.ref wa), v5, v6, v7, v8] ∧ Bf (at2 T) m x kw t 0 ∧ (t = kw.length ∨ y ∈ keys kw) ∧ H' wd = some (.dK (wordK kw)) ∧ Same H2 H') N ⟨[(x, [])], 0, _, _, _, rfl, rfl, Bf.init _ _ _, Nat.zero_le _, hwd4, hwa4, sa⟩ ?_ ?_
  · rintro σ' H' ⟨kw, t, v5, v6, v7, v8, rfl, B, hend, h1, s3⟩
    walk_at "go"
    refine rd_dg0K h1 ?_
    walk_at "go"
    refine rd_dgK (kI y) h1 ?_
    by_cases hy : y ∈ keys kw
    · obtain ⟨p, hp1, rfl⟩ := mem_keys.mp hy
      rw [kw_some kw B.nd hp1]
      exact k (some p.2) H' (B.known hp1) (s02.trans s3)
    · rw [kw_none kw hy]
      rcases hend with rfl | h
      · exact k none H' (B.unknown hy) (s02.trans s3)
      · exact absurd h hy
  · rintro hex m0 σ' H' ⟨kw, t, v6, v7, v8, rfl, rfl, B, ht, h1, h2, s3⟩
    have hl := B.len_le hx0 hst
    have hle := G.le
    have hkl : (rowV (keys kw)).length = kw.length := by rw [rowV_len, keys_len]
    walk_at "go"
    rw [hkl]
    refine rd_dec (fun c => ?_) (fun c => ?_)
    · walk_at "go"
      refine rd_notInKw B.nd h1 ?_
      walk_at "go"
      by_cases hy : y ∈ keys kw
      · rw [decide_eq_true hy]
        rw [if_neg (by simp)]
        exact hex _ _ ⟨kw, t, _, _, _, _, rfl, B, .inr hy, h1, s3⟩
      · rw [decide_eq_false hy]
        have htl : t < kw.length := by omega
        obtain ⟨⟨n, u⟩, hnu⟩ : ∃ p, kw[t]? = some p := ⟨_, List.getElem?_eq_getElem htl⟩
        have hnN : n < N := hl.2 _ (List.mem_of_getElem? hnu)
        obtain ⟨b, hb, hb2, hb3⟩ := hrow n hnN
        have s03 := s02.trans s3
        have hul : u.length ≤ t := B.ln _ _ hnu
        walk_at "go"
        refine rd_ixL (SqL.of h2) (at_vI (keys_get hnu)) ?_
        walk_at "go"
        refine rd_qFld Z.cl (s03 _ _ hx) Z.n_right rfl ?_
        walk_at "go"
        refine rd_ixT (SqT.of (s03 _ _ hp)) (at_vI (getElem?_refs hb)) ?_
        walk_at "go"
        refine rd_enT (SqT.of (s03 _ _ hb2)) ?_
        refine forP (n := m) (by have := walk_enT (K := K) (a := b) (ys := rowV (T.getD n [])); rw [hb3] at this; exact this) (fun l σ' H' => ∃ (kw' : Kw) (v7 v8 : Option V), σ' = [some (.ref a), some (vI x), some (vI y), some (.ref wd), some (.ref wa), some (vI t), some (vI n), v7, v8] ∧ Bf (at2 T) m x kw' t l ∧ kw'[t]? = some (n, u) ∧ H' wd = some (.dK (wordK kw')) ∧ H' wa = some (.lst (rowV (keys kw'))) ∧ Same H2 H') ⟨kw, _, _, rfl, B, hnu, h1, h2, s3⟩ (fun l σ' H' _ ⟨_, _, _, _, _, _, _, _, s⟩ => SqT.of ((s02.trans s) _ _ hb2)) ?_ ?_
        · rintro l σ' H5 T1 v w' hlm ⟨kw', v7, v8, rfl, B5, hnu5, d5, l5, s5⟩ nT hv hw'
          cases hv
          rw [rowV_get (by rw [G.g.row n hnN]; exact hlm)] at hw'
          have hw2 : vI (at2 T n l) = w' := Option.some.inj hw'
          subst hw2
          have s6 := s5.trans (Same.new (o := .tup [.int ((l : Nat) : Int), vI (at2 T n l)]) nT)
          have d6 := (Same.new (o := .tup [.int ((l : Nat) : Int), vI (at2 T n l)]) nT) _ _ d5
          have l6 := (Same.new (o := .tup [.int ((l : Nat) : Int), vI (at2 T n l)]) nT) _ _ l5
          generalize L2.upd H5 T1 (.tup [.int ((l : Nat) : Int), vI (at2 T n l)]) = H6 at *
          have hl5 := B5.len_le hx0 hst
          obtain ⟨B7, hnu7⟩ := B5.step hnu5 hlm
          walk_at "go"
          refine rd_notInKw B5.nd d6 ?_
          walk_at "go"
          unfold add at B7 hnu7
          by_cases hk : at2 T n l ∈ keys kw'
          · rw [if_pos hk] at B7 hnu7
            rw [decide_eq_true hk]
            walk_at "go"
            exact ⟨kw', _, _, rfl, B7, hnu7, d6, l6, s6⟩
          · rw [if_neg hk] at B7 hnu7
            rw [decide_eq_false hk]
            have hlen7 := B7.len_le hx0 hst
            rw [List.length_append] at hlen7
            walk_at "go"
            refine rd_qGetK (kI n) d6 (kw_some kw' B5.nd (List.mem_of_getElem? hnu5)) ?_
            walk_at "go"
            refine rd_ixS (by decide) (lett (Nat.lt_of_lt_of_le hlm G.m6)) ?_
            walk_at "go"
            refine rd_cat (by show u.length + 1 ≤ 100000; omega) ?_
            walk_at "go"
            refine rd_qPutK (kI (at2 T n l)) d6 (by rw [kwK_len]; omega) ?_
            have ep : putK (wordK kw') (kI (at2 T n l)) (.str (S (u ++ [97 + l]))) = wordK (kw' ++ [(at2 T n l, u ++ [97 + l])]) := kw_put (f := fun q => .str (S q.2)) (p := (at2 T n l, u ++ [97 + l])) kw' hk
            rw [ep]
            have s7 := Same.updN (o := .dK (wordK (kw' ++ [(at2 T n l, u ++ [97 + l])]))) s6 nwd
            have d7 : (L2.upd H6 wd (.dK (wordK (kw' ++ [(at2 T n l, u ++ [97 + l])])))) wd = some (.dK (wordK (kw' ++ [(at2 T n l, u ++ [97 + l])]))) := upd_same
            have l7 : (L2.upd H6 wd (.dK (wordK (kw' ++ [(at2 T n l, u ++ [97 + l])])))) wa = some (.lst (rowV (keys kw'))) := by rw [upd_ne hne.symm]; exact l6
            generalize L2.upd H6 wd (.dK (wordK (kw' ++ [(at2 T n l, u ++ [97 + l])]))) = H7 at *
            walk_at "go"
            refine ⟨tyL l7, ?_⟩
            walk_at "go"
            refine rd_app l7 (by rw [rowV_len, keys_len]; omega) ?_
            refine ⟨_, _, _, rfl, B7, hnu7, by rw [upd_ne hne]; exact d7, by rw [upd_same, keys_snoc, rowV_snoc], Same.updN s7 nwaH2⟩
        · rintro σ' H5 ⟨kw', v7, v8, rfl, B5, hnu5, d5, l5, s5⟩
          walk_at "go"
          exact ⟨N - (t + 1), by omega, kw', t + 1, some (vI n), v7, v8, rfl, rfl, B5.row, (List.getElem?_eq_some_iff.mp hnu5).1, d5, l5, s5⟩
    · have e : t = kw.length := by omega
      rw [if_neg Bool.false_ne_true]
      exact hex _ _ ⟨kw, t, _, _, _, _, rfl, B, .inl e, h1, s3⟩
end
end My
namespace My
open PySem PySem.Spec L2 SX LamX Mon
open PyProof.Rows hiding St
local macro_rules | `(tactic| walk_at "kb") => `(tactic| first | exact kb_str_str | exact kb_str_int | exact kb_str_bool | exact kb_str_list | exact kb_str_tuple | exact kb_int_str | exact kb_int_int | exact kb_int_bool | exact kb_int_list | exact kb_int_tuple | exact kb_bool_str | exact kb_bool_int | exact kb_bool_bool | exact kb_bool_list | exact kb_bool_tuple | exact kb_list_str | exact kb_list_int | exact kb_list_bool | exact kb_list_list | exact kb_list_tuple | exact kb_tuple_str | exact kb_tuple_int | exact kb_tuple_bool | exact kb_tuple_list | exact kb_tuple_tuple | exact kb_NoneType_str | exact kb_NoneType_int | exact kb_NoneType_bool | exact kb_NoneType_list | exact kb_NoneType_tuple)
local macro_rules | `(tactic| walk_at "hp") => `(tactic| first | assumption | exact upd_same | (refine (upd_ne (by first | assumption | (apply Ne.symm; assumption))).trans ?_; walk_at "hp"))
local macro_rules | `(tactic| walk_at "sq") => `(tactic| first | assumption | exact SqL.of (by walk_at "hp"))
local macro_rules | `(tactic| walk_at "sqt") => `(tactic| first | assumption | exact SqT.of (by walk_at "hp"))
local macro_rules | `(tactic| walk_at "ar") => `(tactic| first | omega | (dsimp only; omega) | (unfold CMul; omega) | (unfold CDiv; omega) | (unfold CPow; refine ⟨?_, ?_, ?_⟩ <;> decide) | (simp only [List.length_cons, List.length_nil]; decide))
local macro_rules | `(tactic| walk_at "rd") => `(tactic| first
  | with_reducible refine rd_seq ?_
  | with_reducible refine rd_asg ?_
  | with_reducible refine rd_if ?_
  | with_reducible refine rd_ret ?_
  | with_reducible refine rd_drop ?_
  | with_reducible refine rd_name ?_
  | with_reducible refine rd_sub ?_
  | ((with_reducible refine' rd_var ?e ?_); (case e => exact rfl))
  | with_reducible refine rd_c ?_
  | with_reducible refine rd_op ?_
  | with_reducible refine rd_un ?_
  | with_reducible refine rd_I0 ?_
  | ((with_reducible refine' rd_I ?c ?_); (case c => walk_at "ar"))
  | with_reducible refine rd_U ?_
  | with_reducible refine rd_eqI ?_
  | with_reducible refine rd_neI ?_
  | with_reducible refine rd_eqS ?_
  | with_reducible refine rd_neS ?_
  | with_reducible refine rd_eqB ?_
  | with_reducible refine rd_neB ?_
  | with_reducible refine rd_test ?_
  | with_reducible refine rd_B ?_
  | with_reducible refine rd_and ?_
  | with_reducible refine rd_or ?_
  | with_reducible refine rd_not ?_
  | with_reducible refine rd_andV ?_
  | with_reducible refine rd_orV ?_
  | with_reducible refine rd_notV ?_
  | with_reducible refine rd_ifE ?_
  | with_reducible refine rd_isN ?_
  | with_reducible refine rd_notN ?_
  | with_reducible refine rd_cons ?_
  | with_reducible refine rd_nil ?_
  | with_reducible refine rd_lst ?_
  | with_reducible refine rd_tup ?_
  | with_reducible refine rd_CB ?_
  | with_reducible refine rd_call ?_
  | with_reducible refine rd_sl ?_
  | with_reducible refine rd_part ?_
  | with_reducible refine rd_nopart ?_
  | with_reducible refine rd_par ?_
  | with_reducible refine rd_two ?_
  | with_reducible refine rd_next ?_
  | with_reducible refine rd_retN ?_
  | with_reducible refine rd_bool ?_
  | with_reducible refine rd_int ?_
  | with_reducible refine rd_intI ?_
  | with_reducible refine rd_intB ?_
  | with_reducible refine rd_ltS ?_
  | with_reducible refine rd_leS ?_
  | with_reducible refine rd_gtS ?_
  | with_reducible refine rd_geS ?_
  | with_reducible refine rd_inC ?_
  | with_reducible refine rd_notInC ?_
  | with_reducible refine rd_abs ?_
  | with_reducible refine rd_max2 ?_
  | with_reducible refine rd_min2 ?_
  | with_reducible refine rd_M1 ?_
  | with_reducible refine rd_isStr ?_
  | ((with_reducible refine' rd_len ?b ?_); (case b => (simp only [List.length_cons, List.length_nil]; decide)))
  | ((with_reducible refine' rd_listS ?b ?_); (case b => first | (simp only [List.length_take, List.length_cons, List.length_nil]; omega) | omega))
  | ((with_reducible refine' rd_isi ?ty ?h ?_); (case ty => first | exact ty_str | exact ty_int | exact ty_bl | exact ty_non | exact ty_lst (by walk_at "hp") | exact ty_tup (by walk_at "hp")); (case h => walk_at "kb"))
  | with_reducible refine rd_lc ?_
  | with_reducible refine rd_for ?_
  | with_reducible refine rd_iList ?_
  | with_reducible refine rd_iTup ?_
  | with_reducible refine rd_iRng1 ?_
  | with_reducible refine rd_iRng2 ?_
  | with_reducible refine rd_iRng3 ?_
  | with_reducible refine rd_iStr ?_
  | with_reducible refine rd_qIs ?_
  | with_reducible refine rd_whb ?_
  | ((with_reducible refine' rd_qIl ?sq ?_); (case sq => walk_at "sq"))
  | ((with_reducible refine' rd_qItu ?sq ?_); (case sq => walk_at "sqt"))
  | ((with_reducible refine' rd_qIr1 ?b1 ?b2 ?_); (case b1 => walk_at "ar"); (case b2 => walk_at "ar"))
  | ((with_reducible refine' rd_qIr2 ?b1 ?b2 ?b3 ?b4 ?_); (case b1 => walk_at "ar"); (case b2 => walk_at "ar"); (case b3 => walk_at "ar"); (case b4 => walk_at "ar"))
  | ((with_reducible refine' rd_qIr3 ?b1 ?b2 ?b3 ?b4 ?_); (case b1 => walk_at "ar"); (case b2 => walk_at "ar"); (case b3 => walk_at "ar"); (case b4 => walk_at "ar"))
  | ((with_reducible refine' rd_mulS ?b1 ?b2 ?b3 ?_); (case b1 => walk_at "ar"); (case b2 => walk_at "ar"); (case b3 => walk_at "ar"))
  | ((with_reducible refine' rd_slS_to ?b1 ?b2 ?_); (case b1 => walk_at "ar"); (case b2 => walk_at "ar"))
  | ((with_reducible refine' rd_slS_from ?b1 ?b2 ?_); (case b1 => walk_at "ar"); (case b2 => walk_at "ar"))
  | ((with_reducible refine' rd_slS_mid ?b1 ?b2 ?b3 ?b4 ?_); (case b1 => walk_at "ar"); (case b2 => walk_at "ar"); (case b3 => walk_at "ar"); (case b4 => walk_at "ar"))
  | ((with_reducible refine' rd_slL ?sq ?_); (case sq => walk_at "sq"))
  | with_reducible refine rd_true ?_
  | with_reducible refine rd_false ?_
  | with_reducible refine rd_nt ?_
  | with_reducible refine rd_nf ?_
  | ((with_reducible refine' rd_decT ?h ?_); (case h => omega))
  | ((with_reducible refine' rd_decF ?h ?_); (case h => omega))
  | ((with_reducible refine' rd_ndecT ?h ?_); (case h => omega))
  | ((with_reducible refine' rd_ndecF ?h ?_); (case h => omega))
  | ((with_reducible refine' rd_evT ?h ?_); (case h => first | exact rfl | (simp; done)))
  | ((with_reducible refine' rd_evF ?h ?_); (case h => first | exact rfl | (simp; done)))
  | ((with_reducible refine' rd_ixL ?sq ?a1 ?_); (case sq => walk_at "sq"); (case a1 => first | exact rfl | exact at_of (by omega) (by assumption)))
  | ((with_reducible refine' rd_ixT ?sq ?a1 ?_); (case sq => walk_at "sqt"); (case a1 => first | exact rfl | exact at_of (by omega) (by assumption)))
  | ((with_reducible refine' rd_lenL ?sq ?_); (case sq => walk_at "sq"))
  | ((with_reducible refine' rd_lenT ?sq ?_); (case sq => walk_at "sqt"))
  | ((with_reducible refine' rd_setL ?h ?j ?_); (case h => walk_at "hp"); (case j => exact rfl); (with_reducible refine id ?_))
  | ((with_reducible refine' rd_strlen ?l ?_); (case l => walk_at "ar"))
  | ((with_reducible refine' rd_cat ?l ?_); (case l => walk_at "ar")))
local macro_rules | `(tactic| walk_at "go") => `(tactic| ((try dsimp only); (repeat (walk_at "rd"))))
local macro_rules | `(tactic| walk_at "rd") => `(tactic| first
  | with_reducible refine rd_lstRg ?_
  | with_reducible refine rd_tRg1 ?_
  | with_reducible refine rd_tRg2 ?_
  | with_reducible refine rd_rg1 ?_
  | with_reducible refine rd_rg2 ?_
  | ((with_reducible refine' rd_qRg ?b ?_); (case b => refine ⟨?_, ?_, ?_, ?_⟩ <;> omega))
  | with_reducible refine rd_sortSet ?_
  | with_reducible refine rd_tDGet ?_
  | with_reducible refine rd_sDPut ?_
  | with_reducible refine rd_dnew ?_
  | with_reducible refine rd_iZipS ?_
  | with_reducible refine rd_zipS ?_
  | ((with_reducible refine' rd_inI ?sq ?_); (case sq => walk_at "sq"))
  | ((with_reducible refine' rd_notInI ?sq ?_); (case sq => walk_at "sq"))
  | with_reducible refine rd_chain ?_)

local macro_rules | `(tactic| walk_at "rd") => `(tactic| first
  | with_reducible refine rd_fld ?_
  | with_reducible refine rd_par3 ?_
  | with_reducible refine rd_sFld ?_
  | with_reducible refine rd_meth ?_
  | with_reducible refine rd_make ?_
  | with_reducible refine rd_iEnT ?_
  | with_reducible refine rd_iEnL ?_
  | with_reducible refine rd_iZipSL ?_
  | with_reducible refine rd_dIn ?_
  | with_reducible refine rd_dNotIn ?_
  | with_reducible refine rd_tDGet ?_
  | with_reducible refine rd_thenT ?_
  | with_reducible refine rd_sortLam ?_
  | with_reducible refine rd_sortLam1 ?_
  | with_reducible refine rd_dget1 ?_
  | with_reducible refine rd_dsetd ?_
  | with_reducible refine rd_dsetdT ?_
  | with_reducible refine rd_bmS ?_
  | with_reducible refine rd_tupRg ?_
  | with_reducible refine rd_bm ?_
  | ((with_reducible refine' rd_kTupT ?sq ?_); (case sq => walk_at "sqt"))
  | ((with_reducible refine' rd_kTupL ?sq ?_); (case sq => walk_at "sq"))
  | with_reducible refine rd_sDPut ?_
  | ((with_reducible refine' rd_enT ?sq ?_); (case sq => walk_at "sqt"))
  | ((with_reducible refine' rd_enL ?sq ?_); (case sq => walk_at "sq"))
  | ((with_reducible refine' rd_zipSL ?sq ?_); (case sq => walk_at "sq")))

section
variable {P : Program} {w : World} {K : PySem.W.Frag} {mg : Str → Option Value} {base : Heap}
theorem Ob.left {z : Zed} {H : Hp} {a me : Addr} {T : Tab} {m N : Nat} (O : Ob z H a me T m N) (G : GoodT T m N) : ∃ dx r t l as, H a = some (.ins z.C dx [("right", .ref r), ("tree", .ref t), ("lefts", .ref l), ("memory", .ref me)]) ∧ H l = some (.tup (refs as)) ∧ ∀ (i : Nat), i < N → ∃ b, as[i]? = some b ∧ H b = some (.tup (rowV (Lf T m N i))) ∧ (Lf T m N i).length = m := by
  obtain ⟨⟨dx, r, t, l, hx, _, _, ⟨as, hp, hl, hr⟩⟩, _⟩ := O
  have hN : as.length = N := by rw [hl, G.g.llen]
  refine ⟨dx, r, t, l, as, hx, hp, fun i hi => ?_⟩
  have h1 : i < as.length := by omega
  exact ⟨as[i], List.getElem?_eq_getElem h1, row_of hl hr (List.getElem?_eq_getElem h1), G.g.Lf_len i hi⟩
theorem ok_Monoid_layers_left {f : Addr} {fd : FuncData} {z : Zed} (Z : Zok K mg z) (F : Fun K "layers_left" "Monoid.layers_left" s_Monoid_layers_left f fd) (T : Txt K mg) : FnOk P w K mg base CX0 1 f fd ["self", "one"] (sp_Monoid_layers_left z K) := by
  refine F.ok sc_Monoid_layers_left (fun vs H Q E h => by repeat (first | (obtain ⟨rfl, _⟩ := h; rfl) | obtain ⟨_, h⟩ := h)) (fun cdv A outer s H vs Q E hr h => ?_)
  refine ⟨_, (pss_cons (ps_par3 (i := 2) (j := 3) (l := 4) rfl sc_Monoid_layers_left.nd rfl rfl rfl (by decide) (by decide) (by decide) rfl rfl rfl (pa_cons (pe_disp (pps_cons (pv 1) pe_int pps_nil) rfl rfl (by decide) (by decide)) (pa_cons (pe_lst (pa_cons (pv 1) pa_nil)) (pa_cons pe_int pa_nil))) (by rfl))
  (pss_cons (ps_while PassesOwn.never (pt_cmpR op_lt (pv 4) (pe_callB cq_len rfl T.n_len boot_len (pa_cons (pv 3) pa_nil)) (nomark _)) (pss_cons (ps_set (i := 5) sc_Monoid_layers_left.nd rfl (Or.inl rfl) (pe_ix ix_list (pv 3) (pv 4) (fun _ _ => rfl)))
  (pss_cons (ps_for PassesOwn.never rfl (pi_tup (pe_ix ix_tup (pe_fld (pv 0) rfl) (pv 5) (fun _ _ => rfl))) (pg_name (i := 6) sc_Monoid_layers_left.nd rfl (Or.inl rfl))
  (pss_one (ps_if (pt_cmp (pc_dnotin (hu_of hr) (pv 6) (pv 2))) (pss_cons (ps_dput (hu_of hr) (pv 2) (pv 6) (pe_op op_add (pe_dget (hu_of hr) (pv 2) (pv 5) (fun _ _ => rfl)) pe_int) rfl)
  (pss_one (ps_expr (pe_bm PySem.F.plainAttrs_list PySem.F.slot_list_append PySem.F.type_list_append mt_append (pv 3) (pa_cons (pv 6) pa_nil))))) pss_nil)))
  (pss_one (ps_set (i := 4) sc_Monoid_layers_left.nd rfl (Or.inl rfl) (pe_op op_add (pv 4) pe_int))))))
  (pss_one (ps_ret (pv 2))))), ?_⟩
  try dsimp only [cxOf, Cx.nox, Cx.wish]
  obtain ⟨a, me, T, m, N, x, rfl, O, G, hx0, k⟩ := h
  obtain ⟨dx, r, t, l, as, hx, hp, hrow⟩ := O.left G
  walk_at "go"
  refine rd_disp1 fun wd nwd => ?_
  walk_at "go"
  refine ⟨upd_same, kI x, rfl, ?_⟩
  have sd : Same H (L2.upd (L2.upd H wd (.dK [])) wd (.dK [(kI x, .int 0)])) := Same.updN (Same.new nwd) nwd
  have hwd : (L2.upd (L2.upd H wd (.dK [])) wd (.dK [(kI x, .int 0)])) wd = some (.dK (lenK [(x, [])])) := upd_same
  generalize L2.upd (L2.upd H wd (.dK [])) wd (.dK [(kI x, .int 0)]) = H3 at *
  walk_at "go"
  intro wa nwa
  have sa := sd.trans (Same.new (o := .lst [vI x]) nwa)
  have hwd4 := (Same.new (o := .lst [vI x]) nwa) _ _ hwd
  have hwa4 : (L2.upd H3 wa (.lst [vI x])) wa = some (.lst (rowV (keys [(x, ([] : List Nat))]))) := upd_same
  have nwaH := Same.nn sd nwa
  have hne : wd ≠ wa := ne_of_none hwd nwa
  generalize L2.upd H3 wa (.lst [vI x]) = H4 at *
  walk_at "go"
  try refine ⟨_, _, _, rfl, ?_⟩
  walk_at "go"
  have hst : ∀ n c, n < N → c < m → sl T m N n c < N := fun n c hn hc => G.g.sl_lt hn hc
  refine rd_whileX (fun k σ' H' => ∃ (kw : Kw) (t : Nat) (v5 v6 : Option V), k = N - t ∧ σ' = [some (.ref a), some (vI x), some (.ref wd), some (.ref wa), some (vI t), v5, v6] ∧ Bf (sl T m N) m x kw t 0 ∧ t ≤ kw.length ∧ H' wd = some (.dK (lenK kw)) ∧ H' wa = some (.lst (rowV (keys kw))) ∧ Same H H') (fun σ' H' => ∃ (kw : Kw) (v3 v4 v5 v6 : Option V), σ' = [some (.ref a), some (vI x), some (.ref wd), v3, v4, v5, v6] ∧ Bf (sl T m N) m x kw kw.length 0 ∧ H' wd = some (.dK (lenK kw)) ∧ Same H H') N ⟨[(x, [])], 0, _, _, rfl, rfl, Bf.init _ _ _, Nat.zero_le _, hwd4, hwa4, sa⟩ ?_ ?_
  · rintro σ' H' ⟨kw, v3, v4, v5, v6, rfl, B, h1, s3⟩
    walk_at "go"
    exact k wd kw H' nwd s3 B h1
  · rintro hex m0 σ' H' ⟨kw, t, v5, v6, rfl, rfl, B, ht, h1, h2, s3⟩
    have hl := B.len_le hx0 hst
    have hle := G.le
    have hkl : (rowV (keys kw)).length = kw.length := by rw [rowV_len, keys_len]
    walk_at "go"
    rw [hkl]
    refine rd_dec (fun c => ?_) (fun c => ?_)
    · have htl : t < kw.length := by omega
      obtain ⟨⟨n, u⟩, hnu⟩ : ∃ p, kw[t]? = some p := ⟨_, List.getElem?_eq_getElem htl⟩
      have hnN : n < N := hl.2 _ (List.mem_of_getElem? hnu)
      obtain ⟨b, hb, hb2, hb3⟩ := hrow n hnN
      have hul : u.length ≤ t := B.ln _ _ hnu
      walk_at "go"
      refine rd_ixL (SqL.of h2) (at_vI (keys_get hnu)) ?_
      walk_at "go"
      refine rd_qFld Z.cl (s3 _ _ hx) Z.n_lefts rfl ?_
      walk_at "go"
      refine rd_ixT (SqT.of (s3 _ _ hp)) (at_vI (getElem?_refs hb)) ?_
      walk_at "go"
      refine rd_qItu (SqT.of (s3 _ _ hb2)) ?_
      refine forT (K := K) (Lf T m N n) vI (fun l σ' H' => ∃ (kw' : Kw) (v6 : Option V), σ' = [some (.ref a), some (vI x), some (.ref wd), some (.ref wa), some (vI t), some (vI n), v6] ∧ Bf (sl T m N) m x kw' t l ∧ kw'[t]? = some (n, u) ∧ H' wd = some (.dK (lenK kw')) ∧ H' wa = some (.lst (rowV (keys kw'))) ∧ Same H H') ⟨kw, _, rfl, B, hnu, h1, h2, s3⟩ (fun l σ' H' _ ⟨_, _, _, _, _, _, _, s⟩ => SqT.of (s _ _ hb2)) ?_ ?_
      · rintro l later σ' H6 hla ⟨kw', v6, rfl, B5, hnu5, d6, l6, s6⟩
        have hlm : l < m := by rw [← hb3]; exact (List.getElem?_eq_some_iff.mp hla).1
        have els : later = sl T m N n l := by unfold sl; rw [List.getD_eq_getElem?_getD, hla]; rfl
        subst els
        have hl5 := B5.len_le hx0 hst
        obtain ⟨B7, hnu7⟩ := B5.step hnu5 hlm
        walk_at "go"
        refine rd_notInKw B5.nd d6 ?_
        walk_at "go"
        unfold add at B7 hnu7
        by_cases hk : sl T m N n l ∈ keys kw'
        · rw [if_pos hk] at B7 hnu7
          rw [decide_eq_true hk]
          walk_at "go"
          exact ⟨kw', _, rfl, B7, hnu7, d6, l6, s6⟩
        · rw [if_neg hk] at B7 hnu7
          rw [decide_eq_false hk]
          have hlen7 := B7.len_le hx0 hst
          rw [List.length_append] at hlen7
          walk_at "go"
          refine rd_qGetK (kI n) d6 (kw_some kw' B5.nd (List.mem_of_getElem? hnu5)) ?_
          walk_at "go"
          refine rd_qPutK (kI (sl T m N n l)) d6 (by rw [kwK_len]; omega) ?_
          have ep : putK (lenK kw') (kI (sl T m N n l)) (.int ((u.length : Int) + 1)) = lenK (kw' ++ [(sl T m N n l, u ++ [97 + l])]) := by
            have e9 : putK (lenK kw') (kI (sl T m N n l)) (vI (u ++ [97 + l]).length) = lenK (kw' ++ [(sl T m N n l, u ++ [97 + l])]) := kw_put (f := fun q => vI q.2.length) (p := (sl T m N n l, u ++ [97 + l])) kw' hk
            have e8 : (V.int ((u.length : Int) + 1)) = vI (u ++ [97 + l]).length := by rw [show (u ++ [97 + l]).length = u.length + 1 by simp]; rfl
            rw [e8]
            exact e9
          rw [ep]
          have s7 := Same.updN (o := .dK (lenK (kw' ++ [(sl T m N n l, u ++ [97 + l])]))) s6 nwd
          have d7 : (L2.upd H6 wd (.dK (lenK (kw' ++ [(sl T m N n l, u ++ [97 + l])])))) wd = some (.dK (lenK (kw' ++ [(sl T m N n l, u ++ [97 + l])]))) := upd_same
          have l7 : (L2.upd H6 wd (.dK (lenK (kw' ++ [(sl T m N n l, u ++ [97 + l])])))) wa = some (.lst (rowV (keys kw'))) := by rw [upd_ne hne.symm]; exact l6
          generalize L2.upd H6 wd (.dK (lenK (kw' ++ [(sl T m N n l, u ++ [97 + l])]))) = H7 at *
          walk_at "go"
          refine ⟨tyL l7, ?_⟩
          walk_at "go"
          refine rd_app l7 (by rw [rowV_len, keys_len]; omega) ?_
          exact ⟨_, _, rfl, B7, hnu7, by rw [upd_ne hne]; exact d7, by rw [upd_same, keys_snoc, rowV_snoc], Same.updN s7 nwaH⟩
      · rintro σ' H6 ⟨kw', v6, rfl, B5, hnu5, d6, l6, s6⟩
        rw [hb3] at B5
        walk_at "go"
        exact ⟨N - (t + 1), by omega, kw', t + 1, some (vI n), v6, rfl, rfl, B5.row, (List.getElem?_eq_some_iff.mp hnu5).1, d6, l6, s6⟩
    · have e : t = kw.length := by omega
      subst e
      exact hex _ _ ⟨kw, _, _, _, _, rfl, B, h1, s3⟩
theorem valV_knownI (x : Nat) : ∀ (more : List Nat) (kvs : List (Key × V)), (valV (mergeK kvs (more.map fun w => (kI w, V.bl true))) (kI x)).isSome = (decide (x ∈ more) || (valV kvs (kI x)).isSome)
  | [], kvs => by simp [mergeK]
  | w :: more, kvs => by
    show (valV (mergeK (putK kvs (kI w) (V.bl true)) (more.map fun w => (kI w, V.bl true))) (kI x)).isSome = _
    rw [valV_knownI x more, valV_put]
    by_cases e : x = w
    · subst e; simp
    · have e2 : ¬ (kI x = kI w) := fun h => e (kI_inj.mp h)
      rw [if_neg e2]
      simp [e]
def knownI (gs : List Nat) : List (Key × V) := mergeK [] (gs.map fun w => (kI w, V.bl true))
theorem knownI_has (gs : List Nat) (x : Nat) : (valV (knownI gs) (kI x)).isSome = decide (x ∈ gs) := by
  unfold knownI
  rw [valV_knownI]
  simp [valV]
theorem rd_inKI {gs : List Nat} {x : Nat} {H : Hp} {Q : VK} {dk : Addr} (h : H dk = some (.dK (knownI gs))) (q : Q (.bl (decide (x ∈ gs))) H) : qDIn false (vI x) (.ref dk) H Q := rd_qInK (kI x) h (by rw [knownI_has]; exact q)
theorem paired_knownI {K : PySem.W.Frag} {H : Hp} : ∀ (ps : List Addr) (gs : List Nat), ps.length = gs.length → (∀ (j : Nat) (a : Addr), ps[j]? = some a → H a = some (.tup [vI (gs.getD j 0), .bl true])) →
    Paired (fun p kv => SqT K H p [kV kv.1, kv.2]) ps (gs.map fun w => (kI w, V.bl true))
  | [], [], _, _ => .nil
  | [], _ :: _, h, _ => by cases h
  | _ :: _, [], h, _ => by cases h
  | p :: ps, w :: gs, h, k => .cons (SqT.of (k 0 p rfl)) (paired_knownI ps gs (by simpa using h) fun j a e => k (j + 1) a e)
theorem ok_Monoid_first_led {f : Addr} {fd : FuncData} {z : Zed} (Z : Zok K mg z) (F : Fun K "first_led" "Monoid.first_led" s_Monoid_first_led f fd) (T : Txt K mg) : FnOk P w K mg base CX0 1 f fd ["self", "numbers", "goals"] (sp_Monoid_first_led z K) := by
  refine F.ok sc_Monoid_first_led (fun vs H Q E h => by repeat (first | (obtain ⟨rfl, _⟩ := h; rfl) | obtain ⟨_, h⟩ := h)) (fun cdv A outer s H vs Q E hr h => ?_)
  refine ⟨_, (pss_cons (ps_set (i := 3) sc_Monoid_first_led.nd rfl (Or.inr rfl) (pe_callTy (call_dictP rfl) rfl T.n_dict boot_dict (pa_cons (pe_lc (own := [("goal", 6)]) rfl sc_Monoid_first_led.nd (pi_list (pv 2)) (blkOk_by (N := N_Monoid_first_led) (sc := defScope s_Monoid_first_led) (by decide +kernel)) (fun _ _ _ _ _ => (pg_name (i := 6) sc_Monoid_first_led.nd rfl (Or.inl rfl))) (fun _ _ _ _ _ => pts_nil) (fun _ _ _ _ _ => (pe_tup (pa_cons (pv 6) (pa_cons pe_bl pa_nil))))) pa_nil)))
  (pss_cons (ps_for PassesOwn.never rfl (pi_range1 rfl T.n_range (pa_cons (pe_callB cq_len rfl T.n_len boot_len (pa_cons (pe_ix ix_tup (pe_fld (pv 0) rfl) pe_int (fun _ _ => rfl)) pa_nil)) pa_nil)) (pg_name (i := 4) sc_Monoid_first_led.nd rfl (Or.inr rfl))
  (pss_cons (ps_setLc (i := 5) (own := [("number", 7)]) rfl sc_Monoid_first_led.nd rfl rfl (sw_true rfl rfl rfl (by decide +kernel)) (pi_list (pv 1)) (blkOk_by (N := N_Monoid_first_led) (sc := defScope s_Monoid_first_led) (by decide +kernel)) (fun _ _ _ _ _ => (pg_name (i := 7) sc_Monoid_first_led.nd rfl (Or.inl rfl))) (fun _ _ _ _ _ => (pts_one (pt_cmp (pc_din (hu_of hr) (pe_ix (ix_tupK K rfl) (pe_ix (ix_tupK K rfl) (pe_fldK K rfl (pv 0) rfl) (pv 7) (fun _ _ => rfl)) (pv 4) (fun _ _ => rfl)) (pv 3))))) (fun _ _ _ _ _ => (pv 7)))
  (pss_one (ps_if (pt_cmpR (op_neD hr.units) (pv 5) (pe_lst pa_nil) (nomark _)) (pss_one (ps_ret (pe_tup (pa_cons (pv 4) (pa_cons (pv 5) pa_nil))))) pss_nil))))
  (pss_one (ps_ret (pe_tup (pa_cons pe_non (pa_cons (pe_lst pa_nil) pa_nil))))))), ?_⟩
  try dsimp only [cxOf, Cx.nox, Cx.wish]
  obtain ⟨a, me, pn, pg, T, m, N, nums, goals, rfl, O, G, hn, hg, hlt, hnl, hgl, hex, k⟩ := h
  obtain ⟨dx, r, t, l, as, hx, hp, hrow⟩ := O.left G
  obtain ⟨dx', r', t', l', as', hx', hp', _, _, hrow'⟩ := O.right G
  have m6 := G.m6
  rw [hx] at hx'
  cases hx'
  obtain ⟨b0, hb0, hb02, hb03⟩ := hrow' 0 G.g.pos
  walk_at "go"
  have wk := walk_list (K := K) (a := pg) (xs := rowV goals)
  refine lc_inv (ls := rowV goals) wk (fun D i acc H' => Same H H' ∧ ∃ ps : List Addr, acc = refs ps ∧ ∀ (j : Nat) (a : Addr), ps[j]? = some a → H' a = some (.tup [vI (goals.getD j 0), .bl true])) (by rw [rowV_len]; omega) (fun _ => rfl) (fun D i acc H' ⟨s, _⟩ => SqL.of (s _ _ hg)) (fun D nD => ⟨Same.new nD, [], rfl, fun j a e => by simp at e⟩) ?_ ?_
  · rintro D i v acc H1 Q1 hv nD hacc ⟨s1, ps, rfl, hps⟩ hD kk1
    have hi : i < goals.length := by
      have := (List.getElem?_eq_some_iff.mp hv).1
      rwa [rowV_len] at this
    rw [rowV_get hi] at hv
    cases hv
    rw [refs_len] at hacc
    walk_at "go"
    intro q nq
    have hD1 := (Same.new (o := .tup [vI (goals.getD i 0), .bl true]) nq) _ _ hD
    refine kk1 _ _ hD1 ⟨Same.updN (s1.trans (Same.new nq)) nD, ps ++ [q], refs_snoc.symm, fun j a e => ?_⟩
    have hqD : q ≠ D := (ne_of_none hD nq).symm
    by_cases hj : j < ps.length
    · rw [List.getElem?_append_left hj] at e
      have h9 := (Same.new (o := .tup [vI (goals.getD i 0), .bl true]) nq) _ _ (hps j a e)
      rw [upd_ne (ne_of h9 hD1 (fun z => nomatch z))]; exact h9
    · have hj2 : j = ps.length := by
        have := (List.getElem?_eq_some_iff.mp e).1
        simp at this; omega
      subst hj2
      rw [List.getElem?_append_right (Nat.le_refl _), Nat.sub_self] at e
      cases e
      rw [upd_ne hqD, hacc]
      exact upd_same
  · rintro D acc H1 nD hacc ⟨s1, ps, rfl, hps⟩ hD
    walk_at "go"
    rw [refs_len, rowV_len] at hacc
    refine ⟨D, ps, _, rfl, SqL.of hD, paired_knownI ps _ hacc hps, ?_⟩
    intro dk ndk
    have sd : Same H (L2.upd H1 dk (.dK (knownI goals))) := s1.trans (Same.new ndk)
    have hdk : (L2.upd H1 dk (.dK (knownI goals))) dk = some (.dK (knownI goals)) := upd_same
    show gName 3 _ _ (L2.upd H1 dk (.dK (knownI goals))) _
    generalize L2.upd H1 dk (.dK (knownI goals)) = H2 at *
    walk_at "go"
    refine rd_qFld Z.cl (sd _ _ hx) Z.n_right rfl ?_
    walk_at "go"
    refine rd_ixT (SqT.of (sd _ _ hp')) (at_vI (n := 0) (getElem?_refs hb0)) ?_
    walk_at "go"
    refine rd_lenT (SqT.of (sd _ _ hb02)) ?_
    rw [hb03]
    walk_at "go"
    refine forR (n := m) (fun c σ' H' => ∃ v4 v5 v6 v7, σ' = [some (.ref a), some (.ref pn), some (.ref pg), some (.ref dk), v4, v5, v6, v7] ∧ Same H2 H' ∧ ∀ c', c' < c → ledBy T m N nums goals c' = []) ⟨_, _, _, _, rfl, Same.refl _, fun c hc => absurd hc (Nat.not_lt_zero _)⟩ ?_ ?_
    · rintro c σ' H3 hc ⟨v4, v5, v6, v7, rfl, s3, hmin⟩
      have s03 := sd.trans s3
      walk_at "go"
      refine rd_qIl (SqL.of (s03 _ _ hn)) ?_
      refine lcL nums vI (SqL.of (s03 _ _ hn)) (fun y => decide (sl T m N y c ∈ goals)) vI (by omega) (fun _ => rfl) ?_ ?_ ?_
      · intro y hy H4 s4 Q4 q4
        obtain ⟨b, hb, hb2, hb3⟩ := hrow y (hlt y hy)
        have s04 := s03.trans s4
        walk_at "go"
        refine rd_qFld Z.cl (s04 _ _ hx) Z.n_lefts rfl ?_
        walk_at "go"
        refine rd_ixT (SqT.of (s04 _ _ hp)) (at_vI (getElem?_refs hb)) ?_
        walk_at "go"
        rw [Int.zero_add]
        refine rd_ixT (SqT.of (s04 _ _ hb2)) (at_vI (rowV_get (by rw [hb3]; exact hc))) ?_
        walk_at "go"
        refine rd_inKI ((s3.trans s4) _ _ hdk) ?_
        walk_at "go"
        exact q4 _ (Same.refl _)
      · intro y hy _ H4 s4 Q4 q4
        walk_at "go"
        exact q4 _ (Same.refl _)
      · intro D4 H4 nD4 s4 hD4
        have hD4' : H4 D4 = some (.lst (rowV (ledBy T m N nums goals c))) := hD4
        have s04 := s03.trans s4
        walk_at "go"
        intro p5 np5
        have s5 := s4.trans (Same.new (o := .lst []) np5)
        have hD5 := (Same.new (o := .lst []) np5) _ _ hD4'
        have hp5 : (L2.upd H4 p5 (.lst [])) p5 = some (.lst []) := upd_same
        generalize L2.upd H4 p5 (.lst []) = H5 at *
        walk_at "go"
        refine rd_neLI (ns := (ledBy T m N nums goals c).map fun n : Nat => (n : Int)) (ms := []) (SqL.of (by rw [← rowV_int]; exact hD5)) (SqL.of hp5) ?_
        walk_at "go"
        by_cases hne : ledBy T m N nums goals c = []
        · rw [hne]
          walk_at "go"
          refine ⟨_, _, _, _, rfl, s3.trans s5, fun c' hc' => ?_⟩
          by_cases e : c' = c
          · rw [e]; exact hne
          · exact hmin c' (by omega)
        · have hd : decide ((ledBy T m N nums goals c).map (fun n : Nat => (n : Int)) = []) = false := decide_eq_false fun e => hne (List.map_eq_nil_iff.mp e)
          rw [hd]
          walk_at "go"
          intro t6 nt6
          rw [Int.zero_add]
          exact k t6 D4 c _ ((s03.trans s5).trans (Same.new nt6)) hc hne hmin upd_same (Same.nn s03 nD4) ((Same.new nt6) _ _ hD5)
    · rintro σ' H3 ⟨v4, v5, v6, v7, rfl, s3, hmin⟩
      obtain ⟨l0, h1, h2⟩ := hex
      exact absurd (hmin l0 h1) h2
theorem rd_iItems {td : TE} {σ : St} {H : Hp} {R : It → Hp → Prop} (h : td σ H fun x H1 => ∃ d o kvs, x = .ref d ∧ H1 d = some (.frz o (.dK kvs)) ∧ R (Iti d o kvs) H1) : iItems td σ H R := h
theorem layer_snoc (ks : Kw) (p : Nat × List Nat) (k : Nat) : layer (ks ++ [p]) k = if p.2.length = k then layer ks k ++ [p.1] else layer ks k := by
  unfold layer
  rw [List.filter_append, List.map_append]
  by_cases h : p.2.length = k
  · simp [h]
  · simp [h]
theorem layer_len (ks : Kw) (k : Nat) : (layer ks k).length ≤ ks.length := by
  unfold layer
  rw [List.length_map]
  exact List.length_filter_le _ _
/-- the dict of layers -/
def LD (Hb H : Hp) (ld : Addr) (ks : Kw) : Prop := ∃ (kvs : List (Key × V)) (pf : Nat → Addr), H ld = some (.dK kvs) ∧ kvs.length ≤ ks.length ∧ (∀ k, layer ks k = [] → valV kvs (kI k) = none) ∧
  (∀ k, layer ks k ≠ [] → valV kvs (kI k) = some (.ref (pf k)) ∧ H (pf k) = some (.lst (rowV (layer ks k))) ∧ Hb (pf k) = none) ∧ ∀ k k', layer ks k ≠ [] → layer ks k' ≠ [] → pf k = pf k' → k = k'
theorem LD.keep {Hb H H' : Hp} {ld : Addr} {ks : Kw} (h : LD Hb H ld ks) (s : Same H H') : LD Hb H' ld ks := let ⟨kvs, pf, h1, h2, h3, h4, h5⟩ := h; ⟨kvs, pf, s _ _ h1, h2, h3, fun k hk => let ⟨a, b, c⟩ := h4 k hk; ⟨a, s _ _ b, c⟩, h5⟩
section
variable {Hb H : Hp} {ld : Addr} {ks : Kw} {kvs : List (Key × V)} {pf : Nat → Addr} {p : Nat × List Nat}
theorem layer_ne {k : Nat} (h : layer (ks ++ [p]) k ≠ []) (hn : k ≠ p.2.length) : layer ks k ≠ [] := by
  rw [layer_snoc, if_neg hn.symm] at h; exact h
theorem LD.old (l1 : H ld = some (.dK kvs)) (l2 : kvs.length ≤ ks.length) (l3 : ∀ k, layer ks k = [] → valV kvs (kI k) = none)
    (l4 : ∀ k, layer ks k ≠ [] → valV kvs (kI k) = some (.ref (pf k)) ∧ H (pf k) = some (.lst (rowV (layer ks k))) ∧ Hb (pf k) = none) (l5 : ∀ k k', layer ks k ≠ [] → layer ks k' ≠ [] → pf k = pf k' → k = k')
    (hne : layer ks p.2.length ≠ []) : LD Hb (L2.upd H (pf p.2.length) (.lst (rowV (layer ks p.2.length) ++ [vI p.1]))) ld (ks ++ [p]) := by
  obtain ⟨q1, q2, q3⟩ := l4 _ hne
  have hnk : ∀ k, layer (ks ++ [p]) k ≠ [] → layer ks k ≠ [] := fun k h => by
    by_cases e : k = p.2.length
    · rw [e]; exact hne
    · exact layer_ne h e
  refine ⟨kvs, pf, by rw [upd_ne (ne_of l1 q2 (fun z => nomatch z))]; exact l1, by rw [List.length_append]; omega, fun k hk => ?_, fun k hk => ?_, fun k k' h1 h2 => l5 k k' (hnk k h1) (hnk k' h2)⟩
  · rw [layer_snoc] at hk
    by_cases e : p.2.length = k
    · rw [if_pos e] at hk; simp at hk
    · rw [if_neg e] at hk; exact l3 k hk
  · have h0 := hnk k hk
    obtain ⟨r1, r2, r3⟩ := l4 k h0
    refine ⟨r1, ?_, r3⟩
    rw [layer_snoc]
    by_cases e : p.2.length = k
    · rw [if_pos e, ← e, upd_same, rowV_snoc]
    · rw [if_neg e, upd_ne (fun z => e (l5 _ _ h0 hne z).symm)]
      exact r2
theorem LD.new {e0 : Addr} (l1 : H ld = some (.dK kvs)) (l2 : kvs.length ≤ ks.length) (l3 : ∀ k, layer ks k = [] → valV kvs (kI k) = none)
    (l4 : ∀ k, layer ks k ≠ [] → valV kvs (kI k) = some (.ref (pf k)) ∧ H (pf k) = some (.lst (rowV (layer ks k))) ∧ Hb (pf k) = none) (l5 : ∀ k k', layer ks k ≠ [] → layer ks k' ≠ [] → pf k = pf k' → k = k')
    (hnil : layer ks p.2.length = []) (he0 : e0 ≠ ld) (heb : Hb e0 = none) (hel : ∀ k, layer ks k ≠ [] → pf k ≠ e0) : LD Hb (L2.upd (L2.upd H ld (.dK (putK kvs (kI p.2.length) (.ref e0)))) e0 (.lst [vI p.1])) ld (ks ++ [p]) := by
  refine ⟨putK kvs (kI p.2.length) (.ref e0), fun k => if k = p.2.length then e0 else pf k, by rw [upd_ne he0.symm, upd_same], by have := length_putK kvs (kI p.2.length) (V.ref e0); rw [List.length_append]; show _ ≤ _ + 1; omega, fun k hk => ?_, fun k hk => ?_, fun k k' h1 h2 e => ?_⟩
  · rw [layer_snoc] at hk
    by_cases e : p.2.length = k
    · rw [if_pos e] at hk; simp at hk
    · rw [if_neg e] at hk
      rw [valV_put, if_neg (fun z => e (kI_inj.mp z).symm)]
      exact l3 k hk
  · by_cases e : k = p.2.length
    · dsimp only
      rw [if_pos e]
      subst e
      refine ⟨by rw [valV_put, if_pos rfl], ?_, heb⟩
      rw [upd_same, layer_snoc, if_pos rfl, hnil]
      rfl
    · dsimp only
      rw [if_neg e]
      have h0 := layer_ne hk e
      obtain ⟨r1, r2, r3⟩ := l4 k h0
      refine ⟨by rw [valV_put, if_neg (fun z => e (kI_inj.mp z))]; exact r1, ?_, r3⟩
      rw [upd_ne (hel k h0), upd_ne (ne_of r2 l1 (fun z => nomatch z)), layer_snoc, if_neg (fun z => e z.symm)]
      exact r2
  · dsimp only at e
    by_cases e1 : k = p.2.length
    · by_cases e2 : k' = p.2.length
      · rw [e1, e2]
      · rw [if_pos e1, if_neg e2] at e
        exact absurd e.symm (hel k' (layer_ne h2 e2))
    · by_cases e2 : k' = p.2.length
      · rw [if_neg e1, if_pos e2] at e
        exact absurd e (hel k (layer_ne h1 e1))
      · rw [if_neg e1, if_neg e2] at e
        exact l5 k k' (layer_ne h1 e1) (layer_ne h2 e2) e
end
theorem ok_Monoid_least_left {f : Addr} {fd : FuncData} {z : Zed} (Z : Zok K mg z) (F : Fun K "least_left" "Monoid.least_left" s_Monoid_least_left f fd) (T : Txt K mg) (C_Monoid_check_number : C8.Met P w K mg base 2 z.C "check_number" (sp_Monoid_check_number z K) []) (C_Monoid_layers_left : C8.Met P w K mg base 1 z.C "layers_left" (sp_Monoid_layers_left z K) []) (C_Monoid_first_led : C8.Met P w K mg base 1 z.C "first_led" (sp_Monoid_first_led z K) []) : FnOk P w K mg base CX0 3 f fd ["self", "one", "other"] (sp_Monoid_least_left z K) := by
  refine F.ok sc_Monoid_least_left (fun vs H Q E h => by repeat (first | (obtain ⟨rfl, _⟩ := h; rfl) | obtain ⟨_, h⟩ := h)) (fun cdv A outer s H vs Q E hr h => ?_)
  refine ⟨_, (pss_cons (ps_expr (C8.pe_mt C_Monoid_check_number hr (by decide) (pv 0) (pa_cons (pv 1) pa_nil)))
  (pss_cons (ps_expr (C8.pe_mt C_Monoid_check_number hr (by decide) (pv 0) (pa_cons (pv 2) pa_nil)))
  (pss_cons (ps_set (i := 3) sc_Monoid_least_left.nd rfl (Or.inl rfl) (C8.pe_mt C_Monoid_layers_left hr (by decide) (pv 0) (pa_cons (pv 1) pa_nil)))
  (pss_cons (ps_if (pt_cmp (pc_dnotin (hu_of hr) (pv 2) (pv 3))) (pss_one (ps_ret pe_non)) pss_nil)
  (pss_cons (ps_par3 (i := 4) (j := 5) (l := 6) rfl sc_Monoid_least_left.nd rfl rfl rfl (by decide) (by decide) (by decide) rfl rfl rfl (pa_cons (pe_lst (pa_cons (pv 2) pa_nil)) (pa_cons (pe_strS [] rfl) (pa_cons pe_dnewK pa_nil))) (by rfl))
  (pss_cons (ps_lock (ps_for PassesOwn.never rfl (pi_items (pv 3)) (pg_two (i := 7) (j := 8) K rfl rfl sc_Monoid_least_left.nd rfl (Or.inl rfl) rfl (Or.inl rfl))
  (pss_one (ps_expr (pe_bm PySem.F.plainAttrs_list PySem.F.slot_list_append PySem.F.type_list_append mt_append (pe_dsetd (pv 6) (pv 8) (pe_lst pa_nil) ⟨rfl, rfl, rfl, rfl⟩) (pa_cons (pv 7) pa_nil))))))
  (pss_cons (ps_for PassesOwn.never rfl (pi_range3 rfl T.n_range (pa_cons (pe_op op_sub (pe_dget (hu_of hr) (pv 3) (pv 2) (fun _ _ => rfl)) pe_int) (pa_cons (pe_un un_neg pe_int) (pa_cons (pe_un un_neg pe_int) pa_nil)))) (pg_name (i := 8) sc_Monoid_least_left.nd rfl (Or.inl rfl))
  (pss_cons (ps_asg (C8.pe_mt C_Monoid_first_led hr (by decide) (pv 0) (pa_cons (pe_dget (hu_of hr) (pv 6) (pv 8) (fun _ _ => rfl)) (pa_cons (pv 4) pa_nil))) (pg_two (i := 9) (j := 4) K rfl rfl sc_Monoid_least_left.nd rfl (Or.inl rfl) rfl (Or.inl rfl)))
  (pss_one (ps_set (i := 5) sc_Monoid_least_left.nd rfl (Or.inl rfl) (pe_op oq_addS (pv 5) (pe_ix ix_str (C8.pe_gc rfl T.c_LETTERS) (pv 9) (fun _ _ => rfl)))))))
  (pss_one (ps_ret (pv 5)))))))))), ?_⟩
  try dsimp only [cxOf, Cx.nox, Cx.wish]
  obtain ⟨a, me, T, m, N, x, y, rfl, O, G, hx0, hy0, k⟩ := h
  obtain ⟨dx, r, t, l, as, hx, hp, hrow⟩ := O.left G
  walk_at "go"
  refine ⟨a, dx, _, rfl, hx, rfl, ?_⟩
  walk_at "go"
  refine ⟨a, me, T, m, N, x, rfl, O, G, hx0, fun H1 s1 => ?_⟩
  have O1 := O.same s1
  walk_at "go"
  refine ⟨a, dx, _, rfl, s1 _ _ hx, rfl, ?_⟩
  walk_at "go"
  refine ⟨a, me, T, m, N, y, rfl, O1, G, hy0, fun H2 s2 => ?_⟩
  have s02 := s1.trans s2
  have O2 := O1.same s2
  walk_at "go"
  refine ⟨a, dx, _, rfl, s02 _ _ hx, rfl, ?_⟩
  walk_at "go"
  refine ⟨a, me, T, m, N, x, rfl, O2, G, hx0, fun fa kw H3 nfa s3 B h3 => ?_⟩
  have s03 := s02.trans s3
  walk_at "go"
  refine rd_notInKw B.nd h3 ?_
  walk_at "go"
  by_cases hy : y ∈ keys kw
  · rw [decide_eq_true hy]
    obtain ⟨py, hpy, epy⟩ := mem_keys.mp hy
    have F : Far T m N kw x y py.2.length := ⟨G.g, G.p, B, hx0, mem_layer.mpr ⟨py, hpy, epy, rfl⟩⟩
    have hkl := (B.len_le hx0 fun n c hn hc => G.g.sl_lt hn hc).1
    have hdl : py.2.length ≤ N := by
      obtain ⟨i, hi⟩ := List.mem_iff_getElem?.mp hpy
      have := B.ln i py hi
      have := (List.getElem?_eq_some_iff.mp hi).1
      omega
    have hle := G.le
    walk_at "go"
    intro ga nga
    walk_at "go"
    intro ld nld
    have s5 : Same H3 (L2.upd (L2.upd H3 ga (.lst [vI y])) ld (.dK [])) := (Same.new nga).trans (Same.new nld)
    have hga5 : (L2.upd (L2.upd H3 ga (.lst [vI y])) ld (.dK [])) ga = some (.lst (rowV [y])) := (Same.new nld) _ _ upd_same
    have hld5 : (L2.upd (L2.upd H3 ga (.lst [vI y])) ld (.dK [])) ld = some (.dK []) := upd_same
    have nldH : H3 ld = none := Same.nn (Same.new nga) nld
    have hfa5 := s5 _ _ h3
    have hgl : ga ≠ ld := ne_of_none (show (L2.upd H3 ga (.lst [vI y])) ga = some (.lst [vI y]) from upd_same) nld
    have hgf : ga ≠ fa := (ne_of_none h3 nga).symm
    have hlf : ld ≠ fa := (ne_of_none h3 nldH).symm
    generalize L2.upd (L2.upd H3 ga (.lst [vI y])) ld (.dK []) = H5 at *
    walk_at "go"
    refine ⟨_, _, _, rfl, ?_⟩
    walk_at "go"
    refine ⟨fa, .dK (lenK kw), hfa5, trivial, fun od => ?_⟩
    have hfb : (L2.upd H5 fa (.frz od (.dK (lenK kw)))) fa = some (.frz od (.dK (lenK kw))) := upd_same
    have hgb : (L2.upd H5 fa (.frz od (.dK (lenK kw)))) ga = some (.lst (rowV [y])) := by rw [upd_ne hgf]; exact hga5
    have hlb : (L2.upd H5 fa (.frz od (.dK (lenK kw)))) ld = some (.dK []) := by rw [upd_ne hlf]; exact hld5
    have xb : ∀ b o, H3 b = some o → b ≠ fa → (L2.upd H5 fa (.frz od (.dK (lenK kw)))) b = some o := fun b o e n => by rw [upd_ne n]; exact s5 _ _ e
    generalize L2.upd H5 fa (.frz od (.dK (lenK kw))) = Hb at *
    walk_at "go"
    refine rd_iItems ?_
    walk_at "go"
    refine ⟨fa, od, lenK kw, rfl, hfb, ?_⟩
    refine forP (n := kw.length) (by have := walk_items (d := fa) (o := od) (kvs := lenK kw); rw [kwK_len] at this; exact this) (fun i σ' H' => ∃ v7 v8 v9, σ' = [some (.ref a), some (vI x), some (vI y), some (.ref fa), some (.ref ga), some (.str (S [])), some (.ref ld), v7, v8, v9] ∧ ExB ld Hb H' ∧ LD Hb H' ld (kw.take i)) ⟨_, _, _, rfl, ExB.refl _ _, [], fun _ => ga, hlb, Nat.le_refl _, fun _ _ => rfl, fun k hk => absurd rfl hk, fun k k' hk => absurd rfl hk⟩ (fun i σ' H' _ ⟨_, _, _, _, X, _⟩ => X _ _ hlf.symm hfb) ?_ ?_
    · rintro i σ' H6 T1 v w' hi ⟨v7, v8, v9, rfl, X6, L6⟩ nT hv hw'
      have hpi : kw[i]? = some kw[i] := List.getElem?_eq_getElem hi
      generalize kw[i] = pi at hpi
      have hkv : (lenK kw)[i]? = some (kI pi.1, vI pi.2.length) := by
        show (List.map _ kw)[i]? = _
        rw [List.getElem?_map, hpi]; rfl
      rw [hkv] at hv hw'
      cases hv
      cases hw'
      have et : kw.take (i + 1) = kw.take i ++ [pi] := by rw [List.take_succ, hpi]; rfl
      have X7 := X6.trans (ExB.new (h := ld) (o := .tup [kV (kI pi.1), vI pi.2.length]) nT)
      have L7 := L6.keep (Same.new (o := .tup [kV (kI pi.1), vI pi.2.length]) nT)
      dsimp only
      generalize L2.upd H6 T1 (.tup [kV (kI pi.1), vI pi.2.length]) = H7 at *
      obtain ⟨kvs, pf, l1, l2, l3, l4, l5⟩ := L7
      have htk : (kw.take i).length ≤ kw.length := by rw [List.length_take]; omega
      walk_at "go"
      refine rd_dg0K l1 ?_
      walk_at "go"
      intro e0 ne0
      have nl : e0 ≠ ld := (ne_of_none l1 ne0).symm
      refine ⟨kvs, kI pi.2.length, by rw [upd_ne nl.symm]; exact l1, rfl, szlt (by omega), fun vv hvv => ?_, fun hnn => ?_⟩
      · have hne : layer (kw.take i) pi.2.length ≠ [] := fun e => by rw [l3 _ e] at hvv; cases hvv
        obtain ⟨q1, q2, q3⟩ := l4 _ hne
        rw [q1] at hvv
        cases hvv
        have s8 : Same H7 (L2.upd H7 e0 (.lst [])) := Same.new ne0
        have hll := layer_len (kw.take i) pi.2.length
        refine ⟨tyL (s8 _ _ q2), ?_⟩
        walk_at "go"
        refine rd_app (s8 _ _ q2) (by rw [rowV_len]; omega) ?_
        rw [et]
        exact ⟨_, _, _, rfl, ExB.mut (X7.trans (ExB.new ne0)) q3, LD.old (s8 _ _ l1) l2 l3 (fun k hk => let ⟨a1, a2, a3⟩ := l4 k hk; ⟨a1, s8 _ _ a2, a3⟩) l5 hne⟩
      · have hnil : layer (kw.take i) pi.2.length = [] := by
          by_cases e : layer (kw.take i) pi.2.length = []
          · exact e
          · rw [(l4 _ e).1] at hnn; cases hnn
        have s8 : Same H7 (L2.upd H7 e0 (.lst [])) := Same.new ne0
        have heb : Hb e0 = none := by
          cases e : Hb e0 with
          | none => rfl
          | some o => rw [X7 _ _ nl e] at ne0; cases ne0
        have he8 : (L2.upd (L2.upd H7 e0 (.lst [])) ld (.dK (putK kvs (kI pi.2.length) (.ref e0)))) e0 = some (.lst []) := by rw [upd_ne nl]; exact upd_same
        refine ⟨tyL he8, ?_⟩
        walk_at "go"
        refine rd_app he8 (by decide) ?_
        rw [et]
        exact ⟨_, _, _, rfl, ExB.mut ((X7.trans (ExB.new ne0)).trans ExB.upd) heb, LD.new (s8 _ _ l1) l2 l3 (fun k hk => let ⟨a1, a2, a3⟩ := l4 k hk; ⟨a1, s8 _ _ a2, a3⟩) l5 hnil nl heb (fun k hk => ne_of_none (l4 k hk).2.1 ne0)⟩
    · rintro σ' H6 ⟨v7, v8, v9, rfl, X6, L6⟩
      rw [List.take_length] at L6
      refine ⟨X6 _ _ hlf.symm hfb, ?_⟩
      obtain ⟨kvs, pf, l1, _, _, l4, _⟩ := L6
      have hfu : (L2.upd H6 fa (.dK (lenK kw))) fa = some (.dK (lenK kw)) := upd_same
      have hlu : (L2.upd H6 fa (.dK (lenK kw))) ld = some (.dK kvs) := by rw [upd_ne hlf]; exact l1
      have hgu : (L2.upd H6 fa (.dK (lenK kw))) ga = some (.lst (rowV [y])) := by rw [upd_ne hgf]; exact X6 _ _ hgl hgb
      have hpu : ∀ k, layer kw k ≠ [] → valV kvs (kI k) = some (.ref (pf k)) ∧ (L2.upd H6 fa (.dK (lenK kw))) (pf k) = some (.lst (rowV (layer kw k))) := fun k hk => by
        obtain ⟨q1, q2, q3⟩ := l4 k hk
        refine ⟨q1, ?_⟩
        rw [upd_ne (fun e => by rw [e, hfb] at q3; cases q3)]
        exact q2
      have su : Same H (L2.upd H6 fa (.dK (lenK kw))) := fun b o e => by
        have e2 := s02 _ _ e
        have nf : b ≠ fa := ne_of_none e2 nfa
        have e3 := s3 _ _ e2
        rw [upd_ne nf]
        exact X6 _ _ (ne_of_none e3 nldH) (xb _ _ e3 nf)
      generalize L2.upd H6 fa (.dK (lenK kw)) = Hu at *
      have hfy : valV (lenK kw) (kI y) = some (vI py.2.length) := by
        have := kw_some (f := fun q => vI q.2.length) kw B.nd hpy
        rw [epy] at this
        exact this
      walk_at "go"
      refine rd_qGetK (kI y) hfu hfy ?_
      walk_at "go"
      rw [show ((py.2.length : Int) - 1 - -1).toNat = py.2.length by omega]
      refine forRC (n := py.2.length) (fun i σ' H' => ∃ (gd : Addr) (goals word : List Nat) (v7 v8 v9 : Option V), σ' = [some (.ref a), some (vI x), some (vI y), some (.ref fa), some (.ref gd), some (.str (S word)), some (.ref ld), v7, v8, v9] ∧ Lg T m N kw x y py.2.length (py.2.length - i) word goals ∧ H' gd = some (.lst (rowV goals)) ∧ goals.length ≤ 2000 ∧ Same Hu H') ⟨ga, [y], [], _, _, _, rfl, F.start, hgu, by simp, Same.refl _⟩ ?_ ?_
      · rintro i σ' H7 hi ⟨gd, goals, word, v7, v8, v9, rfl, L, hgd, hgl2, s7⟩
        have ek : py.2.length - i = (py.2.length - (i + 1)) + 1 := by omega
        rw [ek] at L
        obtain ⟨c0, hc0, hc1⟩ := F.led_ne L
        have hlk : layer kw (py.2.length - (i + 1)) ≠ [] := fun e => by
          unfold ledBy at hc1
          rw [e] at hc1
          exact hc1 rfl
        obtain ⟨q1, q2⟩ := hpu _ hlk
        have hll := layer_len kw (py.2.length - (i + 1))
        have s07 := su.trans s7
        have O7 := O.same s07
        have eint : ((py.2.length : Int) - 1 + (i : Int) * -1) = ((py.2.length - (i + 1) : Nat) : Int) := by omega
        have hwl := L.wl
        walk_at "go"
        rw [eint]
        refine ⟨a, dx, _, rfl, s07 _ _ hx, rfl, ?_⟩
        walk_at "go"
        refine rd_qGetK (kI (py.2.length - (i + 1))) (s7 _ _ hlu) q1 ?_
        walk_at "go"
        refine ⟨a, me, pf (py.2.length - (i + 1)), gd, T, m, N, layer kw (py.2.length - (i + 1)), goals, rfl, O7, G, s7 _ _ q2, hgd, fun z hz => F.lay_lt hz, by omega, hgl2, ⟨c0, hc0, hc1⟩, fun t8 q8 c8 H8 s8 hc8 hne8 hmin8 ht8 nq8 hq8 => ?_⟩
        have hstep := F.step L hc8 hne8 hmin8
        have hlb : (ledBy T m N (layer kw (py.2.length - (i + 1))) goals c8).length ≤ 2000 := by
          have := List.length_filter_le (fun y => decide (sl T m N y c8 ∈ goals)) (layer kw (py.2.length - (i + 1)))
          unfold ledBy
          omega
        walk_at "go"
        refine rd_g2 (SqT.of ht8) ?_
        walk_at "go"
        refine rd_ixS (by decide) (lett (Nat.lt_of_lt_of_le hc8 G.m6)) ?_
        walk_at "go"
        refine rd_cat (by rw [hwl]; show _ + 1 ≤ 100000; omega) ?_
        walk_at "go"
        exact ⟨q8, _, word ++ [97 + c8], _, _, _, rfl, hstep, hq8, hlb, s7.trans s8⟩
      · rintro σ' H7 ⟨gd, goals, word, v7, v8, v9, rfl, L, hgd, _, s7⟩
        rw [Nat.sub_self] at L
        walk_at "go"
        exact k (some word) H7 (F.fin L) (su.trans s7)
  · rw [decide_eq_false hy]
    walk_at "go"
    refine k none H3 ⟨(fun w e => by cases e), fun _ v hv e => ?_⟩ s03
    have hr : Lt m v.reverse := fun x hx => hv x (List.mem_reverse.mp hx)
    exact (B.unknown hy).2 rfl v.reverse hr ((G.g.la_go G.p hx0 hv).symm.trans e)
end
end My
namespace My
open PySem PySem.Spec L2 SX LamX Mon
open PyProof.Rows hiding St
local macro_rules | `(tactic| walk_at "kb") => `(tactic| first | exact kb_str_str | exact kb_str_int | exact kb_str_bool | exact kb_str_list | exact kb_str_tuple | exact kb_int_str | exact kb_int_int | exact kb_int_bool | exact kb_int_list | exact kb_int_tuple | exact kb_bool_str | exact kb_bool_int | exact kb_bool_bool | exact kb_bool_list | exact kb_bool_tuple | exact kb_list_str | exact kb_list_int | exact kb_list_bool | exact kb_list_list | exact kb_list_tuple | exact kb_tuple_str | exact kb_tuple_int | exact kb_tuple_bool | exact kb_tuple_list | exact kb_tuple_tuple | exact kb_NoneType_str | exact kb_NoneType_int | exact kb_NoneType_bool | exact kb_NoneType_list | exact kb_NoneType_tuple)
local macro_rules | `(tactic| walk_at "hp") => `(tactic| first | assumption | exact upd_same | (refine (upd_ne (by first | assumption | (apply Ne.symm; assumption))).trans ?_; walk_at "hp"))
local macro_rules | `(tactic| walk_at "sq") => `(tactic| first | assumption | exact SqL.of (by walk_at "hp"))
local macro_rules | `(tactic| walk_at "sqt") => `(tactic| first | assumption | exact SqT.of (by walk_at "hp"))
local macro_rules | `(tactic| walk_at "ar") => `(tactic| first | omega | (dsimp only; omega) | (unfold CMul; omega) | (unfold CDiv; omega) | (unfold CPow; refine ⟨?_, ?_, ?_⟩ <;> decide) | (simp only [List.length_cons, List.length_nil]; decide))
local macro_rules | `(tactic| walk_at "rd") => `(tactic| first
  | with_reducible refine rd_seq ?_
  | with_reducible refine rd_asg ?_
  | with_reducible refine rd_if ?_
  | with_reducible refine rd_ret ?_
  | with_reducible refine rd_drop ?_
  | with_reducible refine rd_name ?_
  | with_reducible refine rd_sub ?_
  | ((with_reducible refine' rd_var ?e ?_); (case e => exact rfl))
  | with_reducible refine rd_c ?_
  | with_reducible refine rd_op ?_
  | with_reducible refine rd_un ?_
  | with_reducible refine rd_I0 ?_
  | ((with_reducible refine' rd_I ?c ?_); (case c => walk_at "ar"))
  | with_reducible refine rd_U ?_
  | with_reducible refine rd_eqI ?_
  | with_reducible refine rd_neI ?_
  | with_reducible refine rd_eqS ?_
  | with_reducible refine rd_neS ?_
  | with_reducible refine rd_eqB ?_
  | with_reducible refine rd_neB ?_
  | with_reducible refine rd_test ?_
  | with_reducible refine rd_B ?_
  | with_reducible refine rd_and ?_
  | with_reducible refine rd_or ?_
  | with_reducible refine rd_not ?_
  | with_reducible refine rd_andV ?_
  | with_reducible refine rd_orV ?_
  | with_reducible refine rd_notV ?_
  | with_reducible refine rd_ifE ?_
  | with_reducible refine rd_isN ?_
  | with_reducible refine rd_notN ?_
  | with_reducible refine rd_cons ?_
  | with_reducible refine rd_nil ?_
  | with_reducible refine rd_lst ?_
  | with_reducible refine rd_tup ?_
  | with_reducible refine rd_CB ?_
  | with_reducible refine rd_call ?_
  | with_reducible refine rd_sl ?_
  | with_reducible refine rd_part ?_
  | with_reducible refine rd_nopart ?_
  | with_reducible refine rd_par ?_
  | with_reducible refine rd_two ?_
  | with_reducible refine rd_next ?_
  | with_reducible refine rd_retN ?_
  | with_reducible refine rd_bool ?_
  | with_reducible refine rd_int ?_
  | with_reducible refine rd_intI ?_
  | with_reducible refine rd_intB ?_
  | with_reducible refine rd_ltS ?_
  | with_reducible refine rd_leS ?_
  | with_reducible refine rd_gtS ?_
  | with_reducible refine rd_geS ?_
  | with_reducible refine rd_inC ?_
  | with_reducible refine rd_notInC ?_
  | with_reducible refine rd_abs ?_
  | with_reducible refine rd_max2 ?_
  | with_reducible refine rd_min2 ?_
  | with_reducible refine rd_M1 ?_
  | with_reducible refine rd_isStr ?_
  | ((with_reducible refine' rd_len ?b ?_); (case b => (simp only [List.length_cons, List.length_nil]; decide)))
  | ((with_reducible refine' rd_listS ?b ?_); (case b => first | (simp only [List.length_take, List.length_cons, List.length_nil]; omega) | omega))
  | ((with_reducible refine' rd_isi ?ty ?h ?_); (case ty => first | exact ty_str | exact ty_int | exact ty_bl | exact ty_non | exact ty_lst (by walk_at "hp") | exact ty_tup (by walk_at "hp")); (case h => walk_at "kb"))
  | with_reducible refine rd_lc ?_
  | with_reducible refine rd_for ?_
  | with_reducible refine rd_iList ?_
  | with_reducible refine rd_iTup ?_
  | with_reducible refine rd_iRng1 ?_
  | with_reducible refine rd_iRng2 ?_
  | with_reducible refine rd_iRng3 ?_
  | with_reducible refine rd_iStr ?_
  | with_reducible refine rd_qIs ?_
  | with_reducible refine rd_whb ?_
  | ((with_reducible refine' rd_qIl ?sq ?_); (case sq => walk_at "sq"))
  | ((with_reducible refine' rd_qItu ?sq ?_); (case sq => walk_at "sqt"))
  | ((with_reducible refine' rd_qIr1 ?b1 ?b2 ?_); (case b1 => walk_at "ar"); (case b2 => walk_at "ar"))
  | ((with_reducible refine' rd_qIr2 ?b1 ?b2 ?b3 ?b4 ?_); (case b1 => walk_at "ar"); (case b2 => walk_at "ar"); (case b3 => walk_at "ar"); (case b4 => walk_at "ar"))
  | ((with_reducible refine' rd_qIr3 ?b1 ?b2 ?b3 ?b4 ?_); (case b1 => walk_at "ar"); (case b2 => walk_at "ar"); (case b3 => walk_at "ar"); (case b4 => walk_at "ar"))
  | ((with_reducible refine' rd_mulS ?b1 ?b2 ?b3 ?_); (case b1 => walk_at "ar"); (case b2 => walk_at "ar"); (case b3 => walk_at "ar"))
  | ((with_reducible refine' rd_slS_to ?b1 ?b2 ?_); (case b1 => walk_at "ar"); (case b2 => walk_at "ar"))
  | ((with_reducible refine' rd_slS_from ?b1 ?b2 ?_); (case b1 => walk_at "ar"); (case b2 => walk_at "ar"))
  | ((with_reducible refine' rd_slS_mid ?b1 ?b2 ?b3 ?b4 ?_); (case b1 => walk_at "ar"); (case b2 => walk_at "ar"); (case b3 => walk_at "ar"); (case b4 => walk_at "ar"))
  | ((with_reducible refine' rd_slL ?sq ?_); (case sq => walk_at "sq"))
  | with_reducible refine rd_true ?_
  | with_reducible refine rd_false ?_
  | with_reducible refine rd_nt ?_
  | with_reducible refine rd_nf ?_
  | ((with_reducible refine' rd_decT ?h ?_); (case h => omega))
  | ((with_reducible refine' rd_decF ?h ?_); (case h => omega))
  | ((with_reducible refine' rd_ndecT ?h ?_); (case h => omega))
  | ((with_reducible refine' rd_ndecF ?h ?_); (case h => omega))
  | ((with_reducible refine' rd_evT ?h ?_); (case h => first | exact rfl | (simp; done)))
  | ((with_reducible refine' rd_evF ?h ?_); (case h => first | exact rfl | (simp; done)))
  | ((with_reducible refine' rd_ixL ?sq ?a1 ?_); (case sq => walk_at "sq"); (case a1 => first | exact rfl | exact at_of (by omega) (by assumption)))
  | ((with_reducible refine' rd_ixT ?sq ?a1 ?_); (case sq => walk_at "sqt"); (case a1 => first | exact rfl | exact at_of (by omega) (by assumption)))
  | ((with_reducible refine' rd_lenL ?sq ?_); (case sq => walk_at "sq"))
  | ((with_reducible refine' rd_lenT ?sq ?_); (case sq => walk_at "sqt"))
  | ((with_reducible refine' rd_setL ?h ?j ?_); (case h => walk_at "hp"); (case j => exact rfl); (with_reducible refine id ?_))
  | ((with_reducible refine' rd_strlen ?l ?_); (case l => walk_at "ar"))
  | ((with_reducible refine' rd_cat ?l ?_); (case l => walk_at "ar")))
local macro_rules | `(tactic| walk_at "go") => `(tactic| ((try dsimp only); (repeat (walk_at "rd"))))
local macro_rules | `(tactic| walk_at "rd") => `(tactic| first
  | with_reducible refine rd_lstRg ?_
  | with_reducible refine rd_tRg1 ?_
  | with_reducible refine rd_tRg2 ?_
  | with_reducible refine rd_rg1 ?_
  | with_reducible refine rd_rg2 ?_
  | ((with_reducible refine' rd_qRg ?b ?_); (case b => refine ⟨?_, ?_, ?_, ?_⟩ <;> omega))
  | with_reducible refine rd_sortSet ?_
  | with_reducible refine rd_tDGet ?_
  | with_reducible refine rd_sDPut ?_
  | with_reducible refine rd_dnew ?_
  | with_reducible refine rd_iZipS ?_
  | with_reducible refine rd_zipS ?_
  | ((with_reducible refine' rd_inI ?sq ?_); (case sq => walk_at "sq"))
  | ((with_reducible refine' rd_notInI ?sq ?_); (case sq => walk_at "sq"))
  | with_reducible refine rd_chain ?_)

local macro_rules | `(tactic| walk_at "rd") => `(tactic| first
  | with_reducible refine rd_fld ?_
  | with_reducible refine rd_par3 ?_
  | with_reducible refine rd_sFld ?_
  | with_reducible refine rd_meth ?_
  | with_reducible refine rd_make ?_
  | with_reducible refine rd_iEnT ?_
  | with_reducible refine rd_iEnL ?_
  | with_reducible refine rd_iZipSL ?_
  | with_reducible refine rd_dIn ?_
  | with_reducible refine rd_dNotIn ?_
  | with_reducible refine rd_tDGet ?_
  | with_reducible refine rd_thenT ?_
  | with_reducible refine rd_sortLam ?_
  | with_reducible refine rd_sortLam1 ?_
  | with_reducible refine rd_dget1 ?_
  | with_reducible refine rd_dsetd ?_
  | with_reducible refine rd_dsetdT ?_
  | with_reducible refine rd_bmS ?_
  | with_reducible refine rd_tupRg ?_
  | with_reducible refine rd_bm ?_
  | ((with_reducible refine' rd_kTupT ?sq ?_); (case sq => walk_at "sqt"))
  | ((with_reducible refine' rd_kTupL ?sq ?_); (case sq => walk_at "sq"))
  | with_reducible refine rd_sDPut ?_
  | ((with_reducible refine' rd_enT ?sq ?_); (case sq => walk_at "sqt"))
  | ((with_reducible refine' rd_enL ?sq ?_); (case sq => walk_at "sq"))
  | ((with_reducible refine' rd_zipSL ?sq ?_); (case sq => walk_at "sq")))

section
variable {P : Program} {w : World} {K : PySem.W.Frag} {mg : Str → Option Value} {base : Heap}
theorem tabs_exBL {TT : List (Addr × Str)} {H H' : Hp} {p : Addr} {xs : List V} (h : H p = some (.lst xs)) (t : Tabs TT H) (e : ExB p H H') : Tabs TT H' := fun q hq => by
  obtain ⟨ps, h1, h2, h3⟩ := t q hq
  refine ⟨ps, e _ _ (ne_of h1 h (fun z => nomatch z)) h1, h2, fun pos cv hc => ?_⟩
  obtain ⟨c, e1, e2⟩ := h3 pos cv hc
  refine ⟨c, e1, e _ _ (ne_of e2 h ?_) e2⟩
  unfold CodeO
  intro z
  cases z
theorem Nw.of {H H' : Hp} {p : Addr} (e : ExtN H H') (n : H' p = none) : Nw H p := fun o ho => by
  by_cases h : ∃ ps, o = .tbl ps
  · exact h
  · have := e p o ho fun ps q => h ⟨ps, q⟩
    rw [n] at this; cases this
theorem Nw.none {H : Hp} {p : Addr} (n : H p = none) : Nw H p := fun o ho => by rw [n] at ho; cases ho
theorem ExtN.updW {H H' : Hp} {p : Addr} {o : HO} (e : ExtN H H') (n : Nw H p) : ExtN H (L2.upd H' p o) := fun b q hb ht => by
  rw [upd_ne (n.ne hb ht)]; exact e b q hb ht
theorem Tabs.updO {TT : List (Addr × Str)} {H : Hp} {D : Addr} {o o' : HO} (t : Tabs TT H) (hD : H D = some o) (h1 : ∀ ps, o ≠ .tbl ps) (h2 : ∀ c q, o ≠ CodeO c q) : Tabs TT (L2.upd H D o') := fun p hp => by
  obtain ⟨ps, e1, e2, e3⟩ := t p hp
  refine ⟨ps, by rw [upd_ne (fun z => h1 ps (by rw [← z, e1] at hD; exact (Option.some.inj hD).symm))]; exact e1, e2, fun pos cv hc => ?_⟩
  obtain ⟨c, f1, f2⟩ := e3 pos cv hc
  exact ⟨c, f1, by rw [upd_ne (fun z => h2 _ _ (by rw [← z, f2] at hD; exact (Option.some.inj hD).symm))]; exact f2⟩
theorem Tabs.updD {TT : List (Addr × Str)} {H : Hp} {D : Addr} {kvs : List (Key × V)} {o' : HO} (t : Tabs TT H) (hD : H D = some (.dK kvs)) : Tabs TT (L2.upd H D o') := Tabs.updO t hD (fun _ z => nomatch z) (fun c q z => by unfold CodeO at z; cases z)
theorem Tabs.updDT {TT : List (Addr × Str)} {H : Hp} {D : Addr} {kvs : List (List Key × V)} {o' : HO} (t : Tabs TT H) (hD : H D = some (.dT kvs)) : Tabs TT (L2.upd H D o') := Tabs.updO t hD (fun _ z => nomatch z) (fun c q z => by unfold CodeO at z; cases z)
theorem PN.snoc {H : Hp} {p q : Addr} {bs : Kw} {b : Nat × List Nat} (h : PN H p bs) (hq : H q = some (.tup [vI b.1, .str (S b.2)])) : ∃ xs, H p = some (.lst xs) ∧ xs.length = bs.length ∧ PN (L2.upd H p (.lst (xs ++ [.ref q]))) p (bs ++ [b]) := by
  obtain ⟨as, h1, h2⟩ := h
  refine ⟨refs as, h1, by rw [refs_len]; exact h2.1, as ++ [q], by rw [upd_same, refs_snoc], ?_⟩
  refine PNs.app (h2.keep fun c xs e => ?_) (PNs.one ?_)
  · rw [upd_ne (ne_of e h1 (fun z => nomatch z))]; exact e
  · rw [upd_ne (ne_of hq h1 (fun z => nomatch z))]; exact hq
theorem let_at {j : Nat} {x : V} (h6 : j < 6) (hx : ([97, 98, 99, 100, 101, 102] : List Nat)[j]?.map (fun c => V.str (S [c])) = some x) : x = .str (S [97 + j]) := by
  match j, h6, hx with
  | 0, _, h => exact (Option.some.inj h).symm
  | 1, _, h => exact (Option.some.inj h).symm
  | 2, _, h => exact (Option.some.inj h).symm
  | 3, _, h => exact (Option.some.inj h).symm
  | 4, _, h => exact (Option.some.inj h).symm
  | 5, _, h => exact (Option.some.inj h).symm
theorem ok__law_steps {f : Addr} {fd : FuncData} {z : Zed} {c : Addr} (TB : TabB base mg c z.P__law_steps) (Z : Zok K mg z) (F : FunC K c "_law_steps" "_law_steps" s__law_steps f fd) (T : Txt K mg) : FnOk P w K mg base CX0 1 f fd ["rows", "first"] (sp__law_steps z K) := by
  refine F.ok sc__law_steps (fun vs H Q E h => by repeat (first | (obtain ⟨rfl, _⟩ := h; rfl) | obtain ⟨_, h⟩ := h)) (fun A outer s H vs Q E hr h => ?_)
  have hu := Z.tab__law_steps
  refine ⟨_, (pss_cons (ps_par (i := 2) (j := 3) rfl sc__law_steps.nd rfl rfl (by decide) rfl rfl (pa_cons (pe_disp (pps_cons (pv 1) (pe_strS [] rfl) pps_nil) rfl rfl (by decide) (by decide)) (pa_cons (pe_lst (pa_cons (pe_tup (pa_cons (pv 1) (pa_cons (pe_strS [] rfl) pa_nil))) pa_nil)) pa_nil)) (by rfl))
  (pss_cons (ps_for PassesOwn.never rfl (pi_range1 rfl T.n_range (pa_cons (pe_callB cq_len rfl T.n_len boot_len (pa_cons (pv 0) pa_nil)) pa_nil)) (pg_name (i := 4) sc__law_steps.nd rfl (Or.inl rfl))
  (pss_cons (ps_set (i := 5) sc__law_steps.nd rfl (Or.inl rfl) (pe_lst pa_nil))
  (pss_cons (ps_for PassesOwn.never rfl (pi_list (pv 3)) (pg_two (i := 6) (j := 7) K rfl rfl sc__law_steps.nd rfl (Or.inl rfl) rfl (Or.inr rfl))
  (pss_one (ps_expr (pe_bm PySem.F.plainAttrs_list PySem.F.slot_list_extend PySem.F.type_list_extend mt_extend (pv 5) (pa_cons (pe_lc (own := [("letter", 8), ("other", 9)]) rfl sc__law_steps.nd (pi_zipSL rfl T.n_zip (pa_cons (pe_strS [97, 98, 99, 100, 101, 102] rfl) (pa_cons (pe_ix ix_list (pv 0) (pv 6) (fun _ _ => rfl)) pa_nil))) (blkOk_by (N := N__law_steps) (sc := defScope s__law_steps) (by decide +kernel)) (fun _ _ _ _ _ => (pg_two (i := 8) (j := 9) K rfl rfl sc__law_steps.nd rfl (Or.inl rfl) rfl (Or.inl rfl))) (fun _ _ _ _ _ => pts_nil) (fun _ _ _ _ _ => (pe_tup (pa_cons (pv 9) (pa_cons (pe_op oq_addS (pv 7) (pv 8)) pa_nil))))) pa_nil)))))
  (pss_cons (ps_set (i := 3) sc__law_steps.nd rfl (Or.inl rfl) (pe_lst pa_nil))
  (pss_one (ps_for PassesOwn.never rfl (pi_list (pe_sortLam1 TB rfl (by first | exact List.mem_cons_self | exact List.mem_cons_of_mem _ List.mem_cons_self) hu hr rfl T.n_sorted ⟨rfl, rfl, rfl, by decide +kernel, rfl, by decide +kernel, by decide +kernel⟩ rfl rfl (by decide +kernel) rfl (fun _ _ _ _ _ => rfl) (pa_cons (pv 5) pa_nil))) (pg_two (i := 6) (j := 7) K rfl rfl sc__law_steps.nd rfl (Or.inl rfl) rfl (Or.inr rfl))
  (pss_one (ps_if (pt_cmp (pc_dnotin (hu_of hr) (pv 6) (pv 2))) (pss_cons (ps_dput (hu_of hr) (pv 2) (pv 6) (pv 7) rfl)
  (pss_one (ps_expr (pe_bm PySem.F.plainAttrs_list PySem.F.slot_list_append PySem.F.type_list_append mt_append (pv 3) (pa_cons (pe_tup (pa_cons (pv 6) (pa_cons (pv 7) pa_nil))) pa_nil))))) pss_nil))))))))
  (pss_one (ps_ret (pv 2))))), ?_⟩
  try dsimp only [cxOf, Cx.nox, Cx.wish]
  obtain ⟨tb, T, m, N, x, rfl, ⟨as, ht, hl, hr⟩, G, hx0, TB0, k⟩ := h
  have hasN : as.length = N := by rw [hl, G.len]
  have hNle := G.le
  have m6 := G.m6
  have hst : ∀ n c, n < N → c < m → at2 T n c < N := fun n c hn hc => G.g.lt n c hn hc
  walk_at "go"
  refine rd_disp1 fun fd' nfd => ?_
  walk_at "go"
  refine ⟨upd_same, kI x, rfl, ?_⟩
  have sd : Same H (L2.upd (L2.upd H fd' (.dK [])) fd' (.dK [(kI x, .str (S []))])) := Same.updN (Same.new nfd) nfd
  have hfd : (L2.upd (L2.upd H fd' (.dK [])) fd' (.dK [(kI x, .str (S []))])) fd' = some (.dK (wordK [(x, [])])) := upd_same
  generalize L2.upd (L2.upd H fd' (.dK [])) fd' (.dK [(kI x, .str (S []))]) = H1 at *
  walk_at "go"
  intro p1 np1
  walk_at "go"
  intro la0 nla0
  have s1 : Same H1 (L2.upd (L2.upd H1 p1 (.tup [vI x, .str (S [])])) la0 (.lst [.ref p1])) := (Same.new np1).trans (Same.new nla0)
  have P0 : PN (L2.upd (L2.upd H1 p1 (.tup [vI x, .str (S [])])) la0 (.lst [.ref p1])) la0 [(x, [])] := ⟨[p1], upd_same, PNs.one ((Same.new nla0) _ _ upd_same)⟩
  have hfd2 := s1 _ _ hfd
  have sH := sd.trans s1
  have T2 := Tabs.same TB0 sH
  generalize L2.upd (L2.upd H1 p1 (.tup [vI x, .str (S [])])) la0 (.lst [.ref p1]) = H2 at *
  walk_at "go"
  try refine ⟨_, _, rfl, ?_⟩
  walk_at "go"
  refine rd_lenL (SqL.of (sH _ _ ht)) ?_
  rw [refs_len, hasN]
  walk_at "go"
  refine forR (n := N) (fun t σ' H' => ∃ (la : Addr) (kw ly : Kw) (v4 v5 v6 v7 v8 v9 : Option V), σ' = [some (.ref tb), some (vI x), some (.ref fd'), some (.ref la), v4, v5, v6, v7, v8, v9] ∧ Ls (at2 T) m x kw ly t ∧ ExtN H H' ∧ Tabs z.TT H' ∧ H' fd' = some (.dK (wordK kw)) ∧ PN H' la ly) ⟨la0, _, _, _, _, _, _, _, _, rfl, Ls.init _ _ _, ExtN.of sH, T2, hfd2, P0⟩ ?_ ?_
  · rintro t σ' H3 ht3 ⟨la, kw, ly, v4, v5, v6, v7, v8, v9, rfl, B, E3, T3, hfd3, P3⟩
    have hlyN := B.ly_le hx0 hst
    walk_at "go"
    intro lo nlo
    have E4 : ExtN H (L2.upd H3 lo (.lst [])) := E3.trans (ExtN.of (Same.new nlo))
    have T4 := Tabs.same T3 (Same.new (o := .lst []) nlo)
    have hfd4 := (Same.new (o := .lst []) nlo) _ _ hfd3
    have P4 := P3.kq (Kq.of (Same.new (o := .lst []) nlo))
    have Q4 : PN (L2.upd H3 lo (.lst [])) lo (longer (at2 T) m (ly.take 0)) := ⟨[], upd_same, rfl, fun i a b e => by simp at e⟩
    have hfl : fd' ≠ lo := ne_of_none hfd3 nlo
    have hll : la ≠ lo := let ⟨_, e, _⟩ := P3; ne_of_none e nlo
    have wlo := Nw.of E3 nlo
    generalize L2.upd H3 lo (.lst []) = H4 at *
    obtain ⟨ps, hps, hpps⟩ := id P4
    have hpl : ps.length = ly.length := hpps.1
    walk_at "go"
    try refine rd_qIl (SqL.of hps) ?_
    refine forLP (K := K) (ls := refs ps) (fun i σ' H' => ∃ v6 v7 v8 v9, σ' = [some (.ref tb), some (vI x), some (.ref fd'), some (.ref la), some (.int (0 + (t : Int))), some (.ref lo), v6, v7, v8, v9] ∧ ExB lo H4 H' ∧ PN H' lo (longer (at2 T) m (ly.take i))) ⟨_, _, _, _, rfl, ExB.refl _ _, Q4⟩ (fun i σ' H' _ ⟨_, _, _, _, _, X, _⟩ => SqL.of (X _ _ hll hps)) ?_ ?_
    · rintro i v σ' H5 hv ⟨v6, v7, v8, v9, rfl, X5, Q5⟩
      obtain ⟨a, ha, rfl⟩ := refs_get hv
      have hi : i < ly.length := by rw [← hpl]; exact (List.getElem?_eq_some_iff.mp ha).1
      obtain ⟨⟨n, u⟩, hnu⟩ : ∃ p, ly[i]? = some p := ⟨_, List.getElem?_eq_getElem hi⟩
      obtain ⟨xs5, hlo5, hxl5, _⟩ : ∃ xs, H5 lo = some (.lst xs) ∧ xs.length = (longer (at2 T) m (ly.take i)).length ∧ True := let ⟨as, q1, q2⟩ := Q5; ⟨_, q1, by rw [refs_len]; exact q2.1, trivial⟩
      have ha4 := hpps.2 i a _ ha hnu
      have kt : ∀ c xs, H4 c = some (.tup xs) → H5 c = some (.tup xs) := fun c xs e => X5 _ _ (fun z => by rw [z] at e; obtain ⟨_, q, _⟩ := Q4; rw [q] at e; cases e) e
      have ha5 := kt _ _ ha4
      have hin := (B.ls (n, u)).mp (List.mem_of_getElem? hnu)
      have hnN : n < N := B.lt hx0 hst _ hin.1
      have hul : u.length = t := hin.2
      obtain ⟨b, hb⟩ : ∃ a, as[n]? = some a := ⟨_, List.getElem?_eq_getElem (by omega)⟩
      have hrb : H b = some (.lst (rowV (T.getD n []))) := row_of hl hr hb
      have hbl : b ≠ lo := wlo.ne hrb (fun ps z => nomatch z)
      have htl : tb ≠ lo := wlo.ne ht (fun ps z => nomatch z)
      have hrb5 := X5 _ _ hbl (E4 _ _ hrb (fun ps z => nomatch z))
      have ht5 := X5 _ _ htl (E4 _ _ ht (fun ps z => nomatch z))
      refine ⟨a, _, _, rfl, SqT.of ha5, ?_⟩
      walk_at "go"
      refine ⟨tyL hlo5, ?_⟩
      walk_at "go"
      refine rd_ixL (SqL.of ht5) (at_vI (getElem?_refs hb)) ?_
      walk_at "go"
      try refine rd_zipSL (SqL.of hrb5) ?_
      refine lc_invP (n := m) (by have := walk_zipSL (K := K) (l := [97, 98, 99, 100, 101, 102]) (b := b) (ys := rowV (T.getD n [])) (by rw [rowV_len, G.g.row n hnN]; exact m6); rw [rowV_len, G.g.row n hnN] at this; exact this) (fun D j acc H' => Same H5 H' ∧ ∃ qs : List Addr, acc = refs qs ∧ PNs H' qs ((List.range j).map fun l => (at2 T n l, u ++ [97 + l]))) (by omega) (fun _ _ => rfl) (fun D j acc H' ⟨s, _⟩ => SqL.of (s _ _ hrb5)) (fun D nD => ⟨Same.new nD, [], rfl, rfl, fun i a b e => by simp at e⟩) ?_ ?_
      · rintro D j xv yv T1 acc H6 Q6 hj hxv hyv nD hacc ⟨s6, qs, rfl, hqs⟩ hD nT kk6
        have hxx : xv = .str (S [97 + j]) := let_at (by omega) hxv
        subst hxx
        rw [rowV_get (by rw [G.g.row n hnN]; exact hj)] at hyv
        have hyy : vI (at2 T n j) = yv := Option.some.inj hyv
        subst hyy
        have s7 := s6.trans (Same.new (o := .tup [.str (S [97 + j]), vI (at2 T n j)]) nT)
        have hD7 := (Same.new (o := .tup [.str (S [97 + j]), vI (at2 T n j)]) nT) _ _ hD
        have hqs7 := hqs.keep fun c xs e => (Same.new (o := .tup [.str (S [97 + j]), vI (at2 T n j)]) nT) _ _ e
        generalize L2.upd H6 T1 (.tup [.str (S [97 + j]), vI (at2 T n j)]) = H7 at *
        walk_at "go"
        refine rd_cat (by show u.length + 1 ≤ 100000; omega) ?_
        walk_at "go"
        intro q nq
        have hD8 := (Same.new (o := .tup [vI (at2 T n j), .str (S (u ++ [97 + j]))]) nq) _ _ hD7
        refine kk6 _ _ hD8 ⟨Same.updN (s7.trans (Same.new nq)) nD, qs ++ [q], refs_snoc.symm, ?_⟩
        rw [List.range_succ, List.map_append]
        have hqD : q ≠ D := (ne_of_none hD7 nq).symm
        refine PNs.app (hqs7.keep fun c xs e => ?_) (PNs.one (by rw [upd_ne hqD]; exact upd_same))
        have e8 := (Same.new (o := .tup [vI (at2 T n j), .str (S (u ++ [97 + j]))]) nq) _ _ e
        rw [upd_ne (ne_of e8 hD8 (fun z => nomatch z))]; exact e8
      · rintro D acc H6 nD hacc ⟨s6, qs, rfl, hqs⟩ hD
        have hlo6 := s6 _ _ hlo5
        obtain ⟨as6, hlo6', hps6⟩ := Q5.kq (Kq.of s6)
        rw [hlo6] at hlo6'
        have exs : xs5 = refs as6 := HO.lst.inj (Option.some.inj hlo6')
        subst exs
        have hlen := longer_len (at2 T) m (ly.take i)
        have hmul : (ly.take i).length * m ≤ 2000 * 6 := Nat.mul_le_mul (by rw [List.length_take]; omega) m6
        rw [refs_len] at hacc hxl5
        walk_at "go"
        refine ⟨lo, D, _, _, rfl, rfl, hlo6, hD, sz (by rw [refs_len, refs_len]; omega), ?_⟩
        refine ⟨_, _, _, _, rfl, X5.trans ((ExB.of s6).trans ExB.upd), ?_⟩
        rw [longer_snoc hnu]
        refine ⟨as6 ++ qs, by rw [upd_same, refs_app], PNs.app (hps6.keep fun c xs e => ?_) (hqs.keep fun c xs e => ?_)⟩
        · rw [upd_ne (ne_of e hlo6 (fun z => nomatch z))]; exact e
        · rw [upd_ne (ne_of e hlo6 (fun z => nomatch z))]; exact e
    · rintro σ' H5 ⟨v6, v7, v8, v9, rfl, X5, Q5⟩
      rw [refs_len, hpl, List.take_length] at Q5
      have E5 : ExtN H H5 := fun b o hb hn => X5 _ _ (wlo.ne hb hn) (E4 _ _ hb hn)
      obtain ⟨lo4, hlo4, _⟩ := id Q4
      have T5 : Tabs z.TT H5 := tabs_exBL hlo4 T4 X5
      have hfd5 := X5 _ _ hfl hfd4
      walk_at "go"
      intro la2 nla2
      have E6 : ExtN H (L2.upd H5 la2 (.lst [])) := E5.trans (ExtN.of (Same.new nla2))
      have T6 := Tabs.same T5 (Same.new (o := .lst []) nla2)
      have hfd6 := (Same.new (o := .lst []) nla2) _ _ hfd5
      have Q6 := Q5.kq (Kq.of (Same.new (o := .lst []) nla2))
      have P6 : PN (L2.upd H5 la2 (.lst [])) la2 [] := ⟨[], upd_same, rfl, fun i a b e => by simp at e⟩
      generalize L2.upd H5 la2 (.lst []) = H6 at *
      obtain ⟨qs, hqs, hqqs⟩ := id Q6
      have hlen := longer_len (at2 T) m ly
      have hmul : ly.length * m ≤ 2000 * 6 := Nat.mul_le_mul (by omega) m6
      walk_at "go"
      refine ⟨lo, refs qs, longer (at2 T) m ly, rfl, SqL.of hqs, hqqs.pairs, by omega, B.lex, T6, fun p7 H7 e7 T7 np7 => ?_⟩
      have E8 : ExtN H (L2.upd H7 p7 (.lst (refs qs))) := (E6.trans e7).trans (ExtN.of (Same.new np7))
      have T8 := Tabs.same T7 (Same.new (o := .lst (refs qs)) np7)
      have k7 := kq_extN e7
      have hfd8 := (Same.new (o := .lst (refs qs)) np7) _ _ (e7 _ _ hfd6 (fun ps z => nomatch z))
      have P8 := (P6.kq k7).kq (Kq.of (Same.new (o := .lst (refs qs)) np7))
      have hqs8 := (hqqs.keep k7.2).keep (Kq.of (Same.new (o := .lst (refs qs)) np7)).2
      have hp8 : (L2.upd H7 p7 (.lst (refs qs))) p7 = some (.lst (refs qs)) := upd_same
      have hlp : la2 ≠ p7 := let ⟨_, e, _⟩ := P6.kq k7; ne_of_none e np7
      have wl2 : Nw H la2 := Nw.of E5 nla2
      generalize L2.upd H7 p7 (.lst (refs qs)) = H8 at *
      walk_at "go"
      try refine rd_qIl (SqL.of hp8) ?_
      refine forLP (K := K) (ls := refs qs) (fun i σ' H' => ∃ (nx : Kw) (v6 v7 v8 v9 : Option V), σ' = [some (.ref tb), some (vI x), some (.ref fd'), some (.ref la2), some (.int (0 + (t : Int))), some (.ref lo), v6, v7, v8, v9] ∧ Lm (at2 T) m x kw ly nx t i ∧ ExtN H H' ∧ Tabs z.TT H' ∧ H' fd' = some (.dK (wordK (kw ++ nx))) ∧ PN H' la2 nx ∧ H' p7 = some (.lst (refs qs)) ∧ PNs H' qs (longer (at2 T) m ly)) ⟨[], _, _, _, _, rfl, B.begin, E8, T8, by rw [List.append_nil]; exact hfd8, P8, hp8, hqs8⟩ (fun i σ' H' _ ⟨_, _, _, _, _, _, _, _, _, _, _, q, _⟩ => SqL.of q) ?_ ?_
      · rintro i v σ' H9 hv ⟨nx, v6, v7, v8, v9, rfl, L9, E9, T9, hfd9, P9, hp9, hqs9⟩
        obtain ⟨a, ha, rfl⟩ := refs_get hv
        have hi : i < (longer (at2 T) m ly).length := by rw [← hqqs.1]; exact (List.getElem?_eq_some_iff.mp ha).1
        obtain ⟨⟨n, u⟩, hnu⟩ : ∃ p, (longer (at2 T) m ly)[i]? = some p := ⟨_, List.getElem?_eq_getElem hi⟩
        have ha9 := hqs9.2 i a _ ha hnu
        have hle9 := L9.le B hx0 hst
        refine ⟨a, _, _, rfl, SqT.of ha9, ?_⟩
        walk_at "go"
        refine rd_notInKw L9.nd hfd9 ?_
        walk_at "go"
        by_cases hk : n ∈ keys (kw ++ nx)
        · rw [decide_eq_true hk]
          walk_at "go"
          exact ⟨nx, _, _, _, _, rfl, L9.old B hnu hk, E9, T9, hfd9, P9, hp9, hqs9⟩
        · rw [decide_eq_false hk]
          walk_at "go"
          refine rd_qPutK (kI n) hfd9 (by rw [kwK_len]; omega) ?_
          have ep : putK (wordK (kw ++ nx)) (kI n) (.str (S u)) = wordK (kw ++ nx ++ [(n, u)]) := kw_put (f := fun q => .str (S q.2)) (p := (n, u)) _ hk
          rw [ep]
          have E10 : ExtN H (L2.upd H9 fd' (.dK (wordK (kw ++ nx ++ [(n, u)])))) := ExtN.updW E9 (Nw.none nfd)
          have T10 := Tabs.updD (o' := .dK (wordK (kw ++ nx ++ [(n, u)]))) T9 hfd9
          have hfd10 : (L2.upd H9 fd' (.dK (wordK (kw ++ nx ++ [(n, u)])))) fd' = some (.dK (wordK (kw ++ nx ++ [(n, u)]))) := upd_same
          have kq10 : Kq H9 (L2.upd H9 fd' (.dK (wordK (kw ++ nx ++ [(n, u)])))) := kq_exB hfd9 ExB.upd
          have P10 := P9.kq kq10
          have hp10 := kq10.1 _ _ hp9
          have hqs10 := hqs9.keep kq10.2
          generalize L2.upd H9 fd' (.dK (wordK (kw ++ nx ++ [(n, u)]))) = H10 at *
          obtain ⟨xs10, hx10, hxl10, _⟩ : ∃ xs, H10 la2 = some (.lst xs) ∧ xs.length = nx.length ∧ True := let ⟨as, q1, q2⟩ := P10; ⟨_, q1, by rw [refs_len]; exact q2.1, trivial⟩
          walk_at "go"
          refine ⟨tyL hx10, ?_⟩
          walk_at "go"
          intro q nq
          have E11 := E10.trans (ExtN.of (Same.new (o := .tup [vI n, .str (S u)]) nq))
          have T11 := Tabs.same T10 (Same.new (o := .tup [vI n, .str (S u)]) nq)
          have hfd11 := (Same.new (o := .tup [vI n, .str (S u)]) nq) _ _ hfd10
          have P11 := P10.kq (Kq.of (Same.new (o := .tup [vI n, .str (S u)]) nq))
          have hp11 := (Same.new (o := .tup [vI n, .str (S u)]) nq) _ _ hp10
          have hqs11 := hqs10.keep (Kq.of (Same.new (o := .tup [vI n, .str (S u)]) nq)).2
          have hq11 : (L2.upd H10 q (.tup [vI n, .str (S u)])) q = some (.tup [vI (n, u).1, .str (S (n, u).2)]) := upd_same
          generalize L2.upd H10 q (.tup [vI n, .str (S u)]) = H11 at *
          obtain ⟨xs, y1, y2, y3⟩ := P11.snoc hq11
          rw [List.length_append] at hle9
          walk_at "go"
          refine rd_app y1 (by omega) ?_
          refine ⟨nx ++ [(n, u)], _, _, _, _, rfl, L9.new B hnu hk, ExtN.updW E11 wl2, Tabs.updL T11 y1, ?_, y3, ?_, ?_⟩
          · rw [upd_ne (ne_of hfd11 y1 (fun z => nomatch z)), ← List.append_assoc]; exact hfd11
          · rw [upd_ne hlp.symm]; exact hp11
          · exact hqs11.keep fun c xs e => by rw [upd_ne (ne_of e y1 (fun z => nomatch z))]; exact e
      · rintro σ' H9 ⟨nx, v6, v7, v8, v9, rfl, L9, E9, T9, hfd9, P9, hp9, hqs9⟩
        rw [refs_len, hqqs.1] at L9
        walk_at "go"
        exact ⟨la2, kw ++ nx, nx, _, _, _, _, _, _, rfl, L9.done B, E9, T9, hfd9, P9⟩
  · rintro σ' H3 ⟨la, kw, ly, v4, v5, v6, v7, v8, v9, rfl, B, E3, T3, hfd3, P3⟩
    walk_at "go"
    refine k fd' _ H3 E3 T3 hfd3 fun y hy => ?_
    by_cases hk : y ∈ keys kw
    · obtain ⟨p, hp1, rfl⟩ := mem_keys.mp hk
      exact ⟨some p.2, B.known (N := N) hp1, by rw [kw_some kw B.nd hp1]; rfl⟩
    · exact ⟨none, B.unknown hx0 hst hk, by rw [kw_none kw hk]; rfl⟩
theorem prT_row (T : Tab) (m N x : Nat) (hx : x < N) : (prT T m N).getD x [] = (List.range N).map fun y => run T x (W T m N y) := by
  unfold prT
  rw [getD_map (d := 0) (by rw [List.length_range]; exact hx)]
  have e : (List.range N).getD x 0 = x := by rw [List.getD_eq_getElem?_getD, List.getElem?_range hx]; rfl
  rw [e]
theorem ok__law_products {f : Addr} {fd : FuncData} (F : Fun K "_law_products" "_law_products" s__law_products f fd) (T : Txt K mg) : FnOk P w K mg base CX0 1 f fd ["found", "table"] (sp__law_products K) := by
  refine F.ok sc__law_products (fun vs H Q E h => by repeat (first | (obtain ⟨rfl, _⟩ := h; rfl) | obtain ⟨_, h⟩ := h)) (fun cdv A outer s H vs Q E hr h => ?_)
  refine ⟨_, (pss_cons (ps_set (i := 2) sc__law_products.nd rfl (Or.inr rfl) (pe_dictZR rfl (Room.u65 hr) rfl T.n_dict rfl T.n_zip (pv 0) (prg_1 rfl T.n_range (pe_callB cq_len rfl T.n_len boot_len (pa_cons (pv 0) pa_nil)))))
  (pss_cons (ps_set (i := 3) sc__law_products.nd rfl (Or.inl rfl) (pe_lst pa_nil))
  (pss_cons (ps_for PassesOwn.never rfl (pi_list (pv 0)) (pg_name (i := 4) sc__law_products.nd rfl (Or.inr rfl))
  (pss_one (ps_expr (pe_bm PySem.F.plainAttrs_list PySem.F.slot_list_append PySem.F.type_list_append mt_append (pv 3) (pa_cons (pe_lc (own := [("other", 5)]) rfl sc__law_products.nd (pi_list (pv 0)) (blkOk_by (N := N__law_products) (sc := defScope s__law_products) (by decide +kernel)) (fun _ _ _ _ _ => (pg_name (i := 5) sc__law_products.nd rfl (Or.inr rfl))) (fun _ _ _ _ _ => pts_nil) (fun _ _ _ _ _ => (pe_dget (hu_of hr) (pv 2) (pe_tupleOfK K rfl rfl T.n_tuple (pe_lc (own := [("image", 6)]) rfl sc__law_products.nd (pi_tupK K rfl (pv 4)) (blkOk_by (N := N__law_products)  (by kernel_rfl)) (fun _ _ _ _ _ => (pg_name (i := 6) sc__law_products.nd rfl (Or.inl rfl))) (fun _ _ _ _ _ => pts_nil) (fun _ _ _ _ _ => (pe_ix (ix_tupK K rfl) (pv 5) (pv 6) (fun _ _ => rfl))))) (fun _ _ => rfl)))) pa_nil)))))
  (pss_one (ps_ret (pv 3)))))), ?_⟩
  try dsimp only [cxOf, Cx.nox, Cx.wish]
  obtain ⟨f, tb, rows, sz, N, rfl, M, D, ⟨fs, hf, hfl, hfr⟩, k⟩ := h
  have hs4 := M.s4
  have hstop := D.stop
  have hN : N ≤ 256 := by have h := maps_le M.s4 (fdT_nodup N) D.Fmap; rw [D.stop] at h; exact h
  have hfsN : fs.length = N := by omega
  have hF : ∀ i, i < N → ∃ a, fs[i]? = some a ∧ H a = some (.tup (rowV ((fdT rows sz N).getD i []))) := fun i hi => by
    have h1 : i < fs.length := by omega
    exact ⟨fs[i], List.getElem?_eq_getElem h1, hfr i _ _ (List.getElem?_eq_getElem h1) (get_getD [] (by omega))⟩
  obtain ⟨z1, z2, z3, z4, z5⟩ := keys_zip (H := H) hfl (fun i a r e1 e2 => hfr i a r e1 e2) (fdT_nodup N)
  walk_at "go"
  refine ⟨.ref f, rfl, f, rfl, ?_⟩
  walk_at "go"
  refine ⟨rfl, ((fdT rows sz N).map kk).zip fs, by rw [z1]; exact SqL.of hf, by rw [z3, refs_len, hfl], by rw [z3]; omega, z4, by rw [z2]; exact z5, fun nu nnu => ?_⟩
  rw [z2]
  have s1 : Same H (L2.upd H nu (.dT (numT (fdT rows sz N)))) := Same.new nnu
  have hnu : (L2.upd H nu (.dT (numT (fdT rows sz N)))) nu = some (.dT (numT (fdT rows sz N))) := upd_same
  show gName _ _ _ (L2.upd H nu (.dT (numT (fdT rows sz N)))) _
  generalize L2.upd H nu (.dT (numT (fdT rows sz N))) = H1 at *
  walk_at "go"
  intro ro nro
  have nroH := Same.nn s1 nro
  have s2 := s1.trans (Same.new (o := .lst []) nro)
  have hro : (L2.upd H1 ro (.lst [])) ro = some (.lst (refs [])) := upd_same
  have hnu2 := (Same.new (o := .lst []) nro) _ _ hnu
  have hnr : nu ≠ ro := ne_of_none hnu nro
  generalize L2.upd H1 ro (.lst []) = H2 at *
  walk_at "go"
  refine rd_qIl (SqL.of (s2 _ _ hf)) ?_
  refine forL fs V.ref (fun i σ' H' => ∃ (rs : List Addr) (v4 v5 v6 : Option V), σ' = [some (.ref f), some (.ref tb), some (.ref nu), some (.ref ro), v4, v5, v6] ∧ Same H H' ∧ H' nu = some (.dT (numT (fdT rows sz N))) ∧ H' ro = some (.lst (refs rs)) ∧ ro ∉ rs ∧ RB false H' rs ((prT (tbT rows sz N) rows.length N).take i)) ⟨[], _, _, _, rfl, s2, hnu2, hro, by simp, rfl, fun i a r e => by simp at e⟩ (fun i σ' H' _ ⟨_, _, _, _, _, s, _⟩ => SqL.of (s _ _ hf)) ?_ ?_
  · rintro i a σ' H3 ha ⟨rs, v4, v5, v6, rfl, s3, hnu3, hro3, hrn, R3⟩
    have hi : i < N := by rw [← hfsN]; exact (List.getElem?_eq_some_iff.mp ha).1
    obtain ⟨a', ha', hFa⟩ := hF i hi
    rw [ha] at ha'
    cases ha'
    have hFm := D.Fm hi
    walk_at "go"
    refine ⟨tyL hro3, ?_⟩
    walk_at "go"
    refine rd_qIl (SqL.of (s3 _ _ hf)) ?_
    have wk := walk_list (K := K) (a := f) (xs := refs fs)
    refine lc_inv (ls := refs fs) wk (fun E j acc H' => Same H3 H' ∧ E ≠ ro ∧ acc = rowV ((List.range j).map fun y => run (tbT rows sz N) i (W (tbT rows sz N) rows.length N y))) (by rw [refs_len]; omega) (fun _ => rfl) (fun E j acc H' ⟨s, _⟩ => SqL.of (s _ _ (s3 _ _ hf))) (fun E nE => ⟨Same.new nE, (ne_of_none hro3 nE).symm, rfl⟩) ?_ ?_
    · rintro E j v acc H4 Q4 hv nE hacc ⟨s4, hEr, rfl⟩ hE kk4
      obtain ⟨b, hb, rfl⟩ := refs_get hv
      have hj : j < N := by rw [← hfsN]; exact (List.getElem?_eq_some_iff.mp hb).1
      obtain ⟨b', hb', hFb⟩ := hF j hj
      rw [hb] at hb'
      cases hb'
      have hFj := D.Fm hj
      have s04 := s3.trans s4
      obtain ⟨mi1, mi2⟩ := D.mul_idx hi hj
      walk_at "go"
      refine rd_qItu (SqT.of (s04 _ _ hFa)) ?_
      refine lcT (K := K) ((fdT rows sz N).getD i []) vI (SqT.of (s04 _ _ hFa)) (fun _ => true) (fun y => vI (((fdT rows sz N).getD j []).getD y 0)) (by rw [hFm.1]; omega) (fun _ => rfl) (fun y hy => pt_yes) ?_ ?_
      · intro y hy _ H5 s5 Q5 q5
        walk_at "go"
        refine rd_ixT (SqT.of (s5 _ _ (s04 _ _ hFb))) (at_vI (rowV_get (by rw [hFj.1]; exact hFm.2 y hy))) ?_
        exact q5 _ (Same.refl _)
      · intro D5 H5 nD5 s5 hD5
        have eMul : (List.map (fun y => vI (((fdT rows sz N).getD j []).getD y 0)) (List.filter (fun _ => true) ((fdT rows sz N).getD i []))) = rowV (mul ((fdT rows sz N).getD i []) ((fdT rows sz N).getD j [])) := by
          rw [List.filter_eq_self.mpr (fun _ _ => rfl)]
          unfold rowV mul
          rw [List.map_map]; rfl
        rw [eMul] at hD5
        walk_at "go"
        intro q6 nq6
        have s6 := s5.trans (Same.new (o := .tup (rowV (mul ((fdT rows sz N).getD i []) ((fdT rows sz N).getD j [])))) nq6)
        have hq6 : (L2.upd H5 q6 (.tup (rowV (mul ((fdT rows sz N).getD i []) ((fdT rows sz N).getD j []))))) q6 = some (.tup ((kk (mul ((fdT rows sz N).getD i []) ((fdT rows sz N).getD j []))).map kV)) := by rw [kk_map]; exact upd_same
        generalize L2.upd H5 q6 (.tup (rowV (mul ((fdT rows sz N).getD i []) ((fdT rows sz N).getD j [])))) = H6 at *
        have evl := valV_numT (mul ((fdT rows sz N).getD i []) ((fdT rows sz N).getD j [])) (fdT rows sz N)
        rw [if_pos mi1, mi2] at evl
        walk_at "go"
        refine rd_qGetT (kk (mul ((fdT rows sz N).getD i []) ((fdT rows sz N).getD j []))) (s6 _ _ (s4 _ _ hnu3)) hq6 evl ?_
        refine kk4 _ _ (s6 _ _ hE) ⟨Same.updN (s4.trans s6) nE, hEr, ?_⟩
        rw [List.range_succ, List.map_append]
        exact rowV_snoc.symm
    · rintro E acc H4 nE hacc ⟨s4, hEr, rfl⟩ hE
      rw [refs_len, hfsN] at hE
      have hlt : i < (prT (tbT rows sz N) rows.length N).length := by unfold prT; simp; exact hi
      have et : (prT (tbT rows sz N) rows.length N).take (i + 1) = (prT (tbT rows sz N) rows.length N).take i ++ [(List.range N).map fun y => run (tbT rows sz N) i (W (tbT rows sz N) rows.length N y)] := by
        rw [take_snoc [] hlt, prT_row _ _ _ _ hi]
      have hrl := R3.1
      rw [List.length_take] at hrl
      walk_at "go"
      have hro4 := s4 _ _ hro3
      refine rd_app hro4 (by rw [refs_len]; omega) ?_
      rw [et]
      refine ⟨rs ++ [E], _, _, _, rfl, Same.updN (s3.trans s4) nroH, by rw [upd_ne hnr]; exact s4 _ _ hnu3, by rw [upd_same, refs_snoc], fun hm => ?_, ?_⟩
      · rcases List.mem_append.mp hm with h | h
        · exact hrn h
        · exact hEr (List.mem_singleton.mp h).symm
      · refine (R3.keep fun c hc xs e => ?_).snoc (by rw [upd_ne hEr]; exact hE)
        rw [upd_ne (fun z => hrn (by rw [← z]; exact hc))]
        exact s4 _ _ e
  · rintro σ' H3 ⟨rs, v4, v5, v6, rfl, s3, hnu3, hro3, hrn, R3⟩
    rw [show (prT (tbT rows sz N) rows.length N).take fs.length = prT (tbT rows sz N) rows.length N by rw [hfsN]; exact List.take_of_length_le (by unfold prT; simp)] at R3
    walk_at "go"
    exact k ro H3 s3 ⟨rs, hro3, R3.1, R3.2⟩
theorem ok__law_all_words {f : Addr} {fd : FuncData} (F : Fun K "_law_all_words" "_law_all_words" s__law_all_words f fd) (T : Txt K mg) : FnOk P w K mg base CX0 1 f fd ["letters", "most"] (sp__law_all_words K) := by
  refine F.ok sc__law_all_words (fun vs H Q E h => by repeat (first | (obtain ⟨rfl, _⟩ := h; rfl) | obtain ⟨_, h⟩ := h)) (fun cdv A outer s H vs Q E hr h => ?_)
  refine ⟨_, (pss_cons (ps_par (i := 2) (j := 3) rfl sc__law_all_words.nd rfl rfl (by decide) rfl rfl (pa_cons (pe_lst (pa_cons (pe_strS [] rfl) pa_nil)) (pa_cons (pe_lst (pa_cons (pe_strS [] rfl) pa_nil)) pa_nil)) (by rfl))
  (pss_cons (ps_for PassesOwn.never rfl (pi_range1 rfl T.n_range (pa_cons (pv 1) pa_nil)) (pg_name (i := 4) sc__law_all_words.nd rfl (Or.inl rfl))
  (pss_cons (ps_set (i := 5) sc__law_all_words.nd rfl (Or.inl rfl) (pe_lst pa_nil))
  (pss_cons (ps_for PassesOwn.never rfl (pi_list (pv 3)) (pg_name (i := 6) sc__law_all_words.nd rfl (Or.inr rfl))
  (pss_one (ps_expr (pe_bm PySem.F.plainAttrs_list PySem.F.slot_list_extend PySem.F.type_list_extend mt_extend (pv 5) (pa_cons (pe_lc (own := [("letter", 7)]) rfl sc__law_all_words.nd (pi_str (pv 0)) (blkOk_by (N := N__law_all_words) (sc := defScope s__law_all_words) (by decide +kernel)) (fun _ _ _ _ _ => (pg_name (i := 7) sc__law_all_words.nd rfl (Or.inl rfl))) (fun _ _ _ _ _ => pts_nil) (fun _ _ _ _ _ => (pe_op oq_addS (pv 6) (pv 7)))) pa_nil)))))
  (pss_cons (ps_set (i := 3) sc__law_all_words.nd rfl (Or.inl rfl) (pv 5))
  (pss_one (ps_set (i := 2) sc__law_all_words.nd rfl (Or.inl rfl) (pe_op op_cat (pv 2) (pv 3))))))))
  (pss_one (ps_ret (pv 2))))), ?_⟩
  try dsimp only [cxOf, Cx.nox, Cx.wish]
  obtain ⟨m, most, rfl, hm6, hmost, hpow, hm1, k⟩ := h
  have hpw : ∀ t, t ≤ most → m ^ t ≤ 300 := fun t ht => Nat.le_trans (Nat.pow_le_pow_right hm1 ht) hpow
  walk_at "go"
  intro fa nfa
  walk_at "go"
  intro la nla
  have s1 : Same H (L2.upd (L2.upd H fa (.lst [.str (S [])])) la (.lst [.str (S [])])) := (Same.new nfa).trans (Same.new nla)
  have hfa : (L2.upd (L2.upd H fa (.lst [.str (S [])])) la (.lst [.str (S [])])) fa = some (.lst (txV (aw m 0))) := (Same.new nla) _ _ upd_same
  have hla : (L2.upd (L2.upd H fa (.lst [.str (S [])])) la (.lst [.str (S [])])) la = some (.lst (txV (wl m 0))) := upd_same
  generalize L2.upd (L2.upd H fa (.lst [.str (S [])])) la (.lst [.str (S [])]) = H1 at *
  walk_at "go"
  try refine ⟨_, _, rfl, ?_⟩
  walk_at "go"
  refine forR (n := most) (fun t σ' H' => ∃ (fa la : Addr) (v4 v5 v6 v7 : Option V), σ' = [some (.str (S ((List.range m).map fun l => 97 + l))), some (.int (most : Nat)), some (.ref fa), some (.ref la), v4, v5, v6, v7] ∧ Same H H' ∧ H fa = none ∧ H' fa = some (.lst (txV (aw m t))) ∧ H' la = some (.lst (txV (wl m t)))) ⟨fa, la, _, _, _, _, rfl, s1, nfa, hfa, hla⟩ ?_ ?_
  · rintro t σ' H2 ht ⟨fa, la, v4, v5, v6, v7, rfl, s2, nfa2, hfa2, hla2⟩
    have hb := hpw t (by omega)
    have hb1 := hpw (t + 1) (by omega)
    have wlt := wl_len m t
    have wlt1 := wl_len m (t + 1)
    walk_at "go"
    intro lo nlo
    have hlo : (L2.upd H2 lo (.lst [])) lo = some (.lst (txV (lU m (wl m t) 0 0))) := upd_same
    have s3 : Same H2 (L2.upd H2 lo (.lst [])) := Same.new nlo
    generalize L2.upd H2 lo (.lst []) = H3 at *
    walk_at "go"
    refine rd_qIl (SqL.of (s3 _ _ hla2)) ?_
    refine forL (wl m t) (fun w => V.str (S w)) (fun i σ' H' => ∃ (v4 v6 v7 : Option V), σ' = [some (.str (S ((List.range m).map fun l => 97 + l))), some (.int (most : Nat)), some (.ref fa), some (.ref la), v4, some (.ref lo), v6, v7] ∧ Same H2 H' ∧ H' lo = some (.lst (txV (lU m (wl m t) i 0)))) ⟨_, _, _, rfl, s3, hlo⟩ (fun i σ' H' _ ⟨_, _, _, _, s, _⟩ => SqL.of (s _ _ hla2)) ?_ ?_
    · rintro i u σ' H4 hu ⟨v4, v6, v7, rfl, s4, hlo4⟩
      have hi : i < (wl m t).length := (List.getElem?_eq_some_iff.mp hu).1
      have hul := ((mem_wl t u).mp (List.mem_of_getElem? hu)).2
      have egu : (wl m t).getD i [] = u := getD_some hu
      walk_at "go"
      refine ⟨tyL hlo4, ?_⟩
      walk_at "go"
      refine lcS (l := (List.range m).map fun l => 97 + l) (fun _ => true) (fun c => .str (S (u ++ [c]))) (by rw [List.length_map, List.length_range]; omega) (fun _ => rfl) (fun y _ => pt_yes) ?_ ?_
      · intro c hc _ H5 s5 Q5 q5
        walk_at "go"
        refine rd_cat (by rw [hul]; show t + 1 ≤ 100000; omega) ?_
        exact q5 _ (Same.refl _)
      · intro D5 H5 nD5 s5 hD5
        have eD : (List.map (fun c => V.str (S (u ++ [c]))) (List.filter (fun _ => true) ((List.range m).map fun l => 97 + l))) = txV ((List.range m).map fun l => u ++ [97 + l]) := by
          rw [List.filter_eq_self.mpr (fun _ _ => rfl)]
          unfold txV
          rw [List.map_map, List.map_map]
          rfl
        rw [eD] at hD5
        have hlo5 := s5 _ _ hlo4
        have hll := lU_len m (wl m t) i 0
        have hmm : (wl m t).length * m ≤ 300 * 6 := Nat.mul_le_mul (by omega) hm6
        walk_at "go"
        refine ⟨lo, D5, _, _, rfl, rfl, hlo5, hD5, sz (by rw [txV_len, txV_len, List.length_map, List.length_range]; omega), ?_⟩
        refine ⟨_, _, _, rfl, Same.updN (s4.trans s5) nlo, ?_⟩
        rw [upd_same, ← lU_row hi]
        unfold lU
        rw [egu]
        unfold txV
        simp
    · rintro σ' H4 ⟨v4, v6, v7, rfl, s4, hlo4⟩
      rw [lU_all] at hlo4
      walk_at "go"
      have hfa4 := s4 _ _ hfa2
      have hal : (aw m t).length ≤ (t + 1) * 300 := by
        unfold aw
        have h := flat_len (wl m) 300 (List.range (t + 1)) fun n hn => by
          rw [wl_len]; have := List.mem_range.mp hn; exact hpw n (by omega)
        rw [List.length_range] at h
        exact h
      refine rd_catL hfa4 hlo4 (by rw [txV_len, txV_len]; omega) fun p5 np5 => ?_
      walk_at "go"
      refine ⟨p5, lo, _, _, _, _, rfl, (s2.trans s4).trans (Same.new np5), Same.nn (s2.trans s4) np5, ?_, ?_⟩
      · rw [upd_same, aw_succ]
        unfold txV
        rw [List.map_append]
      · exact (Same.new np5) _ _ hlo4
  · rintro σ' H2 ⟨fa, la, v4, v5, v6, v7, rfl, s2, nfa2, hfa2, hla2⟩
    walk_at "go"
    exact k fa H2 nfa2 s2 hfa2
end
end My
namespace My
open PySem PySem.Spec L2 SX LamX Mon
open PyProof.Rows hiding St
local macro_rules | `(tactic| walk_at "kb") => `(tactic| first | exact kb_str_str | exact kb_str_int | exact kb_str_bool | exact kb_str_list | exact kb_str_tuple | exact kb_int_str | exact kb_int_int | exact kb_int_bool | exact kb_int_list | exact kb_int_tuple | exact kb_bool_str | exact kb_bool_int | exact kb_bool_bool | exact kb_bool_list | exact kb_bool_tuple | exact kb_list_str | exact kb_list_int | exact kb_list_bool | exact kb_list_list | exact kb_list_tuple | exact kb_tuple_str | exact kb_tuple_int | exact kb_tuple_bool | exact kb_tuple_list | exact kb_tuple_tuple | exact kb_NoneType_str | exact kb_NoneType_int | exact kb_NoneType_bool | exact kb_NoneType_list | exact kb_NoneType_tuple)
local macro_rules | `(tactic| walk_at "hp") => `(tactic| first | assumption | exact upd_same | (refine (upd_ne (by first | assumption | (apply Ne.symm; assumption))).trans ?_; walk_at "hp"))
local macro_rules | `(tactic| walk_at "sq") => `(tactic| first | assumption | exact SqL.of (by walk_at "hp"))
local macro_rules | `(tactic| walk_at "sqt") => `(tactic| first | assumption | exact SqT.of (by walk_at "hp"))
local macro_rules | `(tactic| walk_at "ar") => `(tactic| first | omega | (dsimp only; omega) | (unfold CMul; omega) | (unfold CDiv; omega) | (unfold CPow; refine ⟨?_, ?_, ?_⟩ <;> decide) | (simp only [List.length_cons, List.length_nil]; decide))
local macro_rules | `(tactic| walk_at "rd") => `(tactic| first
  | with_reducible refine rd_seq ?_
  | with_reducible refine rd_asg ?_
  | with_reducible refine rd_if ?_
  | with_reducible refine rd_ret ?_
  | with_reducible refine rd_drop ?_
  | with_reducible refine rd_name ?_
  | with_reducible refine rd_sub ?_
  | ((with_reducible refine' rd_var ?e ?_); (case e => exact rfl))
  | with_reducible refine rd_c ?_
  | with_reducible refine rd_op ?_
  | with_reducible refine rd_un ?_
  | with_reducible refine rd_I0 ?_
  | ((with_reducible refine' rd_I ?c ?_); (case c => walk_at "ar"))
  | with_reducible refine rd_U ?_
  | with_reducible refine rd_eqI ?_
  | with_reducible refine rd_neI ?_
  | with_reducible refine rd_eqS ?_
  | with_reducible refine rd_neS ?_
  | with_reducible refine rd_eqB ?_
  | with_reducible refine rd_neB ?_
  | with_reducible refine rd_test ?_
  | with_reducible refine rd_B ?_
  | with_reducible refine rd_and ?_
  | with_reducible refine rd_or ?_
  | with_reducible refine rd_not ?_
  | with_reducible refine rd_andV ?_
  | with_reducible refine rd_orV ?_
  | with_reducible refine rd_notV ?_
  | with_reducible refine rd_ifE ?_
  | with_reducible refine rd_isN ?_
  | with_reducible refine rd_notN ?_
  | with_reducible refine rd_cons ?_
  | with_reducible refine rd_nil ?_
  | with_reducible refine rd_lst ?_
  | with_reducible refine rd_tup ?_
  | with_reducible refine rd_CB ?_
  | with_reducible refine rd_call ?_
  | with_reducible refine rd_sl ?_
  | with_reducible refine rd_part ?_
  | with_reducible refine rd_nopart ?_
  | with_reducible refine rd_par ?_
  | with_reducible refine rd_two ?_
  | with_reducible refine rd_next ?_
  | with_reducible refine rd_retN ?_
  | with_reducible refine rd_bool ?_
  | with_reducible refine rd_int ?_
  | with_reducible refine rd_intI ?_
  | with_reducible refine rd_intB ?_
  | with_reducible refine rd_ltS ?_
  | with_reducible refine rd_leS ?_
  | with_reducible refine rd_gtS ?_
  | with_reducible refine rd_geS ?_
  | with_reducible refine rd_inC ?_
  | with_reducible refine rd_notInC ?_
  | with_reducible refine rd_abs ?_
  | with_reducible refine rd_max2 ?_
  | with_reducible refine rd_min2 ?_
  | with_reducible refine rd_M1 ?_
  | with_reducible refine rd_isStr ?_
  | ((with_reducible refine' rd_len ?b ?_); (case b => (simp only [List.length_cons, List.length_nil]; decide)))
  | ((with_reducible refine' rd_listS ?b ?_); (case b => first | (simp only [List.length_take, List.length_cons, List.length_nil]; omega) | omega))
  | ((with_reducible refine' rd_isi ?ty ?h ?_); (case ty => first | exact ty_str | exact ty_int | exact ty_bl | exact ty_non | exact ty_lst (by walk_at "hp") | exact ty_tup (by walk_at "hp")); (case h => walk_at "kb"))
  | with_reducible refine rd_lc ?_
  | with_reducible refine rd_for ?_
  | with_reducible refine rd_iList ?_
  | with_reducible refine rd_iTup ?_
  | with_reducible refine rd_iRng1 ?_
  | with_reducible refine rd_iRng2 ?_
  | with_reducible refine rd_iRng3 ?_
  | with_reducible refine rd_iStr ?_
  | with_reducible refine rd_qIs ?_
  | with_reducible refine rd_whb ?_
  | ((with_reducible refine' rd_qIl ?sq ?_); (case sq => walk_at "sq"))
  | ((with_reducible refine' rd_qItu ?sq ?_); (case sq => walk_at "sqt"))
  | ((with_reducible refine' rd_qIr1 ?b1 ?b2 ?_); (case b1 => walk_at "ar"); (case b2 => walk_at "ar"))
  | ((with_reducible refine' rd_qIr2 ?b1 ?b2 ?b3 ?b4 ?_); (case b1 => walk_at "ar"); (case b2 => walk_at "ar"); (case b3 => walk_at "ar"); (case b4 => walk_at "ar"))
  | ((with_reducible refine' rd_qIr3 ?b1 ?b2 ?b3 ?b4 ?_); (case b1 => walk_at "ar"); (case b2 => walk_at "ar"); (case b3 => walk_at "ar"); (case b4 => walk_at "ar"))
  | ((with_reducible refine' rd_mulS ?b1 ?b2 ?b3 ?_); (case b1 => walk_at "ar"); (case b2 => walk_at "ar"); (case b3 => walk_at "ar"))
  | ((with_reducible refine' rd_slS_to ?b1 ?b2 ?_); (case b1 => walk_at "ar"); (case b2 => walk_at "ar"))
  | ((with_reducible refine' rd_slS_from ?b1 ?b2 ?_); (case b1 => walk_at "ar"); (case b2 => walk_at "ar"))
  | ((with_reducible refine' rd_slS_mid ?b1 ?b2 ?b3 ?b4 ?_); (case b1 => walk_at "ar"); (case b2 => walk_at "ar"); (case b3 => walk_at "ar"); (case b4 => walk_at "ar"))
  | ((with_reducible refine' rd_slL ?sq ?_); (case sq => walk_at "sq"))
  | with_reducible refine rd_true ?_
  | with_reducible refine rd_false ?_
  | with_reducible refine rd_nt ?_
  | with_reducible refine rd_nf ?_
  | ((with_reducible refine' rd_decT ?h ?_); (case h => omega))
  | ((with_reducible refine' rd_decF ?h ?_); (case h => omega))
  | ((with_reducible refine' rd_ndecT ?h ?_); (case h => omega))
  | ((with_reducible refine' rd_ndecF ?h ?_); (case h => omega))
  | ((with_reducible refine' rd_evT ?h ?_); (case h => first | exact rfl | (simp; done)))
  | ((with_reducible refine' rd_evF ?h ?_); (case h => first | exact rfl | (simp; done)))
  | ((with_reducible refine' rd_ixL ?sq ?a1 ?_); (case sq => walk_at "sq"); (case a1 => first | exact rfl | exact at_of (by omega) (by assumption)))
  | ((with_reducible refine' rd_ixT ?sq ?a1 ?_); (case sq => walk_at "sqt"); (case a1 => first | exact rfl | exact at_of (by omega) (by assumption)))
  | ((with_reducible refine' rd_lenL ?sq ?_); (case sq => walk_at "sq"))
  | ((with_reducible refine' rd_lenT ?sq ?_); (case sq => walk_at "sqt"))
  | ((with_reducible refine' rd_setL ?h ?j ?_); (case h => walk_at "hp"); (case j => exact rfl); (with_reducible refine id ?_))
  | ((with_reducible refine' rd_strlen ?l ?_); (case l => walk_at "ar"))
  | ((with_reducible refine' rd_cat ?l ?_); (case l => walk_at "ar")))
local macro_rules | `(tactic| walk_at "go") => `(tactic| ((try dsimp only); (repeat (walk_at "rd"))))
local macro_rules | `(tactic| walk_at "rd") => `(tactic| first
  | with_reducible refine rd_lstRg ?_
  | with_reducible refine rd_tRg1 ?_
  | with_reducible refine rd_tRg2 ?_
  | with_reducible refine rd_rg1 ?_
  | with_reducible refine rd_rg2 ?_
  | ((with_reducible refine' rd_qRg ?b ?_); (case b => refine ⟨?_, ?_, ?_, ?_⟩ <;> omega))
  | with_reducible refine rd_sortSet ?_
  | with_reducible refine rd_tDGet ?_
  | with_reducible refine rd_sDPut ?_
  | with_reducible refine rd_dnew ?_
  | with_reducible refine rd_iZipS ?_
  | with_reducible refine rd_zipS ?_
  | ((with_reducible refine' rd_inI ?sq ?_); (case sq => walk_at "sq"))
  | ((with_reducible refine' rd_notInI ?sq ?_); (case sq => walk_at "sq"))
  | with_reducible refine rd_chain ?_)

local macro_rules | `(tactic| walk_at "rd") => `(tactic| first
  | with_reducible refine rd_fld ?_
  | with_reducible refine rd_par3 ?_
  | with_reducible refine rd_sFld ?_
  | with_reducible refine rd_meth ?_
  | with_reducible refine rd_make ?_
  | with_reducible refine rd_iEnT ?_
  | with_reducible refine rd_iEnL ?_
  | with_reducible refine rd_iZipSL ?_
  | with_reducible refine rd_dIn ?_
  | with_reducible refine rd_dNotIn ?_
  | with_reducible refine rd_tDGet ?_
  | with_reducible refine rd_thenT ?_
  | with_reducible refine rd_sortLam ?_
  | with_reducible refine rd_sortLam1 ?_
  | with_reducible refine rd_dget1 ?_
  | with_reducible refine rd_dsetd ?_
  | with_reducible refine rd_dsetdT ?_
  | with_reducible refine rd_bmS ?_
  | with_reducible refine rd_tupRg ?_
  | with_reducible refine rd_bm ?_
  | ((with_reducible refine' rd_kTupT ?sq ?_); (case sq => walk_at "sqt"))
  | ((with_reducible refine' rd_kTupL ?sq ?_); (case sq => walk_at "sq"))
  | with_reducible refine rd_sDPut ?_
  | ((with_reducible refine' rd_enT ?sq ?_); (case sq => walk_at "sqt"))
  | ((with_reducible refine' rd_enL ?sq ?_); (case sq => walk_at "sq"))
  | ((with_reducible refine' rd_zipSL ?sq ?_); (case sq => walk_at "sq")))

section
variable {P : Program} {w : World} {K : PySem.W.Frag} {mg : Str → Option Value} {base : Heap}
section
variable {σ : St} {H : Hp} {tb : TS} {nx : St → Hp → Prop} {rt : VK} {bk ct : St → Hp → Prop}
/-- a for over a tuple of tuples of two, unpacked -/
theorem forTP {ls : List V} {p : Addr} {a b : Nat} (Pv : Nat → St → Hp → Prop) (h0 : Pv 0 σ H) (hG : ∀ i σ H, i ≤ ls.length → Pv i σ H → SqT K H p ls)
    (hs : ∀ i v σ H, ls[i]? = some v → Pv i σ H → ∃ T x y, v = .ref T ∧ SqT K H T [x, y] ∧ tb ⟨Pv (i + 1), rt, nx, Pv (i + 1)⟩ ((σ.set a (some x)).set b (some y)) H) (hd : ∀ σ H, Pv ls.length σ H → nx σ H) : ForG (Itt K p) (gp2 K a b) tb ⟨nx, rt, bk, ct⟩ σ H :=
  for_it (walk_tup (K := K) (a := p) (xs := ls)) Pv h0 hG (fun i v σ H H' hi pv y => by
    obtain ⟨rfl, hv⟩ := y
    obtain ⟨T, x, y, rfl, hT, h⟩ := hs i v σ _ hv pv
    exact rd_g2 hT h) hd
end
/-- the dict of first words: by pairs of numbers -/
def DW (H : Hp) (d : Addr) (val : Nat → List Nat → Nat) (ps : List (Nat × List Nat)) : Prop := ∃ kvs : List (List Key × V), H d = some (.dT kvs) ∧ kvs.length ≤ ps.length ∧ ∀ x y : Nat, valV kvs [kI x, kI y] = (ps.find? fun p => decide (p.1 = x) && decide (val p.1 p.2 = y)).map fun p => V.str (S p.2)
theorem DW.keep {H H' : Hp} {d : Addr} {val : Nat → List Nat → Nat} {ps : List (Nat × List Nat)} (h : DW H d val ps) (s : Same H H') : DW H' d val ps := let ⟨kvs, a, b, c⟩ := h; ⟨kvs, s _ _ a, b, c⟩
theorem DW.none {H : Hp} {d : Addr} {val : Nat → List Nat → Nat} (h : H d = some (.dT [])) : DW H d val [] := ⟨[], h, Nat.le_refl _, fun _ _ => rfl⟩
theorem DW.other {H : Hp} {d e : Addr} {o : HO} {val : Nat → List Nat → Nat} {ps : List (Nat × List Nat)} (h : DW H d val ps) (n : e ≠ d) : DW (L2.upd H e o) d val ps := let ⟨kvs, a, b, c⟩ := h; ⟨kvs, by rw [upd_ne n.symm]; exact a, b, c⟩
theorem find_old {val : Nat → List Nat → Nat} {ps : List (Nat × List Nat)} {x : Nat} {u : List Nat} {q : Nat × List Nat} (h : (ps.find? fun p => decide (p.1 = x) && decide (val p.1 p.2 = val x u)) = some q) (x' y' : Nat) :
    ((ps ++ [(x, u)]).find? fun p => decide (p.1 = x') && decide (val p.1 p.2 = y')) = ps.find? fun p => decide (p.1 = x') && decide (val p.1 p.2 = y') := by
  rw [List.find?_append]
  cases e : ps.find? fun p => decide (p.1 = x') && decide (val p.1 p.2 = y') with
  | some a => rfl
  | none =>
    rw [List.find?_cons]
    by_cases e2 : x = x' ∧ val x u = y'
    · obtain ⟨rfl, rfl⟩ := e2
      rw [h] at e; cases e
    · have e3 : (decide (x = x') && decide (val x u = y')) = false := by
        by_cases a : x = x'
        · by_cases b : val x u = y'
          · exact absurd ⟨a, b⟩ e2
          · rw [decide_eq_false b, Bool.and_false]
        · rw [decide_eq_false a, Bool.false_and]
      show (Option.none : Option (Nat × List Nat)).or _ = _
      dsimp only
      rw [e3]; rfl
/-- what setdefault leaves -/
theorem DW.step {H : Hp} {d b : Addr} {val : Nat → List Nat → Nat} {ps : List (Nat × List Nat)} {x : Nat} {u : List Nat} (h : DW H d val ps) (hl : ps.length < 100000) (hb : H b = some (.tup [vI x, vI (val x u)])) :
    ∃ (kvs : List (List Key × V)) (k : List Key) (b' : Addr), H d = some (.dT kvs) ∧ V.ref b = .ref b' ∧ H b' = some (.tup (k.map kV)) ∧ kvs.length < sizeLine ∧ (∀ v, valV kvs k = some v → DW H d val (ps ++ [(x, u)])) ∧ (valV kvs k = Option.none → DW (L2.upd H d (.dT (putK kvs k (.str (S u))))) d val (ps ++ [(x, u)])) := by
  obtain ⟨kvs, h1, h2, h3⟩ := h
  refine ⟨kvs, [kI x, kI (val x u)], b, h1, rfl, hb, szlt (by omega), fun v hv => ⟨kvs, h1, by rw [List.length_append]; omega, fun x' y' => ?_⟩, fun hn => ⟨_, upd_same, ?_, fun x' y' => ?_⟩⟩
  · rw [h3] at hv
    cases e : ps.find? fun p => decide (p.1 = x) && decide (val p.1 p.2 = val x u) with
    | none => rw [e] at hv; cases hv
    | some a => rw [find_old e, h3]
  · have := length_putK kvs [kI x, kI (val x u)] (V.str (S u))
    rw [List.length_append]
    show _ ≤ ps.length + 1
    omega
  · rw [h3] at hn
    have e : (ps.find? fun p => decide (p.1 = x) && decide (val p.1 p.2 = val x u)) = Option.none := by
      cases e : ps.find? fun p => decide (p.1 = x) && decide (val p.1 p.2 = val x u) with
      | none => rfl
      | some a => rw [e] at hn; cases hn
    rw [valV_put, List.find?_append]
    by_cases e2 : x' = x ∧ y' = val x u
    · obtain ⟨rfl, rfl⟩ := e2
      rw [if_pos rfl, e, List.find?_cons]
      simp
    · have ek : ¬ ([kI x', kI y'] = [kI x, kI (val x u)]) := fun z => e2 ⟨kI_inj.mp (List.cons.inj z).1, kI_inj.mp (List.cons.inj (List.cons.inj z).2).1⟩
      rw [if_neg ek, h3]
      have e3 : (decide (x = x') && decide (val x u = y')) = false := by
        by_cases a : x = x'
        · by_cases b : val x u = y'
          · exact absurd ⟨a.symm, b.symm⟩ e2
          · rw [decide_eq_false b, Bool.and_false]
        · rw [decide_eq_false a, Bool.false_and]
      cases e4 : ps.find? fun p => decide (p.1 = x') && decide (val p.1 p.2 = y') with
      | some a => rfl
      | none =>
        rw [List.find?_cons]
        dsimp only
        rw [e3]; rfl
theorem DW.get {H : Hp} {d : Addr} {val : Nat → List Nat → Nat} {N x : Nat} {ws : List (List Nat)} (h : DW H d val (pw N ws)) (hx : x < N) : ∃ kvs, H d = some (.dT kvs) ∧ ∀ y, (valV kvs [kI x, kI y]).getD .non = oV (ws.find? fun w => decide (val x w = y)) := by
  obtain ⟨kvs, h1, h2, h3⟩ := h
  refine ⟨kvs, h1, fun y => ?_⟩
  rw [h3, find_pw hx (fun x w => decide (val x w = y))]
  cases ws.find? fun w => decide (val x w = y) <;> rfl
/-- the rows of products -/
theorem Tb.row {H : Hp} {p : Addr} {T : Tab} {N : Nat} {f : Nat → List Nat} (h : Tb false false H p ((List.range N).map f)) : ∃ as : List Addr, H p = some (.lst (refs as)) ∧ as.length = N ∧ ∀ i, i < N → ∃ a, as[i]? = some a ∧ H a = some (.lst (rowV (f i))) := by
  obtain ⟨as, h1, h2, h3⟩ := h
  rw [List.length_map, List.length_range] at h2
  refine ⟨as, h1, h2, fun i hi => ?_⟩
  have h4 : i < as.length := by omega
  exact ⟨as[i], List.getElem?_eq_getElem h4, h3 i _ _ (List.getElem?_eq_getElem h4) (by rw [List.getElem?_map, List.getElem?_range hi]; rfl)⟩
theorem prow_get {T : Tab} {m N x y : Nat} (hy : y < N) : (rowV (prow T m N x))[y]? = some (vI (run T x (W T m N y))) := by
  unfold prow rowV
  rw [List.getElem?_map, List.getElem?_map, List.getElem?_range hy]; rfl
theorem oV_ne {o : Option (List Nat)} : decide (oV o = .non) = decide (o = none) := by
  cases o with
  | none => rfl
  | some w => simp [oV]
theorem oV_inj {o p : Option (List Nat)} : oV o = oV p ↔ o = p := by
  constructor
  · intro h
    cases o with
    | none => cases p with
      | none => rfl
      | some v => cases h
    | some w => cases p with
      | none => cases h
      | some v => exact congrArg some (S_inj (V.str.inj h))
  · intro h; rw [h]
theorem scal_oV (o p : Option (List Nat)) : scal (oV o) (oV p) = true := by cases o <;> cases p <;> rfl
theorem aw_len {m most : Nat} (h1 : 1 ≤ m) (h9 : most ≤ 9) (hp : m ^ most ≤ 300) : (aw m most).length ≤ 3000 := by
  unfold aw
  have h := flat_len (wl m) 300 (List.range (most + 1)) fun n hn => by
    rw [wl_len]
    have := List.mem_range.mp hn
    exact Nat.le_trans (Nat.pow_le_pow_right h1 (by omega)) hp
  rw [List.length_range] at h
  omega
theorem ok__law_by_words {f : Addr} {fd : FuncData} {z : Zed} (Z : Zok K mg z) (F : Fun K "_law_by_words" "_law_by_words" s__law_by_words f fd) (T : Txt K mg) (C__law_all_words : Cal P w K mg base 1 "_law_all_words" (sp__law_all_words K)) (C_Monoid_of_word : C8.Met P w K mg base 2 z.C "of_word" (sp_Monoid_of_word z K) []) (C_Monoid_least_right : C8.Met P w K mg base 3 z.C "least_right" (sp_Monoid_least_right z K) []) (C_Monoid_least_left : C8.Met P w K mg base 3 z.C "least_left" (sp_Monoid_least_left z K) []) : FnOk P w K mg base CX0 4 f fd ["monoid", "products", "letters", "most"] (sp__law_by_words z K) := by
  refine F.ok sc__law_by_words (fun vs H Q E h => by repeat (first | (obtain ⟨rfl, _⟩ := h; rfl) | obtain ⟨_, h⟩ := h)) (fun cdv A outer s H vs Q E hr h => ?_)
  refine ⟨_, (pss_cons (ps_par (i := 4) (j := 5) rfl sc__law_by_words.nd rfl rfl (by decide) rfl rfl (pa_cons pe_dnewT (pa_cons pe_dnewT pa_nil)) (by rfl))
  (pss_cons (ps_for PassesOwn.never rfl (pi_list (pe_c C__law_all_words hr (by decide) rfl (pa_cons (pv 2) (pa_cons (pv 3) pa_nil)))) (pg_name (i := 6) sc__law_by_words.nd rfl (Or.inl rfl))
  (pss_cons (ps_set (i := 7) sc__law_by_words.nd rfl (Or.inl rfl) (C8.pe_mt C_Monoid_of_word hr (by decide) (pv 0) (pa_cons (pv 6) pa_nil)))
  (pss_one (ps_for PassesOwn.never rfl (pi_range1 rfl T.n_range (pa_cons (pe_callB cq_len rfl T.n_len boot_len (pa_cons (pv 1) pa_nil)) pa_nil)) (pg_name (i := 8) sc__law_by_words.nd rfl (Or.inl rfl))
  (pss_cons (ps_expr (pe_dsetdT (hu_of hr) (pv 4) (pe_tup (pa_cons (pv 8) (pa_cons (pe_ix ix_list (pe_ix ix_list (pv 1) (pv 8) (fun _ _ => rfl)) (pv 7) (fun _ _ => rfl)) pa_nil))) (pv 6) ⟨rfl, rfl, rfl, rfl⟩))
  (pss_one (ps_expr (pe_dsetdT (hu_of hr) (pv 5) (pe_tup (pa_cons (pv 8) (pa_cons (pe_ix ix_list (pe_ix ix_list (pv 1) (pv 7) (fun _ _ => rfl)) (pv 8) (fun _ _ => rfl)) pa_nil))) (pv 6) ⟨rfl, rfl, rfl, rfl⟩))))))))
  (pss_cons (ps_for PassesOwn.never rfl (pi_range1 rfl T.n_range (pa_cons (pe_callB cq_len rfl T.n_len boot_len (pa_cons (pv 1) pa_nil)) pa_nil)) (pg_name (i := 9) sc__law_by_words.nd rfl (Or.inl rfl))
  (pss_one (ps_for PassesOwn.never rfl (pi_range1 rfl T.n_range (pa_cons (pe_callB cq_len rfl T.n_len boot_len (pa_cons (pv 1) pa_nil)) pa_nil)) (pg_name (i := 10) sc__law_by_words.nd rfl (Or.inl rfl))
  (pss_cons (ps_par (i := 11) (j := 12) rfl sc__law_by_words.nd rfl rfl (by decide) rfl rfl (pa_cons (C8.pe_mt C_Monoid_least_right hr (by decide) (pv 0) (pa_cons (pv 9) (pa_cons (pv 10) pa_nil))) (pa_cons (C8.pe_mt C_Monoid_least_left hr (by decide) (pv 0) (pa_cons (pv 9) (pa_cons (pv 10) pa_nil))) pa_nil)) (by rfl))
  (pss_one (ps_for PassesOwn.never rfl (pi_tup (pe_tup (pa_cons (pe_tup (pa_cons (pv 11) (pa_cons (pe_dget1 (hu_of hr) (pv 4) (pe_tup (pa_cons (pv 9) (pa_cons (pv 10) pa_nil))) ⟨rfl, rfl, rfl, rfl⟩) pa_nil))) (pa_cons (pe_tup (pa_cons (pv 12) (pa_cons (pe_dget1 (hu_of hr) (pv 5) (pe_tup (pa_cons (pv 9) (pa_cons (pv 10) pa_nil))) ⟨rfl, rfl, rfl, rfl⟩) pa_nil))) pa_nil)))) (pg_two (i := 13) (j := 14) K rfl rfl sc__law_by_words.nd rfl (Or.inl rfl) rfl (Or.inl rfl))
  (pss_one (ps_if (PW.pt (pw_or (PW.pt (pw_and (pt_cmp (pc_notN (pv 14))) (pw_and1 (pt_cmpR op_ne (pv 13) (pv 14) (nomark _))))) (pw_or1 (PW.pt (pw_and (pt_cmp (pc_isN (pv 14))) (pw_and (pt_cmp (pc_notN (pv 13))) (pw_and1 (pt_cmpR op_le (pe_callB cq_lenS rfl T.n_len boot_len (pa_cons (pv 13) pa_nil)) (pv 3) (nomark _))))))))) (pss_one (ps_ret pe_bl)) pss_nil))))))))
  (pss_one (ps_ret pe_bl))))), ?_⟩
  try dsimp only [cxOf, Cx.nox, Cx.wish]
  obtain ⟨a, me, pr, T, m, N, most, rfl, O, G, hN14, hm9, hpow, hpr, k⟩ := h
  have hm1 := G.m1
  have hm6 := G.m6
  have g := G.g
  have p := G.p
  have hpr' : Tb false false H pr ((List.range N).map fun x => prow T m N x) := hpr
  obtain ⟨as, hpa, hal, hrow⟩ := Tb.row (T := T) hpr'
  obtain ⟨dx, r0, t0, l0, hx, _⟩ := O.ins
  walk_at "go"
  intro d1 nd1
  walk_at "go"
  intro d2 nd2
  have s0 : Same H (L2.upd (L2.upd H d1 (.dT [])) d2 (.dT [])) := (Same.new nd1).trans (Same.new nd2)
  have D1 : DW (L2.upd (L2.upd H d1 (.dT [])) d2 (.dT [])) d1 (run T) (pw N []) := .none ((Same.new nd2) _ _ upd_same)
  have D2 : DW (L2.upd (L2.upd H d1 (.dT [])) d2 (.dT [])) d2 (fun x w => la T m N w x) (pw N []) := .none upd_same
  have h12 : d1 ≠ d2 := ne_of_none (show (L2.upd H d1 (.dT [])) d1 = some (.dT []) from upd_same) nd2
  have nd2H : H d2 = none := Same.nn (Same.new nd1) nd2
  generalize L2.upd (L2.upd H d1 (.dT [])) d2 (.dT []) = H1 at *
  walk_at "go"
  refine ⟨m, most, rfl, hm6, hm9, hpow, hm1, fun pw1 H2 npw s1 hpw => ?_⟩
  have s2 := s0.trans s1
  have D1 := D1.keep s1
  have D2 := D2.keep s1
  have hawl := aw_len hm1 hm9 hpow
  walk_at "go"
  try refine rd_qIl (SqL.of hpw) ?_
  refine forL (aw m most) (fun w => V.str (S w)) (fun i σ' H' => ∃ (v6 v7 v8 v9 v10 v11 v12 v13 v14 : Option V), σ' = [some (.ref a), some (.ref pr), some (.str (S ((List.range m).map fun l => 97 + l))), some (.int (most : Nat)), some (.ref d1), some (.ref d2), v6, v7, v8, v9, v10, v11, v12, v13, v14] ∧ Same H H' ∧ H' pw1 = some (.lst (txV (aw m most))) ∧ DW H' d1 (run T) (pw N ((aw m most).take i)) ∧ DW H' d2 (fun x w => la T m N w x) (pw N ((aw m most).take i))) ⟨_, _, _, _, _, _, _, _, _, rfl, s2, hpw, D1, D2⟩ (fun i σ' H' _ ⟨_, _, _, _, _, _, _, _, _, _, _, q, _⟩ => SqL.of q) ?_ ?_
  · rintro i u σ' H3 hu ⟨v6, v7, v8, v9, v10, v11, v12, v13, v14, rfl, s3, hpw3, E1, E2⟩
    have hum := mem_aw.mp (List.mem_of_getElem? hu)
    have hi : i < (aw m most).length := (List.getElem?_eq_some_iff.mp hu).1
    have hru := g.run_lt u hum.1
    walk_at "go"
    refine ⟨a, dx, _, rfl, s3 _ _ hx, rfl, ?_⟩
    walk_at "go"
    refine ⟨a, me, T, m, N, u, rfl, O.same s3, G, hum.1, by omega, fun H4 s4 => ?_⟩
    have s04 := s3.trans s4
    have hpw4 := s4 _ _ hpw3
    have E1 := E1.keep s4
    have E2 := E2.keep s4
    walk_at "go"
    refine rd_lenL (SqL.of (s04 _ _ hpa)) ?_
    rw [refs_len, hal]
    walk_at "go"
    have hpl : (pw N ((aw m most).take i)).length ≤ 3000 * 14 := by
      rw [pw_len]
      exact Nat.mul_le_mul (by rw [List.length_take]; omega) hN14
    refine forR (n := N) (fun j σ' H' => ∃ (v8 v9 v10 v11 v12 v13 v14 : Option V), σ' = [some (.ref a), some (.ref pr), some (.str (S ((List.range m).map fun l => 97 + l))), some (.int (most : Nat)), some (.ref d1), some (.ref d2), some (.str (S u)), some (vI (run T 0 u)), v8, v9, v10, v11, v12, v13, v14] ∧ Same H H' ∧ H' pw1 = some (.lst (txV (aw m most))) ∧ DW H' d1 (run T) (pw N ((aw m most).take i) ++ (List.range j).map fun x => (x, u)) ∧ DW H' d2 (fun x w => la T m N w x) (pw N ((aw m most).take i) ++ (List.range j).map fun x => (x, u))) ⟨_, _, _, _, _, _, _, rfl, s04, hpw4, by simpa using E1, by simpa using E2⟩ ?_ ?_
    · rintro j σ' H5 hj ⟨v8, v9, v10, v11, v12, v13, v14, rfl, s5, hpw5, F1, F2⟩
      obtain ⟨ra, hra1, hra2⟩ := hrow j hj
      obtain ⟨rb, hrb1, hrb2⟩ := hrow (run T 0 u) hru
      have hlj : (pw N ((aw m most).take i) ++ (List.range j).map fun x => (x, u)).length < 100000 := by
        rw [List.length_append, List.length_map, List.length_range]; omega
      have hrs : (List.range (j + 1)).map (fun x => (x, u)) = (List.range j).map (fun x => (x, u)) ++ [(j, u)] := by rw [List.range_succ, List.map_append]; rfl
      rw [Int.zero_add]
      obtain ⟨kv1, hk1, _⟩ := id F1
      walk_at "go"
      refine rd_dg0T hk1 ?_
      walk_at "go"
      refine rd_ixL (SqL.of (s5 _ _ hpa)) (at_vI (getElem?_refs hra1)) ?_
      walk_at "go"
      refine rd_ixL (SqL.of (s5 _ _ hra2)) (at_vI (prow_get hru)) ?_
      rw [g.run_W p hj hum.1]
      walk_at "go"
      intro q1 nq1
      have s6 := s5.trans (Same.new (o := .tup [vI j, vI (run T j u)]) nq1)
      have hpw6 := (Same.new (o := .tup [vI j, vI (run T j u)]) nq1) _ _ hpw5
      have F1 := F1.keep (Same.new (o := .tup [vI j, vI (run T j u)]) nq1)
      have F2 := F2.keep (Same.new (o := .tup [vI j, vI (run T j u)]) nq1)
      have hq6 : (L2.upd H5 q1 (.tup [vI j, vI (run T j u)])) q1 = some (.tup [vI j, vI (run T j u)]) := upd_same
      generalize L2.upd H5 q1 (.tup [vI j, vI (run T j u)]) = H6 at *
      walk_at "go"
      have fin : ∀ H7, (∀ b o, b ≠ d1 → H6 b = some o → H7 b = some o) → DW H7 d1 (run T) (pw N ((aw m most).take i) ++ ((List.range j).map (fun x => (x, u)) ++ [(j, u)])) →
          tDrop (tDSetdT (tVar 5) (tTup (tCons (tVar 8) (tCons (tOp (rIxL K) (tOp (rIxL K) (tVar 1) (tVar 7)) (tVar 8)) tNil))) (tVar 6)) ⟨(fun σ' H' => ∃ (v8 v9 v10 v11 v12 v13 v14 : Option V), σ' = [some (.ref a), some (.ref pr), some (.str (S ((List.range m).map fun l => 97 + l))), some (.int (most : Nat)), some (.ref d1), some (.ref d2), some (.str (S u)), some (vI (run T 0 u)), v8, v9, v10, v11, v12, v13, v14] ∧ Same H H' ∧ H' pw1 = some (.lst (txV (aw m most))) ∧ DW H' d1 (run T) (pw N ((aw m most).take i) ++ (List.range (j + 1)).map fun x => (x, u)) ∧ DW H' d2 (fun x w => la T m N w x) (pw N ((aw m most).take i) ++ (List.range (j + 1)).map fun x => (x, u))), Q, (fun _ _ => True), (fun _ _ => True)⟩ [some (.ref a), some (.ref pr), some (.str (S ((List.range m).map fun l => 97 + l))), some (.int (most : Nat)), some (.ref d1), some (.ref d2), some (.str (S u)), some (vI (run T 0 u)), some (vI j), v9, v10, v11, v12, v13, v14] H7 := by
        intro H7 X7 G1
        have hdd : ∀ b o, H b = some o → b ≠ d1 := fun b o e => ne_of_none e nd1
        have s7 : Same H H7 := fun b o e => X7 _ _ (hdd b o e) (s6 _ _ e)
        have hpw7 := X7 _ _ (fun z => by rw [z] at hpw6; obtain ⟨_, q, _⟩ := F1; rw [q] at hpw6; cases hpw6) hpw6
        have G2 : DW H7 d2 (fun x w => la T m N w x) _ := let ⟨kvs, q1, q2, q3⟩ := F2; ⟨kvs, X7 _ _ h12.symm q1, q2, q3⟩
        obtain ⟨kv2, hk2, _⟩ := id G2
        walk_at "go"
        refine rd_dg0T hk2 ?_
        walk_at "go"
        refine rd_ixL (SqL.of (s7 _ _ hpa)) (at_vI (getElem?_refs hrb1)) ?_
        walk_at "go"
        refine rd_ixL (SqL.of (s7 _ _ hrb2)) (at_vI (prow_get hj)) ?_
        have ela : run T (run T 0 u) (W T m N j) = la T m N u j := by unfold la; rw [run_app]
        rw [ela]
        walk_at "go"
        intro q2 nq2
        have s8 := s7.trans (Same.new (o := .tup [vI j, vI (la T m N u j)]) nq2)
        have hpw8 := (Same.new (o := .tup [vI j, vI (la T m N u j)]) nq2) _ _ hpw7
        have G1 := G1.keep (Same.new (o := .tup [vI j, vI (la T m N u j)]) nq2)
        have G2 := G2.keep (Same.new (o := .tup [vI j, vI (la T m N u j)]) nq2)
        have hq8 : (L2.upd H7 q2 (.tup [vI j, vI (la T m N u j)])) q2 = some (.tup [vI j, vI ((fun x w => la T m N w x) j u)]) := upd_same
        generalize L2.upd H7 q2 (.tup [vI j, vI (la T m N u j)]) = H8 at *
        walk_at "go"
        have fin2 : ∀ H9, (∀ b o, b ≠ d2 → H8 b = some o → H9 b = some o) → DW H9 d2 (fun x w => la T m N w x) (pw N ((aw m most).take i) ++ (List.range j).map (fun x => (x, u)) ++ [(j, u)]) → Same H H9 ∧ H9 pw1 = some (.lst (txV (aw m most))) ∧ DW H9 d1 (run T) (pw N ((aw m most).take i) ++ (List.range (j + 1)).map fun x => (x, u)) ∧ DW H9 d2 (fun x w => la T m N w x) (pw N ((aw m most).take i) ++ (List.range (j + 1)).map fun x => (x, u)) := by
          intro H9 X9 I2
          refine ⟨fun b o e => X9 _ _ (ne_of_none e nd2H) (s8 _ _ e), X9 _ _ (fun z => by rw [z] at hpw8; obtain ⟨_, q, _⟩ := G2; rw [q] at hpw8; cases hpw8) hpw8, ?_, by rw [hrs, ← List.append_assoc]; exact I2⟩
          rw [hrs]
          exact let ⟨kvs, q1, q2, q3⟩ := G1; ⟨kvs, X9 _ _ h12 q1, q2, q3⟩
        obtain ⟨kvs, kk1, b1, e1, e2, e3, e4, e5, e6⟩ := DW.step G2 hlj hq8
        exact ⟨kvs, kk1, b1, e1, e2, e3, e4, fun v hv => ⟨_, _, _, _, _, _, _, rfl, fin2 _ (fun _ _ _ e => e) (e5 v hv)⟩, fun hn => ⟨_, _, _, _, _, _, _, rfl, fin2 _ (fun b o n e => by rw [upd_ne n]; exact e) (e6 hn)⟩⟩
      obtain ⟨kvs, kk1, b1, e1, e2, e3, e4, e5, e6⟩ := DW.step F1 hlj hq6
      rw [List.append_assoc] at e5 e6
      exact ⟨kvs, kk1, b1, e1, e2, e3, e4, fun v hv => fin _ (fun _ _ _ e => e) (e5 v hv), fun hn => fin _ (fun b o n e => by rw [upd_ne n]; exact e) (e6 hn)⟩
    · rintro σ' H5 ⟨v8, v9, v10, v11, v12, v13, v14, rfl, s5, hpw5, F1, F2⟩
      have et : (aw m most).take (i + 1) = (aw m most).take i ++ [u] := by rw [List.take_succ, hu]; rfl
      walk_at "go"
      exact ⟨_, _, _, _, _, _, _, _, _, rfl, s5, hpw5, by rw [et, pw_snoc]; exact F1, by rw [et, pw_snoc]; exact F2⟩
  · rintro σ' H3 ⟨v6, v7, v8, v9, v10, v11, v12, v13, v14, rfl, s3, hpw3, E1, E2⟩
    rw [List.take_length] at E1 E2
    walk_at "go"
    refine rd_lenL (SqL.of (s3 _ _ hpa)) ?_
    rw [refs_len, hal]
    walk_at "go"
    refine forR (n := N) (fun x σ' H' => ∃ (v6 v7 v8 v9 v10 v11 v12 v13 v14 : Option V), σ' = [some (.ref a), some (.ref pr), some (.str (S ((List.range m).map fun l => 97 + l))), some (.int (most : Nat)), some (.ref d1), some (.ref d2), v6, v7, v8, v9, v10, v11, v12, v13, v14] ∧ Same H3 H') ⟨_, _, _, _, _, _, _, _, _, rfl, Same.refl _⟩ ?_ ?_
    · rintro x σ' H4 hxN ⟨v6, v7, v8, v9, v10, v11, v12, v13, v14, rfl, s4⟩
      walk_at "go"
      refine rd_lenL (SqL.of ((s3.trans s4) _ _ hpa)) ?_
      rw [refs_len, hal]
      walk_at "go"
      refine forR (n := N) (fun y σ' H' => ∃ (v6 v7 v8 v10 v11 v12 v13 v14 : Option V), σ' = [some (.ref a), some (.ref pr), some (.str (S ((List.range m).map fun l => 97 + l))), some (.int (most : Nat)), some (.ref d1), some (.ref d2), v6, v7, v8, some (vI x), v10, v11, v12, v13, v14] ∧ Same H3 H') ⟨_, _, _, _, _, _, _, _, by rw [Int.zero_add]; rfl, s4⟩ ?_ ?_
      · rintro y σ' H5 hyN ⟨v6, v7, v8, v10, v11, v12, v13, v14, rfl, s5⟩
        rw [Int.zero_add]
        have s05 := s3.trans s5
        walk_at "go"
        refine ⟨a, dx, _, rfl, s05 _ _ hx, rfl, ?_⟩
        walk_at "go"
        refine ⟨a, me, T, m, N, x, y, rfl, O.same s05, G, hxN, hyN, fun o1 H6 lw1 s6 => ?_⟩
        have s06 := s05.trans s6
        walk_at "go"
        refine ⟨a, dx, _, rfl, s06 _ _ hx, rfl, ?_⟩
        walk_at "go"
        refine ⟨a, me, T, m, N, x, y, rfl, O.same s06, G, hxN, hyN, fun o2 H7 lw2 s7 => ?_⟩
        have s37 := (s5.trans s6).trans s7
        have E1' := E1.keep s37
        have E2' := E2.keep s37
        obtain ⟨kv1, hk1, hv1⟩ := E1'.get hxN
        obtain ⟨kv2, hk2, hv2⟩ := E2'.get hxN
        have hv1 := hv1 y
        have hv2 := hv2 y
        obtain ⟨f1, f2⟩ := find_lp (most := most) lw1
        obtain ⟨g1, g2⟩ := find_lp (most := most) lw2
        have lk1 : ∀ w, o1 = some w → w.length < N := fun w e => lw_len hxN (fun n c hn hc => g.lt n c hn hc) (by rw [← e]; exact lw1)
        have lk2 : ∀ w, o2 = some w → w.length < N := fun w e => ll_len g p hxN (by rw [← e]; exact lw2)
        walk_at "go"
        refine rd_dg0T hk1 ?_
        walk_at "go"
        intro t1 nt1
        walk_at "go"
        refine rd_dgT [kI x, kI y] ((Same.new nt1) _ _ hk1) upd_same ?_
        rw [hv1]
        walk_at "go"
        intro t2 nt2
        have r2 : Same H7 (L2.upd (L2.upd H7 t1 (.tup [vI x, vI y])) t2 (.tup [oV o1, oV ((aw m most).find? fun w => decide (run T x w = y))])) := (Same.new nt1).trans (Same.new nt2)
        have ht2 : (L2.upd (L2.upd H7 t1 (.tup [vI x, vI y])) t2 (.tup [oV o1, oV ((aw m most).find? fun w => decide (run T x w = y))])) t2 = some (.tup [oV o1, oV ((aw m most).find? fun w => decide (run T x w = y))]) := upd_same
        show tCons _ _ _ (L2.upd (L2.upd H7 t1 (.tup [vI x, vI y])) t2 (.tup [oV o1, oV ((aw m most).find? fun w => decide (run T x w = y))])) _
        generalize L2.upd (L2.upd H7 t1 (.tup [vI x, vI y])) t2 (.tup [oV o1, oV ((aw m most).find? fun w => decide (run T x w = y))]) = H8 at *
        walk_at "go"
        refine rd_dg0T (r2 _ _ hk2) ?_
        walk_at "go"
        intro t3 nt3
        walk_at "go"
        refine rd_dgT [kI x, kI y] ((Same.new nt3) _ _ (r2 _ _ hk2)) upd_same ?_
        rw [hv2]
        walk_at "go"
        intro t4 nt4
        have r4 : Same H8 (L2.upd (L2.upd H8 t3 (.tup [vI x, vI y])) t4 (.tup [oV o2, oV ((aw m most).find? fun w => decide (la T m N w x = y))])) := (Same.new nt3).trans (Same.new nt4)
        have ht4 : (L2.upd (L2.upd H8 t3 (.tup [vI x, vI y])) t4 (.tup [oV o2, oV ((aw m most).find? fun w => decide (la T m N w x = y))])) t4 = some (.tup [oV o2, oV ((aw m most).find? fun w => decide (la T m N w x = y))]) := upd_same
        show tNil _ (L2.upd (L2.upd H8 t3 (.tup [vI x, vI y])) t4 (.tup [oV o2, oV ((aw m most).find? fun w => decide (la T m N w x = y))])) _
        have ht2' := r4 _ _ ht2
        have s9 := (s37.trans r2).trans r4
        generalize L2.upd (L2.upd H8 t3 (.tup [vI x, vI y])) t4 (.tup [oV o2, oV ((aw m most).find? fun w => decide (la T m N w x = y))]) = H9 at *
        walk_at "go"
        intro t5 nt5
        have r5 : Same H9 (L2.upd H9 t5 (.tup [.ref t2, .ref t4])) := Same.new nt5
        have ht5 : (L2.upd H9 t5 (.tup [.ref t2, .ref t4])) t5 = some (.tup [.ref t2, .ref t4]) := upd_same
        have ht2' := r5 _ _ ht2'
        have ht4' := r5 _ _ ht4
        have s10 := s9.trans r5
        show qItu K _ (L2.upd H9 t5 (.tup [.ref t2, .ref t4])) _
        generalize L2.upd H9 t5 (.tup [.ref t2, .ref t4]) = H10 at *
        refine rd_qItu (SqT.of ht5) ?_
        refine forTP (K := K) (ls := [.ref t2, .ref t4]) (fun i σ' H' => ∃ (v13 v14 : Option V), σ' = [some (.ref a), some (.ref pr), some (.str (S ((List.range m).map fun l => 97 + l))), some (.int (most : Nat)), some (.ref d1), some (.ref d2), v6, v7, v8, some (vI x), some (.int (y : Nat)), some (oV o1), some (oV o2), v13, v14] ∧ Same H10 H') ⟨_, _, rfl, Same.refl _⟩ (fun i σ' H' _ ⟨_, _, _, q⟩ => SqT.of (q _ _ ht5)) ?_ ?_
        · rintro i v σ' H' hv ⟨v13, v14, rfl, s11⟩
          obtain ⟨o, d, t, rfl, ht, fo1, fo2, lk⟩ : ∃ (o d : Option (List Nat)) (t : Addr), v = .ref t ∧ H10 t = some (.tup [oV o, oV d]) ∧ (∀ w, d = some w → o = some w) ∧ (d = none → ∀ w, o = some w → most < w.length) ∧ (∀ w, o = some w → w.length < N) := by
            match i, hv with
            | 0, hv => cases hv; exact ⟨o1, _, t2, rfl, ht2', f1, f2, lk1⟩
            | 1, hv => cases hv; exact ⟨o2, _, t4, rfl, ht4', g1, g2, lk2⟩
            | n + 2, hv => cases hv
          cases d with
          | some wd =>
            have eo := fo1 wd rfl
            subst eo
            refine ⟨t, .str (S wd), .str (S wd), rfl, SqT.of (s11 _ _ ht), ?_⟩
            walk_at "go"
            exact ⟨_, _, rfl, s11⟩
          | none =>
            cases o with
            | none =>
              refine ⟨t, .non, .non, rfl, SqT.of (s11 _ _ ht), ?_⟩
              walk_at "go"
              exact ⟨_, _, rfl, s11⟩
            | some wo =>
              have h1 := fo2 rfl wo rfl
              have h2 := lk wo rfl
              refine ⟨t, .str (S wo), .non, rfl, SqT.of (s11 _ _ ht), ?_⟩
              walk_at "go"
              exact ⟨_, _, rfl, s11⟩
        · rintro σ' H' ⟨v13, v14, rfl, s11⟩
          walk_at "go"
          exact ⟨_, _, _, _, _, _, _, _, rfl, s10.trans s11⟩
      · rintro σ' H5 ⟨v6, v7, v8, v10, v11, v12, v13, v14, rfl, s5⟩
        walk_at "go"
        exact ⟨_, _, _, _, _, _, _, _, _, rfl, s5⟩
    · rintro σ' H4 ⟨v6, v7, v8, v9, v10, v11, v12, v13, v14, rfl, s4⟩
      walk_at "go"
      exact k H4 (s3.trans s4)
end
end My
namespace My
open PySem PySem.Spec L2 SX LamX Mon
open PyProof.Rows hiding St
local macro_rules | `(tactic| walk_at "kb") => `(tactic| first | exact kb_str_str | exact kb_str_int | exact kb_str_bool | exact kb_str_list | exact kb_str_tuple | exact kb_int_str | exact kb_int_int | exact kb_int_bool | exact kb_int_list | exact kb_int_tuple | exact kb_bool_str | exact kb_bool_int | exact kb_bool_bool | exact kb_bool_list | exact kb_bool_tuple | exact kb_list_str | exact kb_list_int | exact kb_list_bool | exact kb_list_list | exact kb_list_tuple | exact kb_tuple_str | exact kb_tuple_int | exact kb_tuple_bool | exact kb_tuple_list | exact kb_tuple_tuple | exact kb_NoneType_str | exact kb_NoneType_int | exact kb_NoneType_bool | exact kb_NoneType_list | exact kb_NoneType_tuple)
local macro_rules | `(tactic| walk_at "hp") => `(tactic| first | assumption | exact upd_same | (refine (upd_ne (by first | assumption | (apply Ne.symm; assumption))).trans ?_; walk_at "hp"))
local macro_rules | `(tactic| walk_at "sq") => `(tactic| first | assumption | exact SqL.of (by walk_at "hp"))
local macro_rules | `(tactic| walk_at "sqt") => `(tactic| first | assumption | exact SqT.of (by walk_at "hp"))
local macro_rules | `(tactic| walk_at "ar") => `(tactic| first | omega | (dsimp only; omega) | (unfold CMul; omega) | (unfold CDiv; omega) | (unfold CPow; refine ⟨?_, ?_, ?_⟩ <;> decide) | (simp only [List.length_cons, List.length_nil]; decide))
local macro_rules | `(tactic| walk_at "rd") => `(tactic| first
  | with_reducible refine rd_seq ?_
  | with_reducible refine rd_asg ?_
  | with_reducible refine rd_if ?_
  | with_reducible refine rd_ret ?_
  | with_reducible refine rd_drop ?_
  | with_reducible refine rd_name ?_
  | with_reducible refine rd_sub ?_
  | ((with_reducible refine' rd_var ?e ?_); (case e => exact rfl))
  | with_reducible refine rd_c ?_
  | with_reducible refine rd_op ?_
  | with_reducible refine rd_un ?_
  | with_reducible refine rd_I0 ?_
  | ((with_reducible refine' rd_I ?c ?_); (case c => walk_at "ar"))
  | with_reducible refine rd_U ?_
  | with_reducible refine rd_eqI ?_
  | with_reducible refine rd_neI ?_
  | with_reducible refine rd_eqS ?_
  | with_reducible refine rd_neS ?_
  | with_reducible refine rd_eqB ?_
  | with_reducible refine rd_neB ?_
  | with_reducible refine rd_test ?_
  | with_reducible refine rd_B ?_
  | with_reducible refine rd_and ?_
  | with_reducible refine rd_or ?_
  | with_reducible refine rd_not ?_
  | with_reducible refine rd_andV ?_
  | with_reducible refine rd_orV ?_
  | with_reducible refine rd_notV ?_
  | with_reducible refine rd_ifE ?_
  | with_reducible refine rd_isN ?_
  | with_reducible refine rd_notN ?_
  | with_reducible refine rd_cons ?_
  | with_reducible refine rd_nil ?_
  | with_reducible refine rd_lst ?_
  | with_reducible refine rd_tup ?_
  | with_reducible refine rd_CB ?_
  | with_reducible refine rd_call ?_
  | with_reducible refine rd_sl ?_
  | with_reducible refine rd_part ?_
  | with_reducible refine rd_nopart ?_
  | with_reducible refine rd_par ?_
  | with_reducible refine rd_two ?_
  | with_reducible refine rd_next ?_
  | with_reducible refine rd_retN ?_
  | with_reducible refine rd_bool ?_
  | with_reducible refine rd_int ?_
  | with_reducible refine rd_intI ?_
  | with_reducible refine rd_intB ?_
  | with_reducible refine rd_ltS ?_
  | with_reducible refine rd_leS ?_
  | with_reducible refine rd_gtS ?_
  | with_reducible refine rd_geS ?_
  | with_reducible refine rd_inC ?_
  | with_reducible refine rd_notInC ?_
  | with_reducible refine rd_abs ?_
  | with_reducible refine rd_max2 ?_
  | with_reducible refine rd_min2 ?_
  | with_reducible refine rd_M1 ?_
  | with_reducible refine rd_isStr ?_
  | ((with_reducible refine' rd_len ?b ?_); (case b => (simp only [List.length_cons, List.length_nil]; decide)))
  | ((with_reducible refine' rd_listS ?b ?_); (case b => first | (simp only [List.length_take, List.length_cons, List.length_nil]; omega) | omega))
  | ((with_reducible refine' rd_isi ?ty ?h ?_); (case ty => first | exact ty_str | exact ty_int | exact ty_bl | exact ty_non | exact ty_lst (by walk_at "hp") | exact ty_tup (by walk_at "hp")); (case h => walk_at "kb"))
  | with_reducible refine rd_lc ?_
  | with_reducible refine rd_for ?_
  | with_reducible refine rd_iList ?_
  | with_reducible refine rd_iTup ?_
  | with_reducible refine rd_iRng1 ?_
  | with_reducible refine rd_iRng2 ?_
  | with_reducible refine rd_iRng3 ?_
  | with_reducible refine rd_iStr ?_
  | with_reducible refine rd_qIs ?_
  | with_reducible refine rd_whb ?_
  | ((with_reducible refine' rd_qIl ?sq ?_); (case sq => walk_at "sq"))
  | ((with_reducible refine' rd_qItu ?sq ?_); (case sq => walk_at "sqt"))
  | ((with_reducible refine' rd_qIr1 ?b1 ?b2 ?_); (case b1 => walk_at "ar"); (case b2 => walk_at "ar"))
  | ((with_reducible refine' rd_qIr2 ?b1 ?b2 ?b3 ?b4 ?_); (case b1 => walk_at "ar"); (case b2 => walk_at "ar"); (case b3 => walk_at "ar"); (case b4 => walk_at "ar"))
  | ((with_reducible refine' rd_qIr3 ?b1 ?b2 ?b3 ?b4 ?_); (case b1 => walk_at "ar"); (case b2 => walk_at "ar"); (case b3 => walk_at "ar"); (case b4 => walk_at "ar"))
  | ((with_reducible refine' rd_mulS ?b1 ?b2 ?b3 ?_); (case b1 => walk_at "ar"); (case b2 => walk_at "ar"); (case b3 => walk_at "ar"))
  | ((with_reducible refine' rd_slS_to ?b1 ?b2 ?_); (case b1 => walk_at "ar"); (case b2 => walk_at "ar"))
  | ((with_reducible refine' rd_slS_from ?b1 ?b2 ?_); (case b1 => walk_at "ar"); (case b2 => walk_at "ar"))
  | ((with_reducible refine' rd_slS_mid ?b1 ?b2 ?b3 ?b4 ?_); (case b1 => walk_at "ar"); (case b2 => walk_at "ar"); (case b3 => walk_at "ar"); (case b4 => walk_at "ar"))
  | ((with_reducible refine' rd_slL ?sq ?_); (case sq => walk_at "sq"))
  | with_reducible refine rd_true ?_
  | with_reducible refine rd_false ?_
  | with_reducible refine rd_nt ?_
  | with_reducible refine rd_nf ?_
  | ((with_reducible refine' rd_decT ?h ?_); (case h => omega))
  | ((with_reducible refine' rd_decF ?h ?_); (case h => omega))
  | ((with_reducible refine' rd_ndecT ?h ?_); (case h => omega))
  | ((with_reducible refine' rd_ndecF ?h ?_); (case h => omega))
  | ((with_reducible refine' rd_evT ?h ?_); (case h => first | exact rfl | (simp; done)))
  | ((with_reducible refine' rd_evF ?h ?_); (case h => first | exact rfl | (simp; done)))
  | ((with_reducible refine' rd_ixL ?sq ?a1 ?_); (case sq => walk_at "sq"); (case a1 => first | exact rfl | exact at_of (by omega) (by assumption)))
  | ((with_reducible refine' rd_ixT ?sq ?a1 ?_); (case sq => walk_at "sqt"); (case a1 => first | exact rfl | exact at_of (by omega) (by assumption)))
  | ((with_reducible refine' rd_lenL ?sq ?_); (case sq => walk_at "sq"))
  | ((with_reducible refine' rd_lenT ?sq ?_); (case sq => walk_at "sqt"))
  | ((with_reducible refine' rd_setL ?h ?j ?_); (case h => walk_at "hp"); (case j => exact rfl); (with_reducible refine id ?_))
  | ((with_reducible refine' rd_strlen ?l ?_); (case l => walk_at "ar"))
  | ((with_reducible refine' rd_cat ?l ?_); (case l => walk_at "ar")))
local macro_rules | `(tactic| walk_at "go") => `(tactic| ((try dsimp only); (repeat (walk_at "rd"))))
local macro_rules | `(tactic| walk_at "rd") => `(tactic| first
  | with_reducible refine rd_lstRg ?_
  | with_reducible refine rd_tRg1 ?_
  | with_reducible refine rd_tRg2 ?_
  | with_reducible refine rd_rg1 ?_
  | with_reducible refine rd_rg2 ?_
  | ((with_reducible refine' rd_qRg ?b ?_); (case b => refine ⟨?_, ?_, ?_, ?_⟩ <;> omega))
  | with_reducible refine rd_sortSet ?_
  | with_reducible refine rd_tDGet ?_
  | with_reducible refine rd_sDPut ?_
  | with_reducible refine rd_dnew ?_
  | with_reducible refine rd_iZipS ?_
  | with_reducible refine rd_zipS ?_
  | ((with_reducible refine' rd_inI ?sq ?_); (case sq => walk_at "sq"))
  | ((with_reducible refine' rd_notInI ?sq ?_); (case sq => walk_at "sq"))
  | with_reducible refine rd_chain ?_)

local macro_rules | `(tactic| walk_at "rd") => `(tactic| first
  | with_reducible refine rd_fld ?_
  | with_reducible refine rd_par3 ?_
  | with_reducible refine rd_sFld ?_
  | with_reducible refine rd_meth ?_
  | with_reducible refine rd_make ?_
  | with_reducible refine rd_iEnT ?_
  | with_reducible refine rd_iEnL ?_
  | with_reducible refine rd_iZipSL ?_
  | with_reducible refine rd_dIn ?_
  | with_reducible refine rd_dNotIn ?_
  | with_reducible refine rd_tDGet ?_
  | with_reducible refine rd_thenT ?_
  | with_reducible refine rd_sortLam ?_
  | with_reducible refine rd_sortLam1 ?_
  | with_reducible refine rd_dget1 ?_
  | with_reducible refine rd_dsetd ?_
  | with_reducible refine rd_dsetdT ?_
  | with_reducible refine rd_bmS ?_
  | with_reducible refine rd_tupRg ?_
  | with_reducible refine rd_bm ?_
  | ((with_reducible refine' rd_kTupT ?sq ?_); (case sq => walk_at "sqt"))
  | ((with_reducible refine' rd_kTupL ?sq ?_); (case sq => walk_at "sq"))
  | with_reducible refine rd_sDPut ?_
  | ((with_reducible refine' rd_enT ?sq ?_); (case sq => walk_at "sqt"))
  | ((with_reducible refine' rd_enL ?sq ?_); (case sq => walk_at "sq"))
  | ((with_reducible refine' rd_zipSL ?sq ?_); (case sq => walk_at "sq")))

section
variable {P : Program} {w : World} {K : PySem.W.Frag} {mg : Str → Option Value} {base : Heap}
theorem Done.goodT {rows : Tab} {sz N : Nat} (M : Mps rows sz) (D : Done rows sz N) : GoodT (tbT rows sz N) rows.length N :=
  ⟨D.tlen, by have h := maps_le M.s4 (fdT_nodup N) D.Fmap; rw [D.stop] at h; omega, M.r1, M.r6, D.good, D.prod⟩
theorem most_of : ∀ n, 1 ≤ n → n ≤ 3 → ∃ mo : Nat, [V.int 0, V.int 9, V.int 7, V.int 5][n]? = some (vI mo) ∧ n ^ mo ≤ 300 ∧ mo ≤ 9
  | 1, _, _ => ⟨9, rfl, by decide, by decide⟩
  | 2, _, _ => ⟨7, rfl, by decide, by decide⟩
  | 3, _, _ => ⟨5, rfl, by decide, by decide⟩
  | 0, h, _ => absurd h (by decide)
  | n + 4, _, h => absurd h (by omega)
theorem lets_take : ∀ m, m ≤ 6 → ([97, 98, 99, 100, 101, 102] : List Nat).take m = (List.range m).map fun l => 97 + l
  | 0, _ => rfl
  | 1, _ => rfl
  | 2, _ => rfl
  | 3, _ => rfl
  | 4, _ => rfl
  | 5, _ => rfl
  | 6, _ => rfl
  | n + 7, h => absurd h (by omega)
theorem rd_notInRow {H : Hp} {Q : VK} {p : Addr} {row : List Nat} {y : Nat} (sq : SqL K H p (rowV row)) (q : Q (.bl (!decide (y ∈ row))) H) : rIn K true (vI y) (.ref p) H Q := by
  refine rd_notInI (ns := row.map fun n : Nat => (n : Int)) (by rw [← rowV_int]; exact sq) ?_
  rw [show decide ((y : Int) ∈ row.map fun n : Nat => (n : Int)) = decide (y ∈ row) by rw [decide_eq_decide, List.mem_map]; exact ⟨fun ⟨n, hn, e⟩ => by rw [← Int.ofNat.inj e]; exact hn, fun h => ⟨y, h, rfl⟩⟩]
  exact q
theorem none_row {o : Option (List Nat)} {row : List Nat} {y : Nat} (h : o = none ↔ y ∉ row) : decide (oV o = .non) = !decide (y ∈ row) := by
  rw [oV_ne]
  by_cases e : y ∈ row
  · rw [decide_eq_false (fun z => h.mp z e), decide_eq_true e]; rfl
  · rw [decide_eq_true (h.mpr e), decide_eq_false e]; rfl
theorem ok__law_right {f : Addr} {fd : FuncData} {z : Zed} (Z : Zok K mg z) (F : Fun K "_law_right" "_law_right" s__law_right f fd) (T : Txt K mg) (C__law_products : Cal P w K mg base 1 "_law_products" (sp__law_products K)) (C__law_steps : Cal P w K mg base 1 "_law_steps" (sp__law_steps z K)) (C_Monoid_least_right : C8.Met P w K mg base 3 z.C "least_right" (sp_Monoid_least_right z K) []) (C_Monoid_least_left : C8.Met P w K mg base 3 z.C "least_left" (sp_Monoid_least_left z K) []) (C_Monoid_of_word : C8.Met P w K mg base 2 z.C "of_word" (sp_Monoid_of_word z K) []) (C__law_by_words : Cal P w K mg base 4 "_law_by_words" (sp__law_by_words z K)) : FnOk P w K mg base CX0 5 f fd ["monoid", "found", "table"] (sp__law_right z K) := by
  refine F.ok sc__law_right (fun vs H Q E h => by repeat (first | (obtain ⟨rfl, _⟩ := h; rfl) | obtain ⟨_, h⟩ := h)) (fun cdv A outer s H vs Q E hr h => ?_)
  refine ⟨_, (pss_cons (ps_par (i := 3) (j := 4) rfl sc__law_right.nd rfl rfl (by decide) rfl rfl (pa_cons (pe_c C__law_products hr (by decide) rfl (pa_cons (pv 1) (pa_cons (pv 2) pa_nil))) (pa_cons (pe_callB cq_len rfl T.n_len boot_len (pa_cons (pv 1) pa_nil)) pa_nil)) (by rfl))
  (pss_cons (ps_for PassesOwn.never rfl (pi_range1 rfl T.n_range (pa_cons (pv 4) pa_nil)) (pg_name (i := 5) sc__law_right.nd rfl (Or.inr rfl))
  (pss_cons (ps_set (i := 6) sc__law_right.nd rfl (Or.inl rfl) (pe_c C__law_steps hr (by decide) rfl (pa_cons (pv 2) (pa_cons (pv 5) pa_nil))))
  (pss_cons (ps_for PassesOwn.never rfl (pi_range1 rfl T.n_range (pa_cons (pv 4) pa_nil)) (pg_name (i := 7) sc__law_right.nd rfl (Or.inl rfl))
  (pss_cons (ps_set (i := 8) sc__law_right.nd rfl (Or.inl rfl) (C8.pe_mt C_Monoid_least_right hr (by decide) (pv 0) (pa_cons (pv 5) (pa_cons (pv 7) pa_nil))))
  (pss_cons (ps_if (PW.pt (pw_or (pt_cmpR op_ne (pv 8) (pe_dget1 (hu_of hr) (pv 6) (pv 7) ⟨rfl, rfl, rfl, rfl⟩) (nomark _)) (pw_or1 (pt_cmpR op_ne (pe_cmp (pc_isN (pv 8)) rfl) (pe_cmpR (op_notInQ K rfl) (pv 7) (pe_ix ix_list (pv 3) (pv 5) (fun _ _ => rfl)) rfl) (nomark _))))) (pss_one (ps_ret pe_bl)) pss_nil)
  (pss_cons (ps_set (i := 8) sc__law_right.nd rfl (Or.inl rfl) (C8.pe_mt C_Monoid_least_left hr (by decide) (pv 0) (pa_cons (pv 5) (pa_cons (pv 7) pa_nil))))
  (pss_cons (ps_if (pt_cmpR op_ne (pe_cmp (pc_isN (pv 8)) rfl) (pe_cmpR (op_notInQ K rfl) (pv 7) (pe_lc (own := [("row", 9)]) rfl sc__law_right.nd (pi_list (pv 3)) (blkOk_by (N := N__law_right) (sc := defScope s__law_right) (by decide +kernel)) (fun _ _ _ _ _ => (pg_name (i := 9) sc__law_right.nd rfl (Or.inl rfl))) (fun _ _ _ _ _ => pts_nil) (fun _ _ _ _ _ => (pe_ix (ix_listK K rfl) (pv 9) (pv 5) (fun _ _ => rfl)))) rfl) (nomark _)) (pss_one (ps_ret pe_bl)) pss_nil)
  (pss_one (ps_if (PW.pt (pw_and (pt_cmp (pc_notN (pv 8))) (pw_and1 (pt_cmpR op_ne (pe_ix ix_list (pe_ix ix_list (pv 3) (C8.pe_mt C_Monoid_of_word hr (by decide) (pv 0) (pa_cons (pv 8) pa_nil)) (fun _ _ => rfl)) (pv 5) (fun _ _ => rfl)) (pv 7) (nomark _))))) (pss_one (ps_ret pe_bl)) pss_nil)))))))
  (pss_one (ps_if (PW.pt (pw_or (pt_cmpR op_ne (C8.pe_mt C_Monoid_least_right hr (by decide) (pv 0) (pa_cons (pv 5) (pa_cons (pv 5) pa_nil))) (pe_strS [] rfl) (nomark _)) (pw_or1 (pt_cmpR op_ne (C8.pe_mt C_Monoid_least_left hr (by decide) (pv 0) (pa_cons (pv 5) (pa_cons (pv 5) pa_nil))) (pe_strS [] rfl) (nomark _))))) (pss_one (ps_ret pe_bl)) pss_nil)))))
  (pss_one (ps_ret (pe_c C__law_by_words hr (by decide) rfl (pa_cons (pv 0) (pa_cons (pv 3) (pa_cons (pe_slice C8.sl_txt (pe_strS [97, 98, 99, 100, 101, 102] rfl) po_none (po_some (pe_callB cq_len rfl T.n_len boot_len (pa_cons (pe_ix ix_list (pv 2) pe_int (fun _ _ => rfl)) pa_nil)))) (pa_cons (pe_ix ix_list (pe_lst (pa_cons pe_int (pa_cons pe_int (pa_cons pe_int (pa_cons pe_int pa_nil))))) (pe_callB cq_len rfl T.n_len boot_len (pa_cons (pe_ix ix_list (pv 2) pe_int (fun _ _ => rfl)) pa_nil)) (fun _ _ => rfl)) pa_nil))))))))), ?_⟩
  try dsimp only [cxOf, Cx.nox, Cx.wish]
  obtain ⟨a, me, f, tb, rows, sz, N, rfl, M, hr3, D, hN14, O, hf, htb, TB0, k⟩ := h
  have G := Done.goodT M D
  have hm1 := M.r1
  have g := G.g
  have p := G.p
  obtain ⟨fs, hfa, hfl, _⟩ := id hf
  have hfN : (refs fs).length = N := by rw [refs_len, hfl, D.stop]
  obtain ⟨dx, r0, t0, l0, hx, _⟩ := O.ins
  obtain ⟨tas, hta, htl, htr⟩ := id htb
  have hpos := g.pos
  walk_at "go"
  refine ⟨f, tb, rows, sz, N, rfl, M, D, hf, fun pr H1 s1 hpr => ?_⟩
  walk_at "go"
  refine rd_lenL (SqL.of (s1 _ _ hfa)) ?_
  rw [hfN]
  walk_at "go"
  try refine ⟨_, _, rfl, ?_⟩
  walk_at "go"
  generalize hT : tbT rows sz N = T at *
  generalize hmm : rows.length = m at *
  have hpr' : Tb false false H1 pr ((List.range N).map fun x => prow T m N x) := hpr
  obtain ⟨as, hpa, hal, hrow⟩ := Tb.row (T := T) hpr'
  have E1 := ExtN.of s1
  have T1 := Tabs.same TB0 s1
  refine forR (n := N) (fun x σ' H' => ∃ (v5 v6 v7 v8 v9 : Option V), σ' = [some (.ref a), some (.ref f), some (.ref tb), some (.ref pr), some (.int (N : Nat)), v5, v6, v7, v8, v9] ∧ ExtN H1 H' ∧ Tabs z.TT H') ⟨_, _, _, _, _, rfl, ExtN.refl _, T1⟩ ?_ ?_
  · rintro x σ' H2 hxN ⟨v5, v6, v7, v8, v9, rfl, E2, T2⟩
    rw [Int.zero_add]
    walk_at "go"
    refine ⟨tb, T, m, N, x, rfl, htb.kq ((Kq.of s1).trans (kq_extN E2)), G, hxN, T2, fun st kvs H3 E3 T3 hst hsteps => ?_⟩
    have E03 := (E1.trans E2).trans E3
    have E13 := E2.trans E3
    walk_at "go"
    refine forR (n := N) (fun y σ' H' => ∃ (v7 v8 v9 : Option V), σ' = [some (.ref a), some (.ref f), some (.ref tb), some (.ref pr), some (.int (N : Nat)), some (vI x), some (.ref st), v7, v8, v9] ∧ Same H3 H') ⟨_, _, _, rfl, Same.refl _⟩ ?_ ?_
    · rintro y σ' H4 hyN ⟨v7, v8, v9, rfl, s4⟩
      rw [Int.zero_add]
      have k4 := (kq_extN E13).trans (Kq.of s4)
      have O4 := (O.extN E03).same s4
      have hx4 := s4 _ _ (E03 _ _ hx (fun ps z => nomatch z))
      walk_at "go"
      refine ⟨a, dx, _, rfl, hx4, rfl, ?_⟩
      walk_at "go"
      refine ⟨a, me, T, m, N, x, y, rfl, O4, G, hxN, hyN, fun o1 H5 lw1 s5 => ?_⟩
      obtain ⟨o1', lw1', hv1⟩ := hsteps y hyN
      have eo := lw1'.uniq lw1
      subst eo
      have hst5 := (s4.trans s5) _ _ hst
      have k5 := k4.trans (Kq.of s5)
      obtain ⟨ra, hra1, hra2⟩ := hrow x hxN
      have hprN : ∀ H' : Hp, Kq H1 H' → H' pr = some (.lst (refs as)) := fun H' q => q.1 _ _ hpa
      have hn1 := lw_none g p hxN lw1
      walk_at "go"
      refine rd_dg0K hst5 ?_
      walk_at "go"
      refine rd_dgK (kI y) hst5 ?_
      rw [hv1]
      refine rd_ne (scal_oV _ _) ?_
      rw [decide_eq_true rfl]
      walk_at "go"
      refine rd_ixL (SqL.of (k5.1 _ _ hpa)) (at_vI (getElem?_refs hra1)) ?_
      walk_at "go"
      refine rd_notInRow (SqL.of (k5.1 _ _ hra2)) ?_
      rw [none_row hn1]
      walk_at "go"
      have O5 := O4.same s5
      have hx5 := s5 _ _ hx4
      refine ⟨a, dx, _, rfl, hx5, rfl, ?_⟩
      walk_at "go"
      refine ⟨a, me, T, m, N, x, y, rfl, O5, G, hxN, hyN, fun o2 H6 lw2 s6 => ?_⟩
      have k6 := k5.trans (Kq.of s6)
      have hn2 := ll_none g lw2
      walk_at "go"
      refine rd_qIl (SqL.of (k6.1 _ _ hpa)) ?_
      have wk := walk_list (K := K) (a := pr) (xs := refs as)
      have pcl : (pcol T m N x).length = N := by unfold pcol; simp
      refine lc_inv (ls := refs as) wk (fun D j acc H' => Same H6 H' ∧ acc = rowV ((pcol T m N x).take j)) (by rw [refs_len]; omega) (fun _ => rfl) (fun D j acc H' ⟨s, _⟩ => SqL.of (s _ _ (k6.1 _ _ hpa))) (fun D nD => ⟨Same.new nD, rfl⟩) ?_ ?_
      · rintro D j v acc H7 Q7 hv nD hacc ⟨s7, rfl⟩ hD kk7
        obtain ⟨b, hb, rfl⟩ := refs_get hv
        have hj : j < N := by rw [← hal]; exact (List.getElem?_eq_some_iff.mp hb).1
        obtain ⟨b', hb', hb2⟩ := hrow j hj
        rw [hb] at hb'
        cases hb'
        walk_at "go"
        refine rd_ixL (SqL.of ((k6.trans (Kq.of s7)).1 _ _ hb2)) (at_vI (prow_get hxN)) ?_
        refine kk7 _ _ hD ⟨Same.updN s7 nD, ?_⟩
        rw [take_snoc 0 (by rw [pcl]; exact hj), rowV_snoc]
        have e : (pcol T m N x).getD j 0 = run T j (W T m N x) := by
          unfold pcol
          rw [getD_map (d := 0) (by rw [List.length_range]; exact hj)]
          have e : (List.range N).getD j 0 = j := by rw [List.getD_eq_getElem?_getD, List.getElem?_range hj]; rfl
          rw [e]
        rw [e]
      · rintro D acc H7 nD hacc ⟨s7, rfl⟩ hD
        have k7 := k6.trans (Kq.of s7)
        rw [List.take_of_length_le (by rw [pcl, refs_len, hal]; exact Nat.le_refl _)] at hD
        walk_at "go"
        refine rd_notInRow (SqL.of hD) ?_
        rw [none_row hn2]
        walk_at "go"
        have O7 := (O5.same s6).same s7
        have hx7 := s7 _ _ (s6 _ _ hx5)
        have s37 := ((s4.trans s5).trans s6).trans s7
        cases o2 with
        | none =>
          walk_at "go"
          exact ⟨_, _, _, rfl, s37⟩
        | some wd =>
          have hw := lw2.1 wd rfl
          have hwl := ll_len g p hxN lw2
          have hrw := g.run_lt wd hw.1
          show (if (!decide (V.str (S wd) = V.non)) = true then _ else _)
          walk_at "go"
          refine ⟨a, dx, _, rfl, hx7, rfl, ?_⟩
          walk_at "go"
          refine ⟨a, me, T, m, N, wd, rfl, O7, G, hw.1, by omega, fun H8 s8 => ?_⟩
          have k8 := k7.trans (Kq.of s8)
          obtain ⟨rb, hrb1, hrb2⟩ := hrow _ hrw
          refine rd_ixL (SqL.of (k8.1 _ _ hpa)) (at_vI (getElem?_refs hrb1)) ?_
          walk_at "go"
          refine rd_ixL (SqL.of (k8.1 _ _ hrb2)) (at_vI (prow_get hxN)) ?_
          have ela : run T (run T 0 wd) (W T m N x) = y := by rw [← run_app]; exact hw.2.1
          rw [ela]
          walk_at "go"
          exact ⟨_, _, _, rfl, s37.trans s8⟩
    · rintro σ' H4 ⟨v7, v8, v9, rfl, s4⟩
      have O4 := (O.extN E03).same s4
      have hx4 := s4 _ _ (E03 _ _ hx (fun ps z => nomatch z))
      walk_at "go"
      refine ⟨a, dx, _, rfl, hx4, rfl, ?_⟩
      walk_at "go"
      refine ⟨a, me, T, m, N, x, x, rfl, O4, G, hxN, hxN, fun o1 H5 lw1 s5 => ?_⟩
      have eo := lp_nil lw1 rfl
      subst eo
      have O5 := O4.same s5
      have hx5 := s5 _ _ hx4
      walk_at "go"
      refine rd_ne (x := .str (S [])) (y := .str (S [])) rfl ?_
      walk_at "go"
      refine ⟨a, dx, _, rfl, hx5, rfl, ?_⟩
      walk_at "go"
      refine ⟨a, me, T, m, N, x, x, rfl, O5, G, hxN, hxN, fun o2 H6 lw2 s6 => ?_⟩
      have eo := lp_nil lw2 (g.la_nil hxN)
      subst eo
      walk_at "go"
      refine rd_ne (x := .str (S [])) (y := .str (S [])) rfl ?_
      walk_at "go"
      have s46 := (s4.trans s5).trans s6
      exact ⟨_, _, _, _, _, rfl, E13.trans (ExtN.of s46), Tabs.same T3 s46⟩
  · rintro σ' H2 ⟨v5, v6, v7, v8, v9, rfl, E2, T2⟩
    have E02 := E1.trans E2
    have k2 := (Kq.of s1).trans (kq_extN E2)
    have ht2 := k2.1 _ _ hta
    obtain ⟨r0a, hr0⟩ : ∃ b, tas[0]? = some b := ⟨_, List.getElem?_eq_getElem (by rw [htl, G.len]; exact hpos)⟩
    have hr02 := k2.1 _ _ (row_of htl htr hr0)
    have e0 : (rowV (T.getD 0 [])).length = m := by rw [rowV_len, g.row 0 hpos]
    walk_at "go"
    refine rd_ixL (SqL.of ht2) (at_vI (n := 0) (getElem?_refs hr0)) ?_
    walk_at "go"
    rw [e0]
    rw [show ((m : Int)).toNat = m by omega, lets_take m (by omega)]
    walk_at "go"
    intro p3 np3
    have s3 : Same H2 (L2.upd H2 p3 (.lst [.int 0, .int 9, .int 7, .int 5])) := Same.new np3
    have hp3 : (L2.upd H2 p3 (.lst [.int 0, .int 9, .int 7, .int 5])) p3 = some (.lst [.int 0, .int 9, .int 7, .int 5]) := upd_same
    generalize L2.upd H2 p3 (.lst [.int 0, .int 9, .int 7, .int 5]) = H3 at *
    walk_at "go"
    have hr03 := s3 _ _ hr02
    refine rd_ixL (SqL.of (s3 _ _ ht2)) (at_vI (n := 0) (getElem?_refs hr0)) ?_
    walk_at "go"
    rw [e0]
    obtain ⟨mo, hmo, hpw, hm9⟩ := most_of m hm1 hr3
    refine rd_ixL (SqL.of hp3) (at_vI hmo) ?_
    walk_at "go"
    refine ⟨a, me, pr, T, m, N, mo, rfl, (O.extN E02).same s3, G, hN14, hm9, hpw, hpr.kq ((kq_extN E2).trans (Kq.of s3)), fun H4 s4 => ?_⟩
    exact k H4 (E02.trans (ExtN.of (s3.trans s4))) (Tabs.same (Tabs.same T2 s3) s4)
end
end My
namespace My
open PySem PySem.Spec L2 SX LamX Mon
open PyProof.Rows hiding St
local macro_rules | `(tactic| walk_at "kb") => `(tactic| first | exact kb_str_str | exact kb_str_int | exact kb_str_bool | exact kb_str_list | exact kb_str_tuple | exact kb_int_str | exact kb_int_int | exact kb_int_bool | exact kb_int_list | exact kb_int_tuple | exact kb_bool_str | exact kb_bool_int | exact kb_bool_bool | exact kb_bool_list | exact kb_bool_tuple | exact kb_list_str | exact kb_list_int | exact kb_list_bool | exact kb_list_list | exact kb_list_tuple | exact kb_tuple_str | exact kb_tuple_int | exact kb_tuple_bool | exact kb_tuple_list | exact kb_tuple_tuple | exact kb_NoneType_str | exact kb_NoneType_int | exact kb_NoneType_bool | exact kb_NoneType_list | exact kb_NoneType_tuple)
local macro_rules | `(tactic| walk_at "hp") => `(tactic| first | assumption | exact upd_same | (refine (upd_ne (by first | assumption | (apply Ne.symm; assumption))).trans ?_; walk_at "hp"))
local macro_rules | `(tactic| walk_at "sq") => `(tactic| first | assumption | exact SqL.of (by walk_at "hp"))
local macro_rules | `(tactic| walk_at "sqt") => `(tactic| first | assumption | exact SqT.of (by walk_at "hp"))
local macro_rules | `(tactic| walk_at "ar") => `(tactic| first | omega | (dsimp only; omega) | (unfold CMul; omega) | (unfold CDiv; omega) | (unfold CPow; refine ⟨?_, ?_, ?_⟩ <;> decide) | (simp only [List.length_cons, List.length_nil]; decide))
local macro_rules | `(tactic| walk_at "rd") => `(tactic| first
  | with_reducible refine rd_seq ?_
  | with_reducible refine rd_asg ?_
  | with_reducible refine rd_if ?_
  | with_reducible refine rd_ret ?_
  | with_reducible refine rd_drop ?_
  | with_reducible refine rd_name ?_
  | with_reducible refine rd_sub ?_
  | ((with_reducible refine' rd_var ?e ?_); (case e => exact rfl))
  | with_reducible refine rd_c ?_
  | with_reducible refine rd_op ?_
  | with_reducible refine rd_un ?_
  | with_reducible refine rd_I0 ?_
  | ((with_reducible refine' rd_I ?c ?_); (case c => walk_at "ar"))
  | with_reducible refine rd_U ?_
  | with_reducible refine rd_eqI ?_
  | with_reducible refine rd_neI ?_
  | with_reducible refine rd_eqS ?_
  | with_reducible refine rd_neS ?_
  | with_reducible refine rd_eqB ?_
  | with_reducible refine rd_neB ?_
  | with_reducible refine rd_test ?_
  | with_reducible refine rd_B ?_
  | with_reducible refine rd_and ?_
  | with_reducible refine rd_or ?_
  | with_reducible refine rd_not ?_
  | with_reducible refine rd_andV ?_
  | with_reducible refine rd_orV ?_
  | with_reducible refine rd_notV ?_
  | with_reducible refine rd_ifE ?_
  | with_reducible refine rd_isN ?_
  | with_reducible refine rd_notN ?_
  | with_reducible refine rd_cons ?_
  | with_reducible refine rd_nil ?_
  | with_reducible refine rd_lst ?_
  | with_reducible refine rd_tup ?_
  | with_reducible refine rd_CB ?_
  | with_reducible refine rd_call ?_
  | with_reducible refine rd_sl ?_
  | with_reducible refine rd_part ?_
  | with_reducible refine rd_nopart ?_
  | with_reducible refine rd_par ?_
  | with_reducible refine rd_two ?_
  | with_reducible refine rd_next ?_
  | with_reducible refine rd_retN ?_
  | with_reducible refine rd_bool ?_
  | with_reducible refine rd_int ?_
  | with_reducible refine rd_intI ?_
  | with_reducible refine rd_intB ?_
  | with_reducible refine rd_ltS ?_
  | with_reducible refine rd_leS ?_
  | with_reducible refine rd_gtS ?_
  | with_reducible refine rd_geS ?_
  | with_reducible refine rd_inC ?_
  | with_reducible refine rd_notInC ?_
  | with_reducible refine rd_abs ?_
  | with_reducible refine rd_max2 ?_
  | with_reducible refine rd_min2 ?_
  | with_reducible refine rd_M1 ?_
  | with_reducible refine rd_isStr ?_
  | ((with_reducible refine' rd_len ?b ?_); (case b => (simp only [List.length_cons, List.length_nil]; decide)))
  | ((with_reducible refine' rd_listS ?b ?_); (case b => first | (simp only [List.length_take, List.length_cons, List.length_nil]; omega) | omega))
  | ((with_reducible refine' rd_isi ?ty ?h ?_); (case ty => first | exact ty_str | exact ty_int | exact ty_bl | exact ty_non | exact ty_lst (by walk_at "hp") | exact ty_tup (by walk_at "hp")); (case h => walk_at "kb"))
  | with_reducible refine rd_lc ?_
  | with_reducible refine rd_for ?_
  | with_reducible refine rd_iList ?_
  | with_reducible refine rd_iTup ?_
  | with_reducible refine rd_iRng1 ?_
  | with_reducible refine rd_iRng2 ?_
  | with_reducible refine rd_iRng3 ?_
  | with_reducible refine rd_iStr ?_
  | with_reducible refine rd_qIs ?_
  | with_reducible refine rd_whb ?_
  | ((with_reducible refine' rd_qIl ?sq ?_); (case sq => walk_at "sq"))
  | ((with_reducible refine' rd_qItu ?sq ?_); (case sq => walk_at "sqt"))
  | ((with_reducible refine' rd_qIr1 ?b1 ?b2 ?_); (case b1 => walk_at "ar"); (case b2 => walk_at "ar"))
  | ((with_reducible refine' rd_qIr2 ?b1 ?b2 ?b3 ?b4 ?_); (case b1 => walk_at "ar"); (case b2 => walk_at "ar"); (case b3 => walk_at "ar"); (case b4 => walk_at "ar"))
  | ((with_reducible refine' rd_qIr3 ?b1 ?b2 ?b3 ?b4 ?_); (case b1 => walk_at "ar"); (case b2 => walk_at "ar"); (case b3 => walk_at "ar"); (case b4 => walk_at "ar"))
  | ((with_reducible refine' rd_mulS ?b1 ?b2 ?b3 ?_); (case b1 => walk_at "ar"); (case b2 => walk_at "ar"); (case b3 => walk_at "ar"))
  | ((with_reducible refine' rd_slS_to ?b1 ?b2 ?_); (case b1 => walk_at "ar"); (case b2 => walk_at "ar"))
  | ((with_reducible refine' rd_slS_from ?b1 ?b2 ?_); (case b1 => walk_at "ar"); (case b2 => walk_at "ar"))
  | ((with_reducible refine' rd_slS_mid ?b1 ?b2 ?b3 ?b4 ?_); (case b1 => walk_at "ar"); (case b2 => walk_at "ar"); (case b3 => walk_at "ar"); (case b4 => walk_at "ar"))
  | ((with_reducible refine' rd_slL ?sq ?_); (case sq => walk_at "sq"))
  | with_reducible refine rd_true ?_
  | with_reducible refine rd_false ?_
  | with_reducible refine rd_nt ?_
  | with_reducible refine rd_nf ?_
  | ((with_reducible refine' rd_decT ?h ?_); (case h => omega))
  | ((with_reducible refine' rd_decF ?h ?_); (case h => omega))
  | ((with_reducible refine' rd_ndecT ?h ?_); (case h => omega))
  | ((with_reducible refine' rd_ndecF ?h ?_); (case h => omega))
  | ((with_reducible refine' rd_evT ?h ?_); (case h => first | exact rfl | (simp; done)))
  | ((with_reducible refine' rd_evF ?h ?_); (case h => first | exact rfl | (simp; done)))
  | ((with_reducible refine' rd_ixL ?sq ?a1 ?_); (case sq => walk_at "sq"); (case a1 => first | exact rfl | exact at_of (by omega) (by assumption)))
  | ((with_reducible refine' rd_ixT ?sq ?a1 ?_); (case sq => walk_at "sqt"); (case a1 => first | exact rfl | exact at_of (by omega) (by assumption)))
  | ((with_reducible refine' rd_lenL ?sq ?_); (case sq => walk_at "sq"))
  | ((with_reducible refine' rd_lenT ?sq ?_); (case sq => walk_at "sqt"))
  | ((with_reducible refine' rd_setL ?h ?j ?_); (case h => walk_at "hp"); (case j => exact rfl); (with_reducible refine id ?_))
  | ((with_reducible refine' rd_strlen ?l ?_); (case l => walk_at "ar"))
  | ((with_reducible refine' rd_cat ?l ?_); (case l => walk_at "ar")))
local macro_rules | `(tactic| walk_at "go") => `(tactic| ((try dsimp only); (repeat (walk_at "rd"))))
local macro_rules | `(tactic| walk_at "rd") => `(tactic| first
  | with_reducible refine rd_lstRg ?_
  | with_reducible refine rd_tRg1 ?_
  | with_reducible refine rd_tRg2 ?_
  | with_reducible refine rd_rg1 ?_
  | with_reducible refine rd_rg2 ?_
  | ((with_reducible refine' rd_qRg ?b ?_); (case b => refine ⟨?_, ?_, ?_, ?_⟩ <;> omega))
  | with_reducible refine rd_sortSet ?_
  | with_reducible refine rd_tDGet ?_
  | with_reducible refine rd_sDPut ?_
  | with_reducible refine rd_dnew ?_
  | with_reducible refine rd_iZipS ?_
  | with_reducible refine rd_zipS ?_
  | ((with_reducible refine' rd_inI ?sq ?_); (case sq => walk_at "sq"))
  | ((with_reducible refine' rd_notInI ?sq ?_); (case sq => walk_at "sq"))
  | with_reducible refine rd_chain ?_)

local macro_rules | `(tactic| walk_at "rd") => `(tactic| first
  | with_reducible refine rd_fld ?_
  | with_reducible refine rd_par3 ?_
  | with_reducible refine rd_sFld ?_
  | with_reducible refine rd_meth ?_
  | with_reducible refine rd_make ?_
  | with_reducible refine rd_iEnT ?_
  | with_reducible refine rd_iEnL ?_
  | with_reducible refine rd_iZipSL ?_
  | with_reducible refine rd_dIn ?_
  | with_reducible refine rd_dNotIn ?_
  | with_reducible refine rd_tDGet ?_
  | with_reducible refine rd_thenT ?_
  | with_reducible refine rd_sortLam ?_
  | with_reducible refine rd_sortLam1 ?_
  | with_reducible refine rd_dget1 ?_
  | with_reducible refine rd_dsetd ?_
  | with_reducible refine rd_dsetdT ?_
  | with_reducible refine rd_bmS ?_
  | with_reducible refine rd_tupRg ?_
  | with_reducible refine rd_bm ?_
  | ((with_reducible refine' rd_kTupT ?sq ?_); (case sq => walk_at "sqt"))
  | ((with_reducible refine' rd_kTupL ?sq ?_); (case sq => walk_at "sq"))
  | with_reducible refine rd_sDPut ?_
  | ((with_reducible refine' rd_enT ?sq ?_); (case sq => walk_at "sqt"))
  | ((with_reducible refine' rd_enL ?sq ?_); (case sq => walk_at "sq"))
  | ((with_reducible refine' rd_zipSL ?sq ?_); (case sq => walk_at "sq")))

section
variable {P : Program} {w : World} {K : PySem.W.Frag} {mg : Str → Option Value} {base : Heap}
theorem rd_g3 {K : PySem.W.Frag} {σ : St} {H : Hp} {T : Addr} {u v w : V} {i j l : Nat} {R : St → Hp → Prop} (h : SqT K H T [u, v, w]) (q : R (((σ.set i (some u)).set j (some v)).set l (some w)) H) : gTup K 3 (gCons (gName i) (gCons (gName j) (gCons (gName l) gNil))) (.ref T) σ H R :=
  ⟨T, _, rfl, h, rfl, _, _, rfl, _, _, rfl, _, _, rfl, rfl, q⟩
theorem rd_init {z : Zed} {K : PySem.W.Frag} {H : Hp} {x dx pl : Addr} {T : Tab} {m N : Nat} {R : Hp → Prop} {E : XK} (nx : H x = none) (ndx : H dx = none) (ne : dx ≠ x) (hT : Tb false false H pl T) (G : GoodT T m N) (TB : Tabs z.TT H)
    (q : ∀ (H2 : Hp) (me : Addr), Ob z H2 x me T m N → Tabs z.TT H2 → Same H H2 → R H2) :
    sp_Monoid_init z K [.ref x, .ref pl] (L2.upd (L2.upd H dx (.own x)) x (.ins z.C dx [])) (fun v H2 => v = .non ∧ R H2) E := by
  have sx : Same H (L2.upd (L2.upd H dx (.own x)) x (.ins z.C dx [])) := (Same.new ndx).trans (Same.new (by rw [upd_ne (Ne.symm ne)]; exact nx))
  refine ⟨x, dx, pl, T, m, N, rfl, upd_same, hT.kq (Kq.of sx), G, fun H2 me nme X2 O2 => ⟨rfl, ?_⟩⟩
  have s2 : Same H H2 := fun b o e => X2 b o (ne_of_none e nx) (sx b o e)
  exact q H2 me O2 (Tabs.same TB s2) s2
theorem ok_law {f : Addr} {fd : FuncData} {z : Zed} (Z : Zok K mg z) (F : Fun K "law" "law" s_law f fd) (T : Txt K mg) (C__law_source : Cal P w K mg base 1 "_law_source" (sp__law_source K)) (C__law_maps : Cal P w K mg base 2 "_law_maps" (sp__law_maps K)) (C__law_table : Cal P w K mg base 1 "_law_table" (sp__law_table K)) (C_Monoid_init : C8.Mak P w K mg base 3 "Monoid" z.C (sp_Monoid_init z K) []) (C__law_right : Cal P w K mg base 5 "_law_right" (sp__law_right z K)) : FnOk P w K mg base CX0 6 f fd ["script"] (sp_law z K) := by
  refine F.ok sc_law (fun vs H Q E h => by repeat (first | (obtain ⟨rfl, _⟩ := h; rfl) | obtain ⟨_, h⟩ := h)) (fun cdv A outer s H vs Q E hr h => ?_)
  refine ⟨_, (pss_cons (ps_for PassesOwn.never rfl (pi_list (pe_slice sl_list (pe_op (op_catK K rfl) (pv 0) (pe_lst (pa_cons pe_int pa_nil))) po_none (po_some pe_int))) (pg_name (i := 1) sc_law.nd rfl (Or.inl rfl))
  (pss_cons (ps_set (i := 2) sc_law.nd rfl (Or.inl rfl) (pe_c C__law_source hr (by decide) rfl (pa_cons (pv 1) pa_nil)))
  (pss_one (ps_for PassesOwn.never rfl (pi_range1 rfl T.n_range (pa_cons pe_int pa_nil)) (pg_name (i := 3) sc_law.nd rfl (Or.inl rfl))
  (pss_cons (ps_asg (pe_c C__law_table hr (by decide) rfl (pa_cons (pe_c C__law_maps hr (by decide) rfl (pa_cons (pv 2) (pa_cons pe_int (pa_cons pe_int pa_nil)))) pa_nil)) (pg_tup rfl (pgs_cons (pg_name (i := 4) sc_law.nd rfl (Or.inl rfl)) (pgs_cons (pg_name (i := 5) sc_law.nd rfl (Or.inl rfl)) (pgs_cons (pg_name (i := 6) sc_law.nd rfl (Or.inl rfl)) pgs_nil)))))
  (pss_one (ps_if (PW.pt (pw_and (pt_cmpR op_lt (pe_callB cq_len rfl T.n_len boot_len (pa_cons (pv 4) pa_nil)) pe_int (nomark _)) (pw_and1 (pt_not (pt_val (pe_c C__law_right hr (by decide) rfl (pa_cons (C8.pe_mk C_Monoid_init hr (by decide) rfl (pa_cons (pv 6) pa_nil)) (pa_cons (pv 4) (pa_cons (pv 6) pa_nil))))))))) (pss_one (ps_ret pe_bl)) pss_nil)))))))
  (pss_one (ps_ret pe_bl))), ?_⟩
  try dsimp only [cxOf, Cx.nox, Cx.wish]
  obtain ⟨a, ns, rfl, ha, hns, TB0, k⟩ := h
  walk_at "go"
  intro p0 np0
  have s0 : Same H (L2.upd H p0 (.lst [.int 0])) := Same.new np0
  refine rd_catK (s0.seq ha) (SqL.of upd_same) (by simp; omega) fun p1 np1 => ?_
  have s1 := s0.trans (Same.new (o := .lst (ns.map V.int ++ [.int 0])) np1)
  have h1 : (L2.upd (L2.upd H p0 (.lst [.int 0])) p1 (.lst (ns.map V.int ++ [.int 0]))) p1 = some (.lst (ns.map V.int ++ [.int 0])) := upd_same
  generalize L2.upd (L2.upd H p0 (.lst [.int 0])) p1 (.lst (ns.map V.int ++ [.int 0])) = H1 at *
  walk_at "go"
  intro p2 np2
  have hcut : cutV (ns.map V.int ++ [.int 0]) none (some 3) = ((ns ++ [0]).take 3).map V.int := by
    rw [cutV_to (by omega), List.map_take, List.map_append]
    rfl
  rw [hcut]
  have s2 := s1.trans (Same.new (o := .lst (((ns ++ [0]).take 3).map V.int)) np2)
  have h2 : (L2.upd H1 p2 (.lst (((ns ++ [0]).take 3).map V.int))) p2 = some (.lst (((ns ++ [0]).take 3).map V.int)) := upd_same
  have T2 := Tabs.same TB0 s2
  generalize L2.upd H1 p2 (.lst (((ns ++ [0]).take 3).map V.int)) = H2 at *
  refine rd_qIl (SqL.of h2) ?_
  refine forL ((ns ++ [0]).take 3) V.int (fun i σ' H' => ∃ v1 v2 v3 v4 v5 v6, σ' = [some (.ref a), v1, v2, v3, v4, v5, v6] ∧ H' p2 = some (.lst (((ns ++ [0]).take 3).map V.int)) ∧ Tabs z.TT H') ⟨_, _, _, _, _, _, rfl, h2, T2⟩ (fun i σ' H' _ ⟨_, _, _, _, _, _, _, q, _⟩ => SqL.of q) ?_ ?_
  · rintro i c σ' H3 hc ⟨v1, v2, v3, v4, v5, v6, rfl, h3, T3⟩
    walk_at "go"
    refine ⟨c, rfl, fun src H4 nsrc s4 S4 => ?_⟩
    have h4 := s4 _ _ h3
    have T4 := Tabs.same T3 s4
    have hps : p2 ≠ src := ne_of_none h3 nsrc
    walk_at "go"
    refine forR (n := 3) (fun t σ' H' => ∃ v3 v4 v5 v6, σ' = [some (.ref a), some (.int c), some (.ref src), v3, v4, v5, v6] ∧ H' p2 = some (.lst (((ns ++ [0]).take 3).map V.int)) ∧ Tabs z.TT H' ∧ Src H' src) ⟨_, _, _, _, rfl, h4, T4, S4⟩ ?_ ?_
    · rintro t σ' H5 ht ⟨v3, v4, v5, v6, rfl, h5, T5, S5⟩
      walk_at "go"
      refine ⟨src, _, _, rfl, S5, by decide, by decide, by decide, by decide, fun q6 rows6 sz6 H6 nq6 nqp6 M6 hb6 S6 t6 X6 => ?_⟩
      have h6 := X6 _ _ hps h5
      have T6 : Tabs z.TT H6 := let ⟨_, _, _, e, _⟩ := S5; tabs_exBL e T5 X6
      walk_at "go"
      refine ⟨q6, rows6, sz6, rfl, t6, M6, fun t7 f7 w7 tb7 N7 H7 D7 s7 ht7 hf7 hw7 htb7 => ?_⟩
      refine rd_g3 (SqT.of ht7) ?_
      have h7 := s7 _ _ h6
      have T7 := Tabs.same T6 s7
      have S7 := S6.same (Kq.of s7)
      obtain ⟨fs, hfa, hfl, _⟩ := id hf7
      have hfN : (refs fs).length = N7 := by rw [refs_len, hfl, D7.stop]
      walk_at "go"
      rw [hfN]
      refine rd_dec (fun hc => ?_) (fun hc => ?_)
      · walk_at "go"
        intro x dx nx ndx hdx
        refine rd_init nx ndx hdx htb7 (Done.goodT M6 D7) T7 fun H8 me8 O8 T8 s8 => ?_
        walk_at "go"
        refine ⟨x, me8, f7, tb7, rows6, sz6, N7, rfl, M6, by omega, D7, by omega, O8, hf7.kq (Kq.of s8), htb7.kq (Kq.of s8), T8, fun H9 e9 T9 => ?_⟩
        have h9 := e9 _ _ (s8 _ _ h7) (fun _ z => nomatch z)
        have S9 : Src H9 src := let ⟨a1, b1, c1, e, r⟩ := S7; ⟨a1, b1, c1, e9 _ _ (s8 _ _ e) (fun _ z => nomatch z), r⟩
        walk_at "go"
        exact ⟨_, _, _, _, rfl, h9, T9, S9⟩
      · walk_at "go"
        exact ⟨_, _, _, _, rfl, h7, T7, S7⟩
    · rintro σ' H5 ⟨v3, v4, v5, v6, rfl, h5, T5, S5⟩
      exact ⟨_, _, _, _, _, _, rfl, h5, T5⟩
  · rintro σ' H3 ⟨v1, v2, v3, v4, v5, v6, rfl, h3, T3⟩
    walk_at "go"
    exact k _
end
end My
namespace My
open PySem PySem.Spec L2 SX LamX Mon
open PyProof.Rows hiding St
theorem all_mk {l : PySem.W.OpenLaw} {w : World} {K : PySem.W.Frag} {h : Heap} {mg : Str → Option Value} {fa : Addr} (X : K.In h) (G : h.Ns mainGlobals mg) (hfa : mg "law" = some (.ref fa))
    {C : Addr} (aC : PySem.W.nsIn K mainGlobals "Monoid" = some (some (.ref C))) (pg : PySem.W.plainGet K C Str.empty = true) (hd : PySem.W.hasDictIn K C = true) (po : PySem.W.plainOver K C = true) (sa : PySem.W.findIn K (.ref C) "__setattr__" = some (some (.builtin "object.__setattr__"))) (mkC : PySem.W.makesIn K C = true) (kC : PySem.W.keepIn K (.ref C) = true)
    (nf_right : PySem.W.findIn K (.ref C) "right" = some none)
    (nf_tree : PySem.W.findIn K (.ref C) "tree" = some none)
    (nf_lefts : PySem.W.findIn K (.ref C) "lefts" = some none)
    (nf_memory : PySem.W.findIn K (.ref C) "memory" = some none)
    {f0 : Addr} {od0 an0 : Option Addr} {sl0 : Array (Option Value)} {oc0 kV0 dc0 pm0 ct0 : Value} {cd0 : Value}
    (a0 : PySem.W.nsIn K mainGlobals "is_number" = some (some (.ref f0))) (l0 : K.lookup f0 = some ⟨oc0, od0, .func (PySem.W.fnOf "is_number" "is_number" (defArgs s_is_number) (defBody s_is_number) (defScope s_is_number) .none kV0 dc0 pm0 an0 cd0 ct0), sl0⟩) (c0 : PySem.W.codeIn K cd0 "is_number" = true) (k0 : PySem.W.keepIn K (.ref f0) = true)
    {f1 : Addr} {od1 an1 : Option Addr} {sl1 : Array (Option Value)} {oc1 kV1 dc1 pm1 ct1 : Value} {cd1 : Value}
    (a1 : PySem.W.nsIn K mainGlobals "is_sequence" = some (some (.ref f1))) (l1 : K.lookup f1 = some ⟨oc1, od1, .func (PySem.W.fnOf "is_sequence" "is_sequence" (defArgs s_is_sequence) (defBody s_is_sequence) (defScope s_is_sequence) .none kV1 dc1 pm1 an1 cd1 ct1), sl1⟩) (c1 : PySem.W.codeIn K cd1 "is_sequence" = true) (k1 : PySem.W.keepIn K (.ref f1) = true)
    {f2 : Addr} {od2 an2 : Option Addr} {sl2 : Array (Option Value)} {oc2 kV2 dc2 pm2 ct2 : Value} {cd2 : Value}
    (a2 : PySem.W.nsIn K mainGlobals "check_order" = some (some (.ref f2))) (l2 : K.lookup f2 = some ⟨oc2, od2, .func (PySem.W.fnOf "check_order" "check_order" (defArgs s_check_order) (defBody s_check_order) (defScope s_check_order) .none kV2 dc2 pm2 an2 cd2 ct2), sl2⟩) (c2 : PySem.W.codeIn K cd2 "check_order" = true) (k2 : PySem.W.keepIn K (.ref f2) = true)
    {f3 : Addr} {od3 an3 : Option Addr} {sl3 : Array (Option Value)} {oc3 kV3 dc3 pm3 ct3 : Value} {cd3 : Value}
    (a3 : PySem.W.nsIn K mainGlobals "tree_of" = some (some (.ref f3))) (l3 : K.lookup f3 = some ⟨oc3, od3, .func (PySem.W.fnOf "tree_of" "tree_of" (defArgs s_tree_of) (defBody s_tree_of) (defScope s_tree_of) .none kV3 dc3 pm3 an3 cd3 ct3), sl3⟩) (c3 : PySem.W.codeIn K cd3 "tree_of" = true) (k3 : PySem.W.keepIn K (.ref f3) = true)
    {f4 : Addr} {od4 an4 : Option Addr} {sl4 : Array (Option Value)} {oc4 kV4 dc4 pm4 ct4 : Value} {cd4 : Value}
    (a4 : PySem.W.nsIn K mainGlobals "left_of" = some (some (.ref f4))) (l4 : K.lookup f4 = some ⟨oc4, od4, .func (PySem.W.fnOf "left_of" "left_of" (defArgs s_left_of) (defBody s_left_of) (defScope s_left_of) .none kV4 dc4 pm4 an4 cd4 ct4), sl4⟩) (c4 : PySem.W.codeIn K cd4 "left_of" = true) (k4 : PySem.W.keepIn K (.ref f4) = true)
    {f5 : Addr} {od5 an5 : Option Addr} {sl5 : Array (Option Value)} {oc5 kV5 dc5 pm5 ct5 : Value} {cd5 : Value}
    (a5 : PySem.W.nsIn K mainGlobals "check_products" = some (some (.ref f5))) (l5 : K.lookup f5 = some ⟨oc5, od5, .func (PySem.W.fnOf "check_products" "check_products" (defArgs s_check_products) (defBody s_check_products) (defScope s_check_products) .none kV5 dc5 pm5 an5 cd5 ct5), sl5⟩) (c5 : PySem.W.codeIn K cd5 "check_products" = true) (k5 : PySem.W.keepIn K (.ref f5) = true)
    {f6 : Addr} {od6 an6 : Option Addr} {sl6 : Array (Option Value)} {oc6 kV6 dc6 pm6 ct6 : Value} {cd6 : Value}
    (a6 : PySem.W.nsIn K mainGlobals "_law_source" = some (some (.ref f6))) (l6 : K.lookup f6 = some ⟨oc6, od6, .func (PySem.W.fnOf "_law_source" "_law_source" (defArgs s__law_source) (defBody s__law_source) (defScope s__law_source) .none kV6 dc6 pm6 an6 cd6 ct6), sl6⟩) (c6 : PySem.W.codeIn K cd6 "_law_source" = true) (k6 : PySem.W.keepIn K (.ref f6) = true)
    {f7 : Addr} {od7 an7 : Option Addr} {sl7 : Array (Option Value)} {oc7 kV7 dc7 pm7 ct7 : Value} {cd7 : Value}
    (a7 : PySem.W.nsIn K mainGlobals "_law_draw" = some (some (.ref f7))) (l7 : K.lookup f7 = some ⟨oc7, od7, .func (PySem.W.fnOf "_law_draw" "_law_draw" (defArgs s__law_draw) (defBody s__law_draw) (defScope s__law_draw) .none kV7 dc7 pm7 an7 cd7 ct7), sl7⟩) (c7 : PySem.W.codeIn K cd7 "_law_draw" = true) (k7 : PySem.W.keepIn K (.ref f7) = true)
    {f8 : Addr} {od8 an8 : Option Addr} {sl8 : Array (Option Value)} {oc8 kV8 dc8 pm8 ct8 : Value} {cd8 : Value}
    (a8 : PySem.W.nsIn K mainGlobals "_law_table" = some (some (.ref f8))) (l8 : K.lookup f8 = some ⟨oc8, od8, .func (PySem.W.fnOf "_law_table" "_law_table" (defArgs s__law_table) (defBody s__law_table) (defScope s__law_table) .none kV8 dc8 pm8 an8 cd8 ct8), sl8⟩) (c8 : PySem.W.codeIn K cd8 "_law_table" = true) (k8 : PySem.W.keepIn K (.ref f8) = true)
    {f9 : Addr} {od9 an9 : Option Addr} {sl9 : Array (Option Value)} {oc9 kV9 dc9 pm9 ct9 : Value} {cc9 : Addr}
    (a9 : PySem.W.nsIn K mainGlobals "_law_steps" = some (some (.ref f9))) (l9 : K.lookup f9 = some ⟨oc9, od9, .func (PySem.W.fnOf "_law_steps" "_law_steps" (defArgs s__law_steps) (defBody s__law_steps) (defScope s__law_steps) .none kV9 dc9 pm9 an9 (.ref cc9) ct9), sl9⟩) (c9 : PySem.W.codeIn K (.ref cc9) "_law_steps" = true) (k9 : PySem.W.keepIn K (.ref f9) = true)
    {f10 : Addr} {od10 an10 : Option Addr} {sl10 : Array (Option Value)} {oc10 kV10 dc10 pm10 ct10 : Value} {cd10 : Value}
    (a10 : PySem.W.nsIn K mainGlobals "_law_products" = some (some (.ref f10))) (l10 : K.lookup f10 = some ⟨oc10, od10, .func (PySem.W.fnOf "_law_products" "_law_products" (defArgs s__law_products) (defBody s__law_products) (defScope s__law_products) .none kV10 dc10 pm10 an10 cd10 ct10), sl10⟩) (c10 : PySem.W.codeIn K cd10 "_law_products" = true) (k10 : PySem.W.keepIn K (.ref f10) = true)
    {f11 : Addr} {od11 an11 : Option Addr} {sl11 : Array (Option Value)} {oc11 kV11 dc11 pm11 ct11 : Value} {cd11 : Value}
    (a11 : PySem.W.nsIn K mainGlobals "_law_all_words" = some (some (.ref f11))) (l11 : K.lookup f11 = some ⟨oc11, od11, .func (PySem.W.fnOf "_law_all_words" "_law_all_words" (defArgs s__law_all_words) (defBody s__law_all_words) (defScope s__law_all_words) .none kV11 dc11 pm11 an11 cd11 ct11), sl11⟩) (c11 : PySem.W.codeIn K cd11 "_law_all_words" = true) (k11 : PySem.W.keepIn K (.ref f11) = true)
    {f12 : Addr} {od12 an12 : Option Addr} {sl12 : Array (Option Value)} {oc12 kV12 dc12 pm12 ct12 : Value} {cd12 : Value}
    (a12 : PySem.W.findIn K (.ref C) "places_of" = some (some (.ref f12))) (i12 : PySem.W.isFn K (.ref f12) = true) (l12 : K.lookup f12 = some ⟨oc12, od12, .func (PySem.W.fnOf "places_of" "Monoid.places_of" (defArgs s_Monoid_places_of) (defBody s_Monoid_places_of) (defScope s_Monoid_places_of) .none kV12 dc12 pm12 an12 cd12 ct12), sl12⟩) (c12 : PySem.W.codeIn K cd12 "Monoid.places_of" = true) (k12 : PySem.W.keepIn K (.ref f12) = true)
    {f13 : Addr} {od13 an13 : Option Addr} {sl13 : Array (Option Value)} {oc13 kV13 dc13 pm13 ct13 : Value} {cd13 : Value}
    (a13 : PySem.W.findIn K (.ref C) "layers_left" = some (some (.ref f13))) (i13 : PySem.W.isFn K (.ref f13) = true) (l13 : K.lookup f13 = some ⟨oc13, od13, .func (PySem.W.fnOf "layers_left" "Monoid.layers_left" (defArgs s_Monoid_layers_left) (defBody s_Monoid_layers_left) (defScope s_Monoid_layers_left) .none kV13 dc13 pm13 an13 cd13 ct13), sl13⟩) (c13 : PySem.W.codeIn K cd13 "Monoid.layers_left" = true) (k13 : PySem.W.keepIn K (.ref f13) = true)
    {f14 : Addr} {od14 an14 : Option Addr} {sl14 : Array (Option Value)} {oc14 kV14 dc14 pm14 ct14 : Value} {cd14 : Value}
    (a14 : PySem.W.findIn K (.ref C) "first_led" = some (some (.ref f14))) (i14 : PySem.W.isFn K (.ref f14) = true) (l14 : K.lookup f14 = some ⟨oc14, od14, .func (PySem.W.fnOf "first_led" "Monoid.first_led" (defArgs s_Monoid_first_led) (defBody s_Monoid_first_led) (defScope s_Monoid_first_led) .none kV14 dc14 pm14 an14 cd14 ct14), sl14⟩) (c14 : PySem.W.codeIn K cd14 "Monoid.first_led" = true) (k14 : PySem.W.keepIn K (.ref f14) = true)
    {f15 : Addr} {od15 an15 : Option Addr} {sl15 : Array (Option Value)} {oc15 kV15 dc15 pm15 ct15 : Value} {cd15 : Value}
    (a15 : PySem.W.nsIn K mainGlobals "check_form" = some (some (.ref f15))) (l15 : K.lookup f15 = some ⟨oc15, od15, .func (PySem.W.fnOf "check_form" "check_form" (defArgs s_check_form) (defBody s_check_form) (defScope s_check_form) .none kV15 dc15 pm15 an15 cd15 ct15), sl15⟩) (c15 : PySem.W.codeIn K cd15 "check_form" = true) (k15 : PySem.W.keepIn K (.ref f15) = true)
    {f16 : Addr} {od16 an16 : Option Addr} {sl16 : Array (Option Value)} {oc16 kV16 dc16 pm16 ct16 : Value} {cd16 : Value}
    (a16 : PySem.W.nsIn K mainGlobals "_law_maps" = some (some (.ref f16))) (l16 : K.lookup f16 = some ⟨oc16, od16, .func (PySem.W.fnOf "_law_maps" "_law_maps" (defArgs s__law_maps) (defBody s__law_maps) (defScope s__law_maps) .none kV16 dc16 pm16 an16 cd16 ct16), sl16⟩) (c16 : PySem.W.codeIn K cd16 "_law_maps" = true) (k16 : PySem.W.keepIn K (.ref f16) = true)
    {f17 : Addr} {od17 an17 : Option Addr} {sl17 : Array (Option Value)} {oc17 kV17 dc17 pm17 ct17 : Value} {cd17 : Value}
    (a17 : PySem.W.findIn K (.ref C) "check_number" = some (some (.ref f17))) (i17 : PySem.W.isFn K (.ref f17) = true) (l17 : K.lookup f17 = some ⟨oc17, od17, .func (PySem.W.fnOf "check_number" "Monoid.check_number" (defArgs s_Monoid_check_number) (defBody s_Monoid_check_number) (defScope s_Monoid_check_number) .none kV17 dc17 pm17 an17 cd17 ct17), sl17⟩) (c17 : PySem.W.codeIn K cd17 "Monoid.check_number" = true) (k17 : PySem.W.keepIn K (.ref f17) = true)
    {f18 : Addr} {od18 an18 : Option Addr} {sl18 : Array (Option Value)} {oc18 kV18 dc18 pm18 ct18 : Value} {cd18 : Value}
    (a18 : PySem.W.findIn K (.ref C) "of_word" = some (some (.ref f18))) (i18 : PySem.W.isFn K (.ref f18) = true) (l18 : K.lookup f18 = some ⟨oc18, od18, .func (PySem.W.fnOf "of_word" "Monoid.of_word" (defArgs s_Monoid_of_word) (defBody s_Monoid_of_word) (defScope s_Monoid_of_word) .none kV18 dc18 pm18 an18 cd18 ct18), sl18⟩) (c18 : PySem.W.codeIn K cd18 "Monoid.of_word" = true) (k18 : PySem.W.keepIn K (.ref f18) = true)
    {f19 : Addr} {od19 an19 : Option Addr} {sl19 : Array (Option Value)} {oc19 kV19 dc19 pm19 ct19 : Value} {cd19 : Value}
    (a19 : PySem.W.findIn K (.ref C) "__init__" = some (some (.ref f19))) (i19 : PySem.W.isFn K (.ref f19) = true) (l19 : K.lookup f19 = some ⟨oc19, od19, .func (PySem.W.fnOf "__init__" "Monoid.__init__" (defArgs s_Monoid_init) (defBody s_Monoid_init) (defScope s_Monoid_init) .none kV19 dc19 pm19 an19 cd19 ct19), sl19⟩) (c19 : PySem.W.codeIn K cd19 "Monoid.__init__" = true) (k19 : PySem.W.keepIn K (.ref f19) = true)
    {f20 : Addr} {od20 an20 : Option Addr} {sl20 : Array (Option Value)} {oc20 kV20 dc20 pm20 ct20 : Value} {cd20 : Value}
    (a20 : PySem.W.findIn K (.ref C) "least_right" = some (some (.ref f20))) (i20 : PySem.W.isFn K (.ref f20) = true) (l20 : K.lookup f20 = some ⟨oc20, od20, .func (PySem.W.fnOf "least_right" "Monoid.least_right" (defArgs s_Monoid_least_right) (defBody s_Monoid_least_right) (defScope s_Monoid_least_right) .none kV20 dc20 pm20 an20 cd20 ct20), sl20⟩) (c20 : PySem.W.codeIn K cd20 "Monoid.least_right" = true) (k20 : PySem.W.keepIn K (.ref f20) = true)
    {f21 : Addr} {od21 an21 : Option Addr} {sl21 : Array (Option Value)} {oc21 kV21 dc21 pm21 ct21 : Value} {cd21 : Value}
    (a21 : PySem.W.findIn K (.ref C) "least_left" = some (some (.ref f21))) (i21 : PySem.W.isFn K (.ref f21) = true) (l21 : K.lookup f21 = some ⟨oc21, od21, .func (PySem.W.fnOf "least_left" "Monoid.least_left" (defArgs s_Monoid_least_left) (defBody s_Monoid_least_left) (defScope s_Monoid_least_left) .none kV21 dc21 pm21 an21 cd21 ct21), sl21⟩) (c21 : PySem.W.codeIn K cd21 "Monoid.least_left" = true) (k21 : PySem.W.keepIn K (.ref f21) = true)
    {f22 : Addr} {od22 an22 : Option Addr} {sl22 : Array (Option Value)} {oc22 kV22 dc22 pm22 ct22 : Value} {cd22 : Value}
    (a22 : PySem.W.nsIn K mainGlobals "_law_by_words" = some (some (.ref f22))) (l22 : K.lookup f22 = some ⟨oc22, od22, .func (PySem.W.fnOf "_law_by_words" "_law_by_words" (defArgs s__law_by_words) (defBody s__law_by_words) (defScope s__law_by_words) .none kV22 dc22 pm22 an22 cd22 ct22), sl22⟩) (c22 : PySem.W.codeIn K cd22 "_law_by_words" = true) (k22 : PySem.W.keepIn K (.ref f22) = true)
    {f23 : Addr} {od23 an23 : Option Addr} {sl23 : Array (Option Value)} {oc23 kV23 dc23 pm23 ct23 : Value} {cd23 : Value}
    (a23 : PySem.W.nsIn K mainGlobals "_law_right" = some (some (.ref f23))) (l23 : K.lookup f23 = some ⟨oc23, od23, .func (PySem.W.fnOf "_law_right" "_law_right" (defArgs s__law_right) (defBody s__law_right) (defScope s__law_right) .none kV23 dc23 pm23 an23 cd23 ct23), sl23⟩) (c23 : PySem.W.codeIn K cd23 "_law_right" = true) (k23 : PySem.W.keepIn K (.ref f23) = true)
    {f24 : Addr} {od24 an24 : Option Addr} {sl24 : Array (Option Value)} {oc24 kV24 dc24 pm24 ct24 : Value} {cd24 : Value}
    (a24 : PySem.W.nsIn K mainGlobals "law" = some (some (.ref f24))) (l24 : K.lookup f24 = some ⟨oc24, od24, .func (PySem.W.fnOf "law" "law" (defArgs s_law) (defBody s_law) (defScope s_law) .none kV24 dc24 pm24 an24 cd24 ct24), sl24⟩) (c24 : PySem.W.codeIn K cd24 "law" = true) (k24 : PySem.W.keepIn K (.ref f24) = true)
    {P9 : Addr} (t9 : h.get? P9 = some { cls := .none, data := .fields #[] }) (hn9 : K.lookup P9 = none) (hc9 : PySem.W.codeHdIn K cc9 P9 = true)
    (z_int : PySem.W.nsIn K mainGlobals "int" = some none)
    (z_isinstance : PySem.W.nsIn K mainGlobals "isinstance" = some none)
    (z_bool : PySem.W.nsIn K mainGlobals "bool" = some none)
    (z_list : PySem.W.nsIn K mainGlobals "list" = some none)
    (z_tuple : PySem.W.nsIn K mainGlobals "tuple" = some none)
    (z_len : PySem.W.nsIn K mainGlobals "len" = some none)
    (z_enumerate : PySem.W.nsIn K mainGlobals "enumerate" = some none)
    (z_all : PySem.W.nsIn K mainGlobals "all" = some none)
    (z_abs : PySem.W.nsIn K mainGlobals "abs" = some none)
    (z_range : PySem.W.nsIn K mainGlobals "range" = some none)
    (z_zip : PySem.W.nsIn K mainGlobals "zip" = some none)
    (z_sorted : PySem.W.nsIn K mainGlobals "sorted" = some none)
    (z_dict : PySem.W.nsIn K mainGlobals "dict" = some none)
    (z_str : PySem.W.nsIn K mainGlobals "str" = some none)
    {u_MOST_ELEMENTS : Value} (q_MOST_ELEMENTS : PySem.W.nsIn K mainGlobals "MOST_ELEMENTS" = some (some u_MOST_ELEMENTS)) (r_MOST_ELEMENTS : RelV (.int 2000) u_MOST_ELEMENTS)
    {u_MOST_LETTERS : Value} (q_MOST_LETTERS : PySem.W.nsIn K mainGlobals "MOST_LETTERS" = some (some u_MOST_LETTERS)) (r_MOST_LETTERS : RelV (.int 6) u_MOST_LETTERS)
    {u_LETTERS : Value} (q_LETTERS : PySem.W.nsIn K mainGlobals "LETTERS" = some (some u_LETTERS)) (r_LETTERS : RelV (.str (S [97, 98, 99, 100, 101, 102])) u_LETTERS)
    {u_MOST_WORD : Value} (q_MOST_WORD : PySem.W.nsIn K mainGlobals "MOST_WORD" = some (some u_MOST_WORD)) (r_MOST_WORD : RelV (.int 100) u_MOST_WORD)
    (hne : True) : LawAtS l w K CX0 6 63 "script" mg fa h := by
  have e := hfa.symm.trans (PySem.W.mg_of X G a24)
  cases e
  have T : Txt K mg := ⟨PySem.W.mg_none_of X G z_int, PySem.W.mg_none_of X G z_isinstance, PySem.W.mg_none_of X G z_bool, PySem.W.mg_none_of X G z_list, PySem.W.mg_none_of X G z_tuple, PySem.W.mg_none_of X G z_len, PySem.W.mg_none_of X G z_enumerate, PySem.W.mg_none_of X G z_all, PySem.W.mg_none_of X G z_abs, PySem.W.mg_none_of X G z_range, PySem.W.mg_none_of X G z_zip, PySem.W.mg_none_of X G z_sorted, PySem.W.mg_none_of X G z_dict, PySem.W.mg_none_of X G z_str, ⟨u_MOST_ELEMENTS, PySem.W.mg_of X G q_MOST_ELEMENTS, r_MOST_ELEMENTS⟩, ⟨u_MOST_LETTERS, PySem.W.mg_of X G q_MOST_LETTERS, r_MOST_LETTERS⟩, ⟨u_LETTERS, PySem.W.mg_of X G q_LETTERS, r_LETTERS⟩, ⟨u_MOST_WORD, PySem.W.mg_of X G q_MOST_WORD, r_MOST_WORD⟩⟩
  let z : Zed := { C := C, P__law_steps := P9 }
  have Z : Zok K mg z := ⟨⟨pg, hd, po, sa⟩, nf_right, nf_tree, nf_lefts, nf_memory⟩
  have F0 := fun_mk (st := s_is_number) l0 c0 k0
  have b0 := F0.binds (ps := ["thing"]) fun _ _ _ _ _ _ us hl => match us, hl with | [_], _ => rfl
  have F1 := fun_mk (st := s_is_sequence) l1 c1 k1
  have b1 := F1.binds (ps := ["thing"]) fun _ _ _ _ _ _ us hl => match us, hl with | [_], _ => rfl
  have F2 := fun_mk (st := s_check_order) l2 c2 k2
  have b2 := F2.binds (ps := ["right"]) fun _ _ _ _ _ _ us hl => match us, hl with | [_], _ => rfl
  have F3 := fun_mk (st := s_tree_of) l3 c3 k3
  have b3 := F3.binds (ps := ["right"]) fun _ _ _ _ _ _ us hl => match us, hl with | [_], _ => rfl
  have F4 := fun_mk (st := s_left_of) l4 c4 k4
  have b4 := F4.binds (ps := ["right", "tree"]) fun _ _ _ _ _ _ us hl => match us, hl with | [_, _], _ => rfl
  have F5 := fun_mk (st := s_check_products) l5 c5 k5
  have b5 := F5.binds (ps := ["right", "left"]) fun _ _ _ _ _ _ us hl => match us, hl with | [_, _], _ => rfl
  have F6 := fun_mk (st := s__law_source) l6 c6 k6
  have b6 := F6.binds (ps := ["cell"]) fun _ _ _ _ _ _ us hl => match us, hl with | [_], _ => rfl
  have F7 := fun_mk (st := s__law_draw) l7 c7 k7
  have b7 := F7.binds (ps := ["source", "many"]) fun _ _ _ _ _ _ us hl => match us, hl with | [_, _], _ => rfl
  have F8 := fun_mk (st := s__law_table) l8 c8 k8
  have b8 := F8.binds (ps := ["rows"]) fun _ _ _ _ _ _ us hl => match us, hl with | [_], _ => rfl
  have F9 : FunC K cc9 "_law_steps" "_law_steps" s__law_steps f9 _ := ⟨⟨_, _, _, _, _, _, _, _, rfl, l9, c9⟩⟩
  have G9 := fun_mk (st := s__law_steps) l9 c9 k9
  have b9 := G9.binds (ps := ["rows", "first"]) fun _ _ _ _ _ _ us hl => match us, hl with | [_, _], _ => rfl
  have F10 := fun_mk (st := s__law_products) l10 c10 k10
  have b10 := F10.binds (ps := ["found", "table"]) fun _ _ _ _ _ _ us hl => match us, hl with | [_, _], _ => rfl
  have F11 := fun_mk (st := s__law_all_words) l11 c11 k11
  have b11 := F11.binds (ps := ["letters", "most"]) fun _ _ _ _ _ _ us hl => match us, hl with | [_, _], _ => rfl
  have F12 := fun_mk (st := s_Monoid_places_of) l12 c12 k12
  have b12 := F12.binds (ps := ["self", "word", "most"]) fun _ _ _ _ _ _ us hl => match us, hl with | [_, _, _], _ => rfl
  have F13 := fun_mk (st := s_Monoid_layers_left) l13 c13 k13
  have b13 := F13.binds (ps := ["self", "one"]) fun _ _ _ _ _ _ us hl => match us, hl with | [_, _], _ => rfl
  have F14 := fun_mk (st := s_Monoid_first_led) l14 c14 k14
  have b14 := F14.binds (ps := ["self", "numbers", "goals"]) fun _ _ _ _ _ _ us hl => match us, hl with | [_, _, _], _ => rfl
  have F15 := fun_mk (st := s_check_form) l15 c15 k15
  have b15 := F15.binds (ps := ["right"]) fun _ _ _ _ _ _ us hl => match us, hl with | [_], _ => rfl
  have F16 := fun_mk (st := s__law_maps) l16 c16 k16
  have b16 := F16.binds (ps := ["source", "most_points", "most_letters"]) fun _ _ _ _ _ _ us hl => match us, hl with | [_, _, _], _ => rfl
  have F17 := fun_mk (st := s_Monoid_check_number) l17 c17 k17
  have b17 := F17.binds (ps := ["self", "number"]) fun _ _ _ _ _ _ us hl => match us, hl with | [_, _], _ => rfl
  have F18 := fun_mk (st := s_Monoid_of_word) l18 c18 k18
  have b18 := F18.binds (ps := ["self", "word"]) fun _ _ _ _ _ _ us hl => match us, hl with | [_, _], _ => rfl
  have F19 := fun_mk (st := s_Monoid_init) l19 c19 k19
  have b19 := F19.binds (ps := ["self", "right"]) fun _ _ _ _ _ _ us hl => match us, hl with | [_, _], _ => rfl
  have F20 := fun_mk (st := s_Monoid_least_right) l20 c20 k20
  have b20 := F20.binds (ps := ["self", "one", "other"]) fun _ _ _ _ _ _ us hl => match us, hl with | [_, _, _], _ => rfl
  have F21 := fun_mk (st := s_Monoid_least_left) l21 c21 k21
  have b21 := F21.binds (ps := ["self", "one", "other"]) fun _ _ _ _ _ _ us hl => match us, hl with | [_, _, _], _ => rfl
  have F22 := fun_mk (st := s__law_by_words) l22 c22 k22
  have b22 := F22.binds (ps := ["monoid", "products", "letters", "most"]) fun _ _ _ _ _ _ us hl => match us, hl with | [_, _, _, _], _ => rfl
  have F23 := fun_mk (st := s__law_right) l23 c23 k23
  have b23 := F23.binds (ps := ["monoid", "found", "table"]) fun _ _ _ _ _ _ us hl => match us, hl with | [_, _, _], _ => rfl
  have F24 := fun_mk (st := s_law) l24 c24 k24
  have b24 := F24.binds (ps := ["script"]) fun _ _ _ _ _ _ us hl => match us, hl with | [_], _ => rfl
  refine ⟨PySem.W.fnOf "law" "law" (defArgs s_law) (defBody s_law) (defScope s_law) .none kV24 dc24 pm24 an24 cd24 ct24, [(cc9, P9)], sp_law z K, List.forall_mem_cons.mpr ⟨t9, fun _ h => nomatch h⟩, List.forall_mem_cons.mpr ⟨hn9, fun _ h => nomatch h⟩, List.forall_mem_cons.mpr ⟨PySem.W.codeHd_of_K X hc9, fun _ h => nomatch h⟩, fun s v => .of_eq rfl, fun H a ns hl _ hP hS => ⟨a, ns, rfl, hS, hl, ?_, fun _ => rfl⟩, fun base _ _ TBs => ?_⟩
  · intro p hp
    rcases List.mem_cons.mp hp with e | hp
    · rw [e]; exact TabS.nil (hP (cc9, P9) (by simp))
    · cases hp
  have TB9 : TabB base mg cc9 P9 := TBs (cc9, P9) (by simp)
  have C_is_number : Cal l.prog w K mg base 1 "is_number" (sp_is_number K) := ⟨_, _, _, ok_is_number F0 T, PySem.W.mg_of X G a0, k0, b0⟩
  have C_is_sequence : Cal l.prog w K mg base 1 "is_sequence" (sp_is_sequence K) := ⟨_, _, _, ok_is_sequence F1 T, PySem.W.mg_of X G a1, k1, b1⟩
  have C_check_order : Cal l.prog w K mg base 1 "check_order" (sp_check_order K) := ⟨_, _, _, ok_check_order F2 T, PySem.W.mg_of X G a2, k2, b2⟩
  have C_tree_of : Cal l.prog w K mg base 1 "tree_of" (sp_tree_of K) := ⟨_, _, _, ok_tree_of F3 T, PySem.W.mg_of X G a3, k3, b3⟩
  have C_left_of : Cal l.prog w K mg base 1 "left_of" (sp_left_of K) := ⟨_, _, _, ok_left_of F4 T, PySem.W.mg_of X G a4, k4, b4⟩
  have C_check_products : Cal l.prog w K mg base 1 "check_products" (sp_check_products K) := ⟨_, _, _, ok_check_products F5 T, PySem.W.mg_of X G a5, k5, b5⟩
  have C__law_source : Cal l.prog w K mg base 1 "_law_source" (sp__law_source K) := ⟨_, _, _, ok__law_source F6 T, PySem.W.mg_of X G a6, k6, b6⟩
  have C__law_draw : Cal l.prog w K mg base 1 "_law_draw" (sp__law_draw K) := ⟨_, _, _, ok__law_draw F7 T, PySem.W.mg_of X G a7, k7, b7⟩
  have C__law_table : Cal l.prog w K mg base 1 "_law_table" (sp__law_table K) := ⟨_, _, _, ok__law_table F8 T, PySem.W.mg_of X G a8, k8, b8⟩
  have C__law_steps : Cal l.prog w K mg base 1 "_law_steps" (sp__law_steps z K) := ⟨_, _, _, ok__law_steps TB9 Z F9 T, PySem.W.mg_of X G a9, k9, b9⟩
  have C__law_products : Cal l.prog w K mg base 1 "_law_products" (sp__law_products K) := ⟨_, _, _, ok__law_products F10 T, PySem.W.mg_of X G a10, k10, b10⟩
  have C__law_all_words : Cal l.prog w K mg base 1 "_law_all_words" (sp__law_all_words K) := ⟨_, _, _, ok__law_all_words F11 T, PySem.W.mg_of X G a11, k11, b11⟩
  have C_Monoid_places_of : C8.Met l.prog w K mg base 1 z.C "places_of" (sp_Monoid_places_of z K) [] := ⟨_, _, _, _, Z.cl, ⟨a12, i12, k12⟩, ok_Monoid_places_of Z F12 T, b12, .nil⟩
  have C_Monoid_layers_left : C8.Met l.prog w K mg base 1 z.C "layers_left" (sp_Monoid_layers_left z K) [] := ⟨_, _, _, _, Z.cl, ⟨a13, i13, k13⟩, ok_Monoid_layers_left Z F13 T, b13, .nil⟩
  have C_Monoid_first_led : C8.Met l.prog w K mg base 1 z.C "first_led" (sp_Monoid_first_led z K) [] := ⟨_, _, _, _, Z.cl, ⟨a14, i14, k14⟩, ok_Monoid_first_led Z F14 T, b14, .nil⟩
  have C_check_form : Cal l.prog w K mg base 2 "check_form" (sp_check_form K) := ⟨_, _, _, ok_check_form F15 T C_is_sequence C_is_number, PySem.W.mg_of X G a15, k15, b15⟩
  have C__law_maps : Cal l.prog w K mg base 2 "_law_maps" (sp__law_maps K) := ⟨_, _, _, ok__law_maps F16 T C__law_draw, PySem.W.mg_of X G a16, k16, b16⟩
  have C_Monoid_check_number : C8.Met l.prog w K mg base 2 z.C "check_number" (sp_Monoid_check_number z K) [] := ⟨_, _, _, _, Z.cl, ⟨a17, i17, k17⟩, ok_Monoid_check_number Z F17 T C_is_number, b17, .nil⟩
  have C_Monoid_of_word : C8.Met l.prog w K mg base 2 z.C "of_word" (sp_Monoid_of_word z K) [] := ⟨_, _, _, _, Z.cl, ⟨a18, i18, k18⟩, ok_Monoid_of_word Z F18 T C_Monoid_places_of, b18, .nil⟩
  have C_Monoid_init : C8.Mak l.prog w K mg base 3 "Monoid" z.C (sp_Monoid_init z K) [] := ⟨_, _, _, _, ⟨mkC, a19, i19, kC⟩, ok_Monoid_init Z F19 T C_check_form C_check_order C_tree_of C_left_of C_check_products, PySem.W.mg_of X G aC, b19, .nil⟩
  have C_Monoid_least_right : C8.Met l.prog w K mg base 3 z.C "least_right" (sp_Monoid_least_right z K) [] := ⟨_, _, _, _, Z.cl, ⟨a20, i20, k20⟩, ok_Monoid_least_right Z F20 T C_Monoid_check_number, b20, .nil⟩
  have C_Monoid_least_left : C8.Met l.prog w K mg base 3 z.C "least_left" (sp_Monoid_least_left z K) [] := ⟨_, _, _, _, Z.cl, ⟨a21, i21, k21⟩, ok_Monoid_least_left Z F21 T C_Monoid_check_number C_Monoid_layers_left C_Monoid_first_led, b21, .nil⟩
  have C__law_by_words : Cal l.prog w K mg base 4 "_law_by_words" (sp__law_by_words z K) := ⟨_, _, _, ok__law_by_words Z F22 T C__law_all_words C_Monoid_of_word C_Monoid_least_right C_Monoid_least_left, PySem.W.mg_of X G a22, k22, b22⟩
  have C__law_right : Cal l.prog w K mg base 5 "_law_right" (sp__law_right z K) := ⟨_, _, _, ok__law_right Z F23 T C__law_products C__law_steps C_Monoid_least_right C_Monoid_least_left C_Monoid_of_word C__law_by_words, PySem.W.mg_of X G a23, k23, b23⟩
  exact ok_law Z F24 T C__law_source C__law_maps C__law_table C_Monoid_init C__law_right
end My
open PySem PySem.W PyProof.Rows
set_option maxRecDepth 100000 in
set_option maxHeartbeats 0 in
theorem PySem.Challenge.cw_wordfolds_k15_least_words_between_two_holds : PySem.Challenge.rw_wordfolds_k15_least_words_between_two.Holds := by
  w_on; o_law; k_head; (case hw => w_witness2)
  k_fill
  refine LamX.walk_ofTs (l := PySem.Challenge.rw_wordfolds_k15_least_words_between_two) (n := 63) (k := 6) (x := "script") (CX := fun _ => L2.CX0) rfl (by decide) rfl ⟨rfl, by decide, by decide⟩ (fun w h Y => PySem.W.km_in_of Y) ?F (fun _ _ _ _ _ z => z)
  case F =>
    intro w mg fa h Y KX G hmg
    have hT8 := PySem.W.km_tabs_of Y
    refine' My.all_mk KX G hmg ?aC ?pg ?hd ?po ?sa ?mkC ?kC ?nf_right ?nf_tree ?nf_lefts ?nf_memory ?a0 ?l0 ?c0 ?k0 ?a1 ?l1 ?c1 ?k1 ?a2 ?l2 ?c2 ?k2 ?a3 ?l3 ?c3 ?k3 ?a4 ?l4 ?c4 ?k4 ?a5 ?l5 ?c5 ?k5 ?a6 ?l6 ?c6 ?k6 ?a7 ?l7 ?c7 ?k7 ?a8 ?l8 ?c8 ?k8 ?a9 ?l9 ?c9 ?k9 ?a10 ?l10 ?c10 ?k10 ?a11 ?l11 ?c11 ?k11 ?a12 ?i12 ?l12 ?c12 ?k12 ?a13 ?i13 ?l13 ?c13 ?k13 ?a14 ?i14 ?l14 ?c14 ?k14 ?a15 ?l15 ?c15 ?k15 ?a16 ?l16 ?c16 ?k16 ?a17 ?i17 ?l17 ?c17 ?k17 ?a18 ?i18 ?l18 ?c18 ?k18 ?a19 ?i19 ?l19 ?c19 ?k19 ?a20 ?i20 ?l20 ?c20 ?k20 ?a21 ?i21 ?l21 ?c21 ?k21 ?a22 ?l22 ?c22 ?k22 ?a23 ?l23 ?c23 ?k23 ?a24 ?l24 ?c24 ?k24 ?t9 ?hn9 ?hc9 ?z_int ?z_isinstance ?z_bool ?z_list ?z_tuple ?z_len ?z_enumerate ?z_all ?z_abs ?z_range ?z_zip ?z_sorted ?z_dict ?z_str ?q_MOST_ELEMENTS ?r_MOST_ELEMENTS ?q_MOST_LETTERS ?r_MOST_LETTERS ?q_LETTERS ?r_LETTERS ?q_MOST_WORD ?r_MOST_WORD ?hne
    (case aC => k_is)
    (case pg => k_is)
    (case hd => k_is)
    (case po => k_is)
    (case sa => k_is)
    (case mkC => k_is)
    (case kC => k_is)
    (case nf_right => k_is)
    (case nf_tree => k_is)
    (case nf_lefts => k_is)
    (case nf_memory => k_is)
    (case a0 => k_is)
    (case l0 => k_is)
    (case c0 => k_is)
    (case k0 => k_is)
    (case a1 => k_is)
    (case l1 => k_is)
    (case c1 => k_is)
    (case k1 => k_is)
    (case a2 => k_is)
    (case l2 => k_is)
    (case c2 => k_is)
    (case k2 => k_is)
    (case a3 => k_is)
    (case l3 => k_is)
    (case c3 => k_is)
    (case k3 => k_is)
    (case a4 => k_is)
    (case l4 => k_is)
    (case c4 => k_is)
    (case k4 => k_is)
    (case a5 => k_is)
    (case l5 => k_is)
    (case c5 => k_is)
    (case k5 => k_is)
    (case a6 => k_is)
    (case l6 => k_is)
    (case c6 => k_is)
    (case k6 => k_is)
    (case a7 => k_is)
    (case l7 => k_is)
    (case c7 => k_is)
    (case k7 => k_is)
    (case a8 => k_is)
    (case l8 => k_is)
    (case c8 => k_is)
    (case k8 => k_is)
    (case a9 => k_is)
    (case l9 => k_is)
    (case c9 => k_is)
    (case k9 => k_is)
    (case a10 => k_is)
    (case l10 => k_is)
    (case c10 => k_is)
    (case k10 => k_is)
    (case a11 => k_is)
    (case l11 => k_is)
    (case c11 => k_is)
    (case k11 => k_is)
    (case a12 => k_is)
    (case i12 => k_is)
    (case l12 => k_is)
    (case c12 => k_is)
    (case k12 => k_is)
    (case a13 => k_is)
    (case i13 => k_is)
    (case l13 => k_is)
    (case c13 => k_is)
    (case k13 => k_is)
    (case a14 => k_is)
    (case i14 => k_is)
    (case l14 => k_is)
    (case c14 => k_is)
    (case k14 => k_is)
    (case a15 => k_is)
    (case l15 => k_is)
    (case c15 => k_is)
    (case k15 => k_is)
    (case a16 => k_is)
    (case l16 => k_is)
    (case c16 => k_is)
    (case k16 => k_is)
    (case a17 => k_is)
    (case i17 => k_is)
    (case l17 => k_is)
    (case c17 => k_is)
    (case k17 => k_is)
    (case a18 => k_is)
    (case i18 => k_is)
    (case l18 => k_is)
    (case c18 => k_is)
    (case k18 => k_is)
    (case a19 => k_is)
    (case i19 => k_is)
    (case l19 => k_is)
    (case c19 => k_is)
    (case k19 => k_is)
    (case a20 => k_is)
    (case i20 => k_is)
    (case l20 => k_is)
    (case c20 => k_is)
    (case k20 => k_is)
    (case a21 => k_is)
    (case i21 => k_is)
    (case l21 => k_is)
    (case c21 => k_is)
    (case k21 => k_is)
    (case a22 => k_is)
    (case l22 => k_is)
    (case c22 => k_is)
    (case k22 => k_is)
    (case a23 => k_is)
    (case l23 => k_is)
    (case c23 => k_is)
    (case k23 => k_is)
    (case a24 => k_is)
    (case l24 => k_is)
    (case c24 => k_is)
    (case k24 => k_is)
    (case t9 => exact hT8 423 (by simp))
    (case hn9 => first | k_is | kernel_rfl | rfl)
    (case hc9 => first | k_is | kernel_rfl | rfl)
    (case z_int => k_is)
    (case z_isinstance => k_is)
    (case z_bool => k_is)
    (case z_list => k_is)
    (case z_tuple => k_is)
    (case z_len => k_is)
    (case z_enumerate => k_is)
    (case z_all => k_is)
    (case z_abs => k_is)
    (case z_range => k_is)
    (case z_zip => k_is)
    (case z_sorted => k_is)
    (case z_dict => k_is)
    (case z_str => k_is)
    (case q_MOST_ELEMENTS => k_is)
    (case r_MOST_ELEMENTS => exact ⟨_, rfl⟩)
    (case q_MOST_LETTERS => k_is)
    (case r_MOST_LETTERS => exact ⟨_, rfl⟩)
    (case q_LETTERS => k_is)
    (case r_LETTERS => exact ⟨_, rfl⟩)
    (case q_MOST_WORD => k_is)
    (case r_MOST_WORD => exact ⟨_, rfl⟩)
    (case hne => decide)
#print axioms PySem.Challenge.cw_wordfolds_k15_least_words_between_two_holds
